/-
  the evaluator is sound: what a run of it gives, the model comes to on every schedule.
-/
import Derived.Test.YtpnbiapmndbhgaaGreatDoorIsoP3
import Derived.Orders
set_option linter.unusedSimpArgs false
set_option linter.unusedVariables false
namespace Go.Iso
open Classical
section
variable {P:Program}{g0 lo:Nat}{ops:Array Oper}{a m:Nat}{S:Seg}{μ0:Mu}{w0:World}
def CF(S:Seg)(a m:Nat):(Nat→Bool)→List Nat→Prop
 | T,[]=>∀j,j < m→T j=true
 | T,x::l=>∃j,x=a+j∧Ready S a m T j∧CF S a m (ff T j) l
theorem FInv.all(hS:SegOk P g0 lo ops a m S)(hc:Canon P g0 m S μ0)(f:FuncId)(rd:Option Nat)(ds:List Deferred)(k:List Item)(cs:List Frame)(rest:List Nat):
  ∀(L:List Nat) (T:Nat→Bool) (μ:Mu) (t:Array Value) (w:World),FInv P g0 lo m S μ0 w0 T μ t w→xk S a m T→CF S a m T L→
  ∃T' μ' t' w',FInv P g0 lo m S μ0 w0 T' μ' t' w'∧(∀j,j < m→T' j=true)∧Steps P (lone (aZ f rd t ds (.inRegion ops (L++rest)::k)) cs w) (lone (aZ f rd t' ds (.inRegion ops rest::k)) cs w')
 | [],T,μ,t,w,h,_,hs=>⟨T,μ,t,w,h,hs,Steps.refl _ _⟩
 | x::L,T,μ,t,w,h,hd,hs=>by
   obtain⟨j,rfl,hr,hs⟩:=hs;obtain⟨μ1,t1,w1,h1,st1⟩:=h.step hS hc hd hr f rd ds k cs (L++rest)
   have hd1:xk S a m (ff T j):=by
    intro i i' hlt hm ho hT;by_cases e:i'=j
    ·subst e;have:=hr.pre i hlt ho;simp[ff,this]
    ·rw[cY T e] at hT;have:=hd i i' hlt hm ho hT;simp[ff,this]
   obtain⟨T',μ',t',w',h2,h3,st2⟩:=FInv.all hS hc f rd ds k cs rest L (ff T j) μ1 t1 w1 h1 hd1 hs;exact⟨T',μ',t',w',h2,h3,st1.trans st2⟩
theorem Kv(hS:SegOk P g0 lo ops a m S){t0:Array Value}(hr:Rel P g0 μ0 (S.H 0).get (S.H 0).n w0)(ht:VRs μ0 (S.fr 0).tm t0.toList){L:List Nat}(hL:CF S a m (fun _=>false) L)
  (f:FuncId) (rd:Option Nat) (ds:List Deferred) (k:List Item) (cs:List Frame) (rest:List Nat):
  ∃μ t w,Rel P g0 μ (S.H m).get (S.H m).n w∧Post lo μ0 (S.H 0).get (S.H 0).n w0 μ (S.H m).get (S.H m).n w∧VRs μ (S.fr m).tm t.toList∧
   Steps P (lone (aZ f rd t0 ds (.inRegion ops (L++rest)::k)) cs w0) (lone (aZ f rd t ds (.inRegion ops rest::k)) cs w):=by
 have hc:=SL hS hr ht
 have h0:FInv P g0 lo m S μ0 w0 (fun _=>false) μ0 t0 w0:=by
  have hG:∀k b,S.G (fun _=>false) k b=(S.H 0).get b:=by
   intro k b
   induction k with
   | zero=>rfl
   | succ k ih=>simp only[Seg.G,Bool.false_eq_true,if_false];exact ih
  have hT:∀k,S.tmF (fun _=>false) k=(S.fr 0).tm:=by
   intro k
   induction k with
   | zero=>rfl
   | succ k ih=>simp only[Seg.tmF,Bool.false_eq_true,if_false];exact ih
  refine⟨(Core.refl hr (hc.le (Nat.zero_le _) (Nat.le_refl _))).congr fun b _=>hG m b,fun b hb=>?_,by rw[hT];exact ht⟩
  refine⟨fun hne=>absurd (hr.lt b hne) (by omega),?_⟩
  rintro⟨k,_,h,_⟩;cases h
 obtain⟨T',μ',t',w',h1,h2,st⟩:=FInv.all hS hc f rd ds k cs rest L _ μ0 t0 w0 h0 (fun i j _ _ _ h=>by cases h) hL;have hG:∀b,b < (S.H m).n→S.G T' m b=(S.H m).get b:=fun b hb=>FH hS hc m (Nat.le_refl _) h2 b hb
 have hcore:Core P g0 lo μ0 (S.H 0).get (S.H 0).n w0 μ' (S.H m).get (S.H m).n w':=by
  refine h1.core.congr fun b hb=>(hG b ?_).symm;rcases hb with hb | hb
  ·exact Nat.lt_of_lt_of_le hb (hc.le (Nat.zero_le _) (Nat.le_refl _))
  ·exact h1.core.rel.lt b hb
 refine⟨μ',t',w',hcore.rel,hcore.post (hc.le (Nat.zero_le _) (Nat.le_refl _)) (fun b hb1 hb2=>?_),?_,st⟩
 ·refine(h1.dom b hb1).2 ?_
  have:∀k,k≤m→b < (S.H k).n→∃j,j < m∧T' j=true∧(S.H j).n≤b∧b < (S.H (j+1)).n:=by
   intro k
   induction k with
   | zero=>intro _ hlt;omega
   | succ k ih=>
     intro hk hlt;by_cases hb:b < (S.H k).n
     ·exact ih (by omega) hb
     ·exact⟨k,by omega,h2 k (by omega),by omega,hlt⟩
  exact this m (Nat.le_refl _) hb2
 ·have:=h1.tm
  rw[qe (T':=bm m) (fun i hi=>by rw[h2 i hi];simp[bm,hi]),←zU hS m (Nat.le_refl _)] at this;exact this
end
section
variable {ops:Array Oper}
def Qb(seen:Nat→Bool)(md:Region.Mode)(o:Oper):Prop:=∀e,e∈o.after→Region.binds md e=true→seen e.on=true
def Lin(md:Region.Mode)(ops:Array Oper):(Nat→Bool)→List Nat→Prop
 | seen,[]=>∀i,i < ops.size→seen i=true
 | seen,x::l=>x < ops.size∧seen x=false∧(∀o,ops[x]? =some o→Qb seen md o)∧Lin md ops (ff seen x) l
def rz(f:Nat→Bool):Nat→Nat
 | 0=>0
 | n+1=>rz f n+if f n then 0 else 1
theorem KS(f g:Nat→Bool):∀n,(∀i,i < n→f i=g i)→rz f n=rz g n
 | 0,_=>rfl
 | n+1,h=>by simp only[rz];rw[KS f g n fun i hi=>h i (by omega),h n (by omega)]
theorem Co{f:Nat→Bool}{x:Nat}(hx:f x=false):∀{n:Nat},x < n→rz (ff f x) n+1=rz f n
 | n+1,h=>by
   simp only[rz];by_cases e:x=n
   ·subst e;rw[KS (ff f x) f x fun i hi=>cY f (by omega),dY,hx];simp
   ·rw[cY f (Ne.symm e)]
    have:=Co hx (n:=n) (by omega)
    omega
theorem Cn{f:Nat→Bool}:∀{n:Nat},rz f n=0→∀i,i < n→f i=true
 | n+1,h,i,hi=>by
   simp only[rz] at h;by_cases e:i=n
   ·subst e
    cases hf:f i with
    | true=>rfl
    | false=>rw[hf] at h;simp at h
   ·exact Cn (n:=n) (by omega) i (by omega)
theorem yf:∀n,rz (fun _=>false) n=n
 | 0=>rfl
 | n+1=>by simp[rz,yf n]
theorem ve{md:Region.Mode}{listed:Array Bool}(hsz:listed.size=ops.size):∀(l seen:List Nat),zl md ops l seen=true→(∀x,x∈seen→listed.getD x false=true)→(∃i,i < ops.size∧listed.getD i false=false)→∃i,i∈Region.ready md ops listed
 | [],seen,h,hs,⟨i,hi,hf⟩=>by
   simp only[zl,List.all_eq_true,List.mem_range,List.contains_eq_mem,decide_eq_true_eq] at h
   have:=hs i (h i hi)
   rw[hf] at this;cases this
 | x::l,seen,h,hs,hex=>by
   simp only[zl,Bool.and_eq_true] at h
   cases hl:listed.getD x false with
   | true=>
     exact ve hsz l (x::seen) h.2 (fun y hy=>by
      rcases List.mem_cons.1 hy with rfl | hy
      ·exact hl
      ·exact hs y hy) hex
   | false=>
     cases ho:ops[x]? with
     | none=>rw[ho] at h;cases h.1
     | some o=>
       rw[ho] at h;have hlt:=(Array.getElem?_eq_some_iff.1 ho).1;refine⟨x,?_⟩;simp only[Region.ready,List.mem_filter,List.mem_range,Bool.and_eq_true,Bool.not_eq_true',ho,Option.map_some,Option.getD_some];refine⟨hlt,?_,?_⟩
       ·rw[Array.getD_eq_getD_getElem?,Array.getElem?_eq_getElem (by omega)] at hl⊢;simpa using hl
       ·have h1:=h.1;simp only[Array.all_eq_true_iff_forall_mem] at h1⊢;intro e he
        have:=h1 e he
        simp only[Bool.or_eq_true,List.contains_eq_mem,decide_eq_true_eq] at this⊢;rcases this with k | k
        ·exact .inl k
        ·exact .inr (hs e.on k)
theorem JZ{md:Region.Mode}{l0:List Nat}(htopo:zl md ops l0 []=true):∀(fuel t:Nat) (listed:Array Bool),listed.size=ops.size→rz (fun i=>listed.getD i false) ops.size≤fuel→
  Lin md ops (fun i=>listed.getD i false) (Region.linearise.go md ops fuel t listed [])
 | 0,t,listed,hsz,hc=>by
   simp only[Region.linearise.go,List.reverse_nil,Lin];exact Cn (by omega)
 | fuel+1,t,listed,hsz,hc=>by
   simp only[Region.linearise.go]
   change Lin md ops (fun i=>listed.getD i false) (match (Region.ready md ops listed)[t%(Region.ready md ops listed).length]? with
    | some i=>Region.linearise.go md ops fuel (t / (Region.ready md ops listed).length) (listed.setIfInBounds i true) [i]
    | none=>[].reverse)
   cases hi:(Region.ready md ops listed)[t%(Region.ready md ops listed).length]? with
   | none=>
     simp only[List.reverse_nil,Lin];intro i hlt
     cases hf:listed.getD i false with
     | true=>rfl
     | false=>
       obtain⟨x,hx⟩:=ve hsz l0 [] htopo (fun x hx=>by cases hx) ⟨i,hlt,hf⟩;have hpos:0 < (Region.ready md ops listed).length:=List.length_pos_of_mem hx
       have:=Nat.mod_lt t hpos
       rw[List.getElem?_eq_getElem this] at hi;cases hi
   | some i=>
     simp only
     rw[linearise_go_acc,List.reverse_singleton,List.singleton_append];have hmem:=List.mem_of_getElem? hi;simp only[Region.ready,List.mem_filter,List.mem_range,Bool.and_eq_true,Bool.not_eq_true'] at hmem;obtain⟨hlt,hnl,haft⟩:=hmem
     have hnl':listed.getD i false=false:=by
      rw[Array.getD_eq_getD_getElem?,Array.getElem?_eq_getElem (by omega)] at hnl⊢;simpa using hnl
     have heq:(fun k=>(listed.setIfInBounds i true).getD k false)=ff (fun k=>listed.getD k false) i:=by
      funext k
      by_cases e:k=i
      ·subst e;rw[dY,Array.getD_eq_getD_getElem?,Array.getElem?_setIfInBounds_self_of_lt (by omega)];rfl
      ·rw[cY _ e,Array.getD_eq_getD_getElem?,Array.getElem?_setIfInBounds_ne (Ne.symm e),Array.getD_eq_getD_getElem?]
     refine⟨hlt,hnl',fun o ho=>?_,?_⟩
     ·rw[ho] at haft;simp only[Option.map_some,Option.getD_some,Array.all_eq_true_iff_forall_mem] at haft;intro e he hb
      have:=haft e he
      simpa [hb] using this
     ·rw[←heq];refine JZ htopo fuel _ _ (by simp[hsz]) ?_;rw[heq]
      have:=Co (f:=fun k=>listed.getD k false) hnl' hlt
      omega
theorem kE{md:Region.Mode}{l0:List Nat}(htopo:zl md ops l0 []=true)(t:Nat):Lin md ops (fun _=>false) (Region.linearise md ops t):=by
 have heq:(fun i=>(Array.replicate ops.size false).getD i false)=fun _=>false:=by
  funext i
  rw[Array.getD_eq_getD_getElem?];by_cases h:i < ops.size
  ·rw[Array.getElem?_eq_getElem (by simpa using h)];simp
  ·rw[Array.getElem?_eq_none (by simpa using h)];rfl
 have:=JZ htopo ops.size t (Array.replicate ops.size false) (by simp) (by rw[heq,yf];exact Nat.le_refl _)
 rw[heq] at this;exact this
theorem Lin.any{md:Region.Mode}:∀{L:List Nat} {seen:Nat→Bool},Lin md ops seen L→Lin .any ops seen L
 | [],_,h=>h
 | x::l,seen,⟨h1,h2,h3,h4⟩=>⟨h1,h2,fun o ho e he hb=>h3 o ho e he (by
    revert hb
    unfold Region.binds;split<;>simp),h4.any⟩
theorem zR(h:vf ops=true)(mixed:Bool)(t:Nat):Lin .any ops (fun _=>false) (Region.schedule mixed ops t):=by
 simp only[vf,Bool.and_eq_true,Bool.or_eq_true,Bool.not_eq_true'] at h;unfold Region.schedule;split
 ·exact kE h.1 t
 ·rename_i hc
  have hdep:Region.departs ops=true:=by
   simp only[Bool.or_eq_true,Bool.not_eq_true',not_or,Bool.not_eq_false] at hc;exact hc.2
  rcases h.2 with h2 | h2
  ·rw[hdep] at h2;cases h2
  ·split
   ·exact(kE h2.1 _).any
   ·exact(kE h2.2 _).any
end
open Classical
theorem BG{acc:List Nat}{i:Nat}:∀(l:List Edge) (s:Nat),(l.foldl (fun s e=>if Region.binds .any e then s||| 2^e.on||| acc.getD e.on 0 else s) s).testBit i=true→s.testBit i=true∨∃e,e∈l∧Region.binds .any e=true∧(i=e.on∨(acc.getD e.on 0).testBit i=true)
 | [],s,h=>.inl h
 | e::l,s,h=>by
   simp only[List.foldl_cons] at h;rcases BG l _ h with h1 | ⟨e',h1,h2,h3⟩
   ·split at h1
    ·rename_i hb;simp only[Nat.testBit_or,Bool.or_eq_true] at h1;rcases h1 with(h1 | h1) | h1
     ·exact .inl h1
     ·refine .inr ⟨e,List.mem_cons_self,hb,.inl ?_⟩;rw[Nat.testBit_two_pow] at h1;exact(of_decide_eq_true h1).symm
     ·exact .inr ⟨e,List.mem_cons_self,hb,.inr h1⟩
    ·exact .inl h1
   ·exact .inr ⟨e',List.mem_cons_of_mem _ h1,h2,h3⟩
theorem pH:∀(l:List Oper) (acc:List Nat),∃r,jB l acc=acc++r∧r.length=l.length∧∀j o,l[j]? =some o→(acc++r).getD (acc.length+j) 0=mask ((acc++r).take (acc.length+j)) o
 | [],acc=>⟨[],by simp[jB],rfl,fun j o h=>by simp at h⟩
 | o::l,acc=>by
   obtain⟨r,h1,h2,h3⟩:=pH l (acc++[mask acc o]);refine⟨mask acc o::r,by simp[jB,h1],by simp[h2],fun j o' ho=>?_⟩;have e:acc++mask acc o::r=acc++[mask acc o]++r:=by simp
   cases j with
   | zero=>
     simp only[List.getElem?_cons_zero,Option.some.injEq] at ho;subst ho;simp
   | succ j=>
     simp only[List.getElem?_cons_succ] at ho
     have:=h3 j o' ho
     rw[e];simp only[List.length_append,List.length_cons,List.length_nil] at this;rw[show acc.length+(j+1)=acc.length+(0+1)+j by omega];exact this
theorem GP(ops:Array Oper):(jB ops.toList []).length=ops.size:=by
 obtain⟨r,h1,h2,_⟩:=pH ops.toList [];rw[h1];simpa using h2
theorem GQ{ops:Array Oper}{x i:Nat}{o:Oper}(ho:ops[x]? =some o)(h:((jB ops.toList []).getD x 0).testBit i=true):
  ∃e,e∈o.after∧Region.binds .any e=true∧(i=e.on∨((jB ops.toList []).getD e.on 0).testBit i=true):=by
 obtain⟨r,h1,h2,h3⟩:=pH ops.toList [];rw[h1] at h⊢
 have:=h3 x o (by simpa using ho)
 simp only[List.nil_append,List.length_nil,Nat.zero_add] at this h⊢;rw[this] at h;rcases BG _ _ h with h4 | ⟨e,h4,h5,h6⟩
 ·simp at h4
 ·refine⟨e,by simpa using h4,h5,?_⟩
  rcases h6 with h6 | h6
  ·exact .inl h6
  ·right
   have hlt:e.on < (r.take x).length:=by
    rcases Nat.lt_or_ge e.on (r.take x).length with hh | hh
    ·exact hh
    ·rw[List.getD_eq_getElem?_getD,List.getElem?_eq_none hh] at h6;simp at h6
   have hx:e.on < x:=by simp at hlt;omega
   rw[List.getD_eq_getElem?_getD,List.getElem?_take_of_lt hx,←List.getD_eq_getElem?_getD] at h6;exact h6
def CK(ms:List Nat)(n:Nat):(Nat→Bool)→List Nat→Prop
 | seen,[]=>∀i,i < n→seen i=true
 | seen,x::l=>x < n∧seen x=false∧(∀i,(ms.getD x 0).testBit i=true→seen i=true)∧CK ms n (ff seen x) l
theorem Lin.mlin{ops:Array Oper}:∀{L:List Nat} {seen:Nat→Bool},(∀x,seen x=true→∀i,((jB ops.toList []).getD x 0).testBit i=true→seen i=true)→Lin .any ops seen L→CK (jB ops.toList []) ops.size seen L
 | [],_,_,h=>h
 | x::l,seen,hcl,⟨h1,h2,h3,h4⟩=>by
   have hb:∀i,((jB ops.toList []).getD x 0).testBit i=true→seen i=true:=by
    intro i hi;obtain⟨e,k1,k2,k3⟩:=GQ (Array.getElem?_eq_getElem h1) hi;have hs:=h3 _ (Array.getElem?_eq_getElem h1) e k1 k2;rcases k3 with k3 | k3
    ·rw[k3];exact hs
    ·exact hcl e.on hs i k3
   refine⟨h1,h2,hb,Lin.mlin (fun y hy i hi=>?_) h4⟩
   by_cases e:y=x
   ·subst e;have:=hb i hi;simp[ff,this]
   ·rw[cY seen e] at hy;have:=hcl y hy i hi;simp[ff,this]
theorem xa{ops:Array Oper}(h:vf ops=true)(mixed:Bool)(t:Nat):CK (jB ops.toList []) ops.size (bm 0) (Region.schedule mixed ops t):=by
 have:bm 0=fun _=>false:=by funext i;simp[bm]
 rw[this];exact(zR h mixed t).mlin fun x hx=>by cases hx
theorem NO{ms:List Nat}{i x k:Nat}(h:x8 ms i=true)(hx:i≤x)(hl:x < ms.length)(hk:k < i):(ms.getD x 0).testBit k=true:=by
 simp only[x8,List.all_eq_true] at h
 have hmem:ms.getD x 0∈ms.drop i:=by
  rw[List.getD_eq_getElem?_getD,List.getElem?_eq_getElem hl];simp only[Option.getD_some];rw[List.mem_drop_iff_getElem];exact⟨x - i,by omega,by congr 1;omega⟩
 have:=h _ hmem
 simp only[decide_eq_true_eq] at this;have e:((ms.getD x 0)%2^i).testBit k=(2^i - 1).testBit k:=by rw[this]
 rw[Nat.testBit_mod_two_pow,Nat.testBit_two_pow_sub_one] at e;simpa [hk] using e
def sn(a m:Nat)(T:Nat→Bool):Nat→Bool:=fun i=>decide (i < a)||(decide (i < a+m)&&T (i - a))
theorem E1(a m:Nat):sn a m (fun _=>false)=bm a:=by funext i;simp[sn,bm]
theorem xt{ms:List Nat}{n a m:Nat}(hn:a+m≤n)(hl:ms.length=n){S:Seg}(hm:∀j,j < m→(S.io j).mask=ms.getD (a+j) 0)(hcut:a+m=n∨x8 ms (a+m)=true):
  ∀(L:List Nat) (T:Nat→Bool),CK ms n (sn a m T) L→∃L1 L2,L=L1++L2∧CF S a m T L1∧CK ms n (bm (a+m)) L2:=by
 intro L
 induction L with
 | nil=>
   intro T h
   have hall:∀j,j < m→T j=true:=fun j hj=>by
    have:=h (a+j) (by omega)
    simp only[sn,Bool.or_eq_true,decide_eq_true_eq,Bool.and_eq_true] at this;rcases this with k | k
    ·omega
    ·rw[show a+j - a=j by omega] at k;exact k.2
   have e:sn a m T=bm (a+m):=by
    funext i
    simp only[sn,bm];by_cases h1:i < a
    ·simp[h1];omega
    ·by_cases h2:i < a+m
     ·simp[h2,hall (i - a) (by omega)]
     ·simp[h2];omega
   exact⟨[],[],rfl,hall,by rw[←e];exact h⟩
 | cons x l ih=>
   intro T h;by_cases hall:∀j,j < m→T j=true
   ·have e:sn a m T=bm (a+m):=by
     funext i
     simp only[sn,bm];by_cases h1:i < a
     ·simp[h1];omega
     ·by_cases h2:i < a+m
      ·simp[h2,hall (i - a) (by omega)]
      ·simp[h2];omega
    exact⟨[],x::l,rfl,hall,by rw[←e];exact h⟩
   ·obtain⟨h1,h2,h3,h4⟩:=h
    have hxa:a≤x:=by
     rcases Nat.lt_or_ge x a with k | k
     ·simp[sn,k] at h2
     ·exact k
    have hxm:x < a+m:=by
     rcases Nat.lt_or_ge x (a+m) with k | k
     ·exact k
     ·exfalso
      rcases hcut with hc | hc
      ·omega
      ·refine hall fun j hj=>?_
       have:=h3 (a+j) (NO hc k (by omega) (by omega))
       simp only[sn,Bool.or_eq_true,decide_eq_true_eq,Bool.and_eq_true] at this;rcases this with k | k
       ·omega
       ·rw[show a+j - a=j by omega] at k;exact k.2
    have hT:T (x - a)=false:=by
     simp only[sn,Bool.or_eq_false_iff,Bool.and_eq_false_iff,decide_eq_false_iff_not] at h2;rcases h2.2 with k | k
     ·omega
     ·exact k
    have e:ff (sn a m T) x=sn a m (ff T (x - a)):=by
     funext i
     by_cases ei:i=x
     ·subst ei;rw[dY];simp[sn,hxm,dY]
     ·rw[cY _ ei];simp only[sn];by_cases h5:i < a
      ·simp[h5]
      ·rw[cY T (by omega:i - a≠x - a)]
    rw[e] at h4;obtain⟨L1,L2,rfl,h5,h6⟩:=ih _ h4;refine⟨x::L1,L2,rfl,⟨x - a,by omega,⟨by omega,hT,fun i hi ho=>?_⟩,h5⟩,h6⟩
    have hb:(ms.getD x 0).testBit (a+i)=true:=by
     have:=ho
     unfold Seg.ord at this;rw[hm (x - a) (by omega),show a+(x - a)=x by omega] at this;exact this
    have:=h3 (a+i) hb
    simp only[sn,Bool.or_eq_true,decide_eq_true_eq,Bool.and_eq_true] at this;rcases this with k | k
    ·omega
    ·rw[show a+i - a=i by omega] at k;exact k.2
structure RegOk(P:Program)(ops:Array Oper)(ms:List Nat)(l:List IOp):Prop where
 len:l.length=ops.size
 mlen:ms.length=ops.size
 at_:∀j io,l[j]? =some io→∃o,ops[j]? =some o∧io.dst=o.dst∧bG P o.op=some io.kd∧mj o.op.operands.toList=some io.args∧oe ops o io∧io.idx=j∧io.mask=ms.getD j 0∧(io.kd.isStore=true→io.amb=true)
 unl:∀i j x y,i < j→l[i]? =some x→l[j]? =some y→(ms.getD j 0).testBit i=false→pu x y=true
 bes:∀i j x y,i < j→l[i]? =some x→l[j]? =some y→(ms.getD j 0).testBit i=false→jH x y=true
 amb:∀i j x y,i≠j→l[i]? =some x→l[j]? =some y→eZ ms i j=false→x.amb=true→x.kd.isStore=true∨y.kd.pure=true∨(x.kd.isWr=true∧y.kd.light=true)
theorem nZ{ms:List Nat}{i:Nat}{a:IOp}:∀{l:List IOp} {j:Nat},lr ms i a l j=true→∀k b,l[k]? =some b→(eZ ms i (j+k)||pu a b)=true
 | b::l,j,h,0,b',hb=>by
   simp only[lr,Bool.and_eq_true] at h;simp only[List.getElem?_cons_zero,Option.some.injEq] at hb;subst hb;exact h.1
 | b::l,j,h,k+1,b',hb=>by
   simp only[lr,Bool.and_eq_true] at h
   have:=nZ h.2 k b' (by simpa using hb)
   rw[show j+(k+1)=j+1+k by omega];exact this
theorem xj{ms:List Nat}:∀(l:List IOp) (i:Nat),re ms l i=true→∀p q a b,p < q→l[p]? =some a→l[q]? =some b→(eZ ms (i+p) (i+q)||pu a b)=true:=by
 intro l
 induction l with
 | nil=>intro i _ p q a b _ ha;simp at ha
 | cons x l ih=>
   intro i h p q a b hpq ha hb;simp only[re,Bool.and_eq_true] at h
   cases q with
   | zero=>omega
   | succ q=>
     cases p with
     | zero=>
       simp only[List.getElem?_cons_zero,Option.some.injEq] at ha;subst ha
       have:=nZ h.1 q b (by simpa using hb)
       rw[show i+(q+1)=i+1+q by omega];exact this
     | succ p=>
       have:=ih (i+1) h.2 p q a b (by omega) (by simpa using ha) (by simpa using hb)
       rw[show i+(p+1)=i+1+p by omega,show i+(q+1)=i+1+q by omega];exact this
theorem my{ms:List Nat}{i:Nat}{a:IOp}:∀{l:List IOp} {j:Nat},jw ms i a l j=true→∀k b,l[k]? =some b→(eZ ms i (j+k)||jH a b)=true
 | b::l,j,h,0,b',hb=>by
   simp only[jw,Bool.and_eq_true] at h;simp only[List.getElem?_cons_zero,Option.some.injEq] at hb;subst hb;exact h.1
 | b::l,j,h,k+1,b',hb=>by
   simp only[jw,Bool.and_eq_true] at h
   have:=my h.2 k b' (by simpa using hb)
   rw[show j+(k+1)=j+1+k by omega];exact this
theorem vh{ms:List Nat}:∀(l:List IOp) (i:Nat),oF ms l i=true→∀p q a b,p < q→l[p]? =some a→l[q]? =some b→(eZ ms (i+p) (i+q)||jH a b)=true:=by
 intro l
 induction l with
 | nil=>intro i _ p q a b _ ha;simp at ha
 | cons x l ih=>
   intro i h p q a b hpq ha hb;simp only[oF,Bool.and_eq_true] at h
   cases q with
   | zero=>omega
   | succ q=>
     cases p with
     | zero=>
       simp only[List.getElem?_cons_zero,Option.some.injEq] at ha;subst ha
       have:=my h.1 q b (by simpa using hb)
       rw[show i+(q+1)=i+1+q by omega];exact this
     | succ p=>
       have:=ih (i+1) h.2 p q a b (by omega) (by simpa using ha) (by simpa using hb)
       rw[show i+(p+1)=i+1+p by omega,show i+(q+1)=i+1+q by omega];exact this
theorem jK{ms:List Nat}{i:Nat}{ok:Kd→Bool}:∀{l:List IOp} {j:Nat},jf ms i ok l j=true→∀k b,l[k]? =some b→(i==j+k||eZ ms i (j+k)||ok b.kd)=true
 | b::l,j,h,0,b',hb=>by
   simp only[jf,Bool.and_eq_true] at h;simp only[List.getElem?_cons_zero,Option.some.injEq] at hb;subst hb;exact h.1
 | b::l,j,h,k+1,b',hb=>by
   simp only[jf,Bool.and_eq_true] at h
   have:=jK h.2 k b' (by simpa using hb)
   rw[show j+(k+1)=j+1+k by omega];exact this
theorem vr{ms:List Nat}{all:List IOp}:∀{l:List IOp} {i:Nat} (j:Nat),(kv ms all l i)[j]? =(l[j]?).map fun o=>{o with amb:=Cx ms all (i+j) o.kd,idx:=i+j,mask:=ms.getD (i+j) 0}
 | [],i,j=>by simp[kv]
 | o::l,i,0=>by simp[kv]
 | o::l,i,j+1=>by
   simp only[kv,List.getElem?_cons_succ];rw[vr j,show i+1+j=i+(j+1) by omega]
theorem nj{α β:Type}{f:α→Option β}:∀{l:List α} {r:List β},l.mapM f=some r→r.length=l.length∧∀(j:Nat) (y:β),r[j]? =some y→∃x,l[j]? =some x∧f x=some y
 | [],r,h=>by
   simp at h;subst h;exact⟨rfl,fun j y hy=>by simp at hy⟩
 | x::l,r,h=>by
   simp only[List.mapM_cons] at h
   cases h1:f x with
   | none=>rw[h1] at h;cases h
   | some y=>
     rw[h1] at h
     cases h2:l.mapM f with
     | none=>rw[h2] at h;cases h
     | some ys=>
       rw[h2] at h;injection h with h;subst h;obtain⟨k1,k2⟩:=nj h2;refine⟨by simp[k1],fun j z hz=>?_⟩
       cases j with
       | zero=>simp at hz;subst hz;exact⟨x,rfl,h1⟩
       | succ j=>exact k2 j z (by simpa using hz)
theorem kF{P:Program}{ops:Array Oper}{o:Oper}{io:IOp}(h:lm P ops o=some io):io.dst=o.dst∧bG P o.op=some io.kd∧mj o.op.operands.toList=some io.args∧oe ops o io:=by
 simp only[lm,KR] at h
 cases h1:bG P o.op with
 | none=>rw[h1] at h;cases h
 | some kd=>
   rw[h1] at h
   cases h2:mj o.op.operands.toList with
   | none=>rw[h2] at h;cases h
   | some as=>
     rw[h2] at h
     cases h3:o.guard with
     | none=>
       rw[h3] at h;injection h with h;subst h;exact⟨rfl,rfl,rfl,by unfold oe;rw[h3]⟩
     | some p=>
       obtain⟨j,want⟩:=p;rw[h3] at h
       cases h4:(ops[j]?).bind (·.dst) with
       | none=>
         simp only[Option.bind_eq_bind,Option.bind_some,Option.pure_def,h4] at h;cases h
       | some d=>
         simp only[Option.bind_eq_bind,Option.bind_some,Option.pure_def,h4] at h;injection h with h;subst h;exact⟨rfl,rfl,rfl,by unfold oe;rw[h3];exact⟨d,h4,rfl⟩⟩
inductive PartsOf(ms:List Nat)(l:List IOp):Nat→List (Sg×List IOp)→Prop
 | nil:PartsOf ms l l.length []
 | cons {a m:Nat} {segs:List (Sg×List IOp)} (hm:0 < m) (hl:a+m≤l.length) (hc:a+m=l.length∨x8 ms (a+m)=true) (h:PartsOf ms l (a+m) segs):PartsOf ms l a ((j4 ((l.drop a).take m),(l.drop a).take m)::segs)
theorem pC{ms:List Nat}{l:List IOp}:∀(r:List IOp) (a:Nat) (cur:List IOp),l.drop a=cur.reverse++r→a+cur.length+r.length=l.length→PartsOf ms l a (parts ms r (a+cur.length) cur)
 | [],a,[],h,hl=>by
   simp only[List.length_nil,Nat.add_zero] at hl;subst hl;simp only[parts];exact .nil
 | [],a,c::cur,h,hl=>by
   simp only[parts]
   have e:(c::cur).reverse=(l.drop a).take (c::cur).length:=by
    rw[h,List.append_nil,List.take_of_length_le (by simp)]
   rw[e]
   exact .cons (by simp) (by simp at hl⊢;omega) (.inl (by simp at hl⊢;omega)) (by
    have:a+(c::cur).length=l.length:=by simp at hl⊢;omega
    rw[this];exact .nil)
 | o::r,a,cur,h,hl=>by
   have h':l.drop a=(o::cur).reverse++r:=by rw[h];simp
   simp only[List.length_cons] at hl
   cases hcut:x8 ms (a+cur.length+1) with
   | true=>
     have hp:parts ms (o::r) (a+cur.length) cur=(j4 (o::cur).reverse,(o::cur).reverse)::parts ms r (a+cur.length+1) []:=by
      cases cur<;>(simp only[parts];rw[if_pos hcut])
     rw[hp]
     have e:(o::cur).reverse=(l.drop a).take (o::cur).length:=by
      rw[h',List.take_append_of_le_length (by simp),List.take_of_length_le (by simp)]
     rw[e];refine .cons (by simp) (by simp;omega) (.inr ?_) ?_
     ·rw[show a+(o::cur).length=a+cur.length+1 by simp;omega];exact hcut
     ·have hd:l.drop (a+(o::cur).length)=r:=by
       rw[←List.drop_drop,h',List.drop_append_of_le_length (by simp),List.drop_of_length_le (by simp)];rfl
      have:=pC (ms:=ms) r (a+(o::cur).length) [] (by rw[hd];rfl) (by simp;omega)
      simp only[List.length_cons,List.length_nil,Nat.add_zero] at this⊢;rw[show a+cur.length+1=a+(cur.length+1) by omega];exact this
   | false=>
     have hp:parts ms (o::r) (a+cur.length) cur=parts ms r (a+cur.length+1) (o::cur):=by
      cases cur<;>(simp only[parts];rw[if_neg (by rw[hcut];simp)])
     rw[hp]
     have:=pC (ms:=ms) r a (o::cur) h' (by simp;omega)
     simp only[List.length_cons] at this;rw[show a+cur.length+1=a+(cur.length+1) by omega];exact this
theorem tu{P:Program}{ops:Array Oper}{segs:List (Sg×List IOp)}(h:ce P ops true=some segs):
  ∃l,RegOk P ops (jB ops.toList []) l∧PartsOf (jB ops.toList []) l 0 segs∧vf ops=true:=by
 simp only[ce] at h
 cases h1:ops.toList.mapM (lm P ops) with
 | none=>rw[h1] at h;cases h
 | some l0=>
   rw[h1] at h;simp only[Option.bind_eq_bind,Option.bind_some,if_true] at h;split at h
   ·rename_i hok;injection h with h;subst h;simp only[Bool.and_eq_true] at hok;obtain⟨⟨⟨hok1,hok2⟩,hok3⟩,hok4⟩:=hok;obtain⟨hl,hget⟩:=nj h1;generalize hms:jB ops.toList []=ms at *;have hmlen:ms.length=ops.size:=by rw[←hms];exact GP ops
    have hlen:(kv ms l0 l0 0).length=ops.size:=by
     have:∀(l:List IOp) (i:Nat),(kv ms l0 l i).length=l.length:=by
      intro l;induction l with
      | nil=>intro i;rfl
      | cons o l ih=>intro i;simp[kv,ih]
     rw[this,hl];simp
    have hat:∀(j:Nat) (io:IOp),(kv ms l0 l0 0)[j]? =some io→∃io0:IOp,l0[j]? =some io0∧io=({io0 with amb:=Cx ms l0 j io0.kd,idx:=j,mask:=ms.getD j 0}:IOp):=by
     intro j io hj;rw[vr] at hj
     cases h0:l0[j]? with
     | none=>rw[h0] at hj;cases hj
     | some io0=>
       rw[h0] at hj;simp only[Option.map_some,Nat.zero_add] at hj;injection hj with hj;exact⟨io0,rfl,hj.symm⟩
    have hord:∀i j,i < j→eZ ms i j=(ms.getD j 0).testBit i:=by
     intro i j hij;simp only[eZ];rw[Nat.max_eq_right (by omega),Nat.min_eq_left (by omega)]
    refine⟨_,⟨hlen,hmlen,fun j io hj=>?_,fun i j x y hij hx hy ho=>?_,fun i j x y hij hx hy ho=>?_,fun i j x y hij hx hy ho ha=>?_⟩,?_,hok1⟩
    ·obtain⟨io0,h0,rfl⟩:=hat j io hj;obtain⟨o,k1,k2⟩:=hget j io0 h0;obtain⟨k3,k4,k5,k6⟩:=kF k2;refine⟨o,by simpa using k1,k3,k4,k5,k6,rfl,rfl,fun hs=>?_⟩;simp only at hs⊢;simp[Cx,hs]
    ·have:=xj _ _ hok3 i j x y hij hx hy
     simp only[Nat.zero_add] at this;rw[hord i j hij,ho] at this;simpa using this
    ·have:=vh _ _ hok4 i j x y hij hx hy
     simp only[Nat.zero_add] at this;rw[hord i j hij,ho] at this;simpa using this
    ·obtain⟨x0,hx0,rfl⟩:=hat i x hx;obtain⟨y0,hy0,rfl⟩:=hat j y hy;simp only[Cx,Bool.or_eq_true,Bool.and_eq_true] at ha;rcases ha with(ha | ha) | ⟨ha,hb⟩
     ·exact .inl ha
     ·have:=jK ha j y0 hy0
      simp only[Nat.zero_add,ho,Bool.or_false,Bool.or_eq_true,beq_iff_eq,hij,false_or] at this;exact .inr (.inl this)
     ·have:=jK hb j y0 hy0
      simp only[Nat.zero_add,ho,Bool.or_false,Bool.or_eq_true,beq_iff_eq,hij,false_or] at this;exact .inr (.inr ⟨ha,this⟩)
    ·exact pC _ 0 [] (by simp) (by simp)
   ·cases h
def Seg.cons(io:IOp)(wt:Bool)(xs:List IV)(v:IV)(fr:Fr)(H:Heap)(S:Seg):Seg where
 o:=S.o
 io:=fun j=>match j with | 0=>io | j+1=>S.io j
 wt:=fun j=>match j with | 0=>wt | j+1=>S.wt j
 xs:=fun j=>match j with | 0=>xs | j+1=>S.xs j
 v:=fun j=>match j with | 0=>v | j+1=>S.v j
 fr:=fun j=>match j with | 0=>fr | j+1=>S.fr j
 H:=fun j=>match j with | 0=>H | j+1=>S.H j
def DL(fr?:Bool)(lo:Nat)(io:IOp)(H:Heap):Nat:=if fr? then(if io.amb then lo else H.n) else lo
structure Step1(E:Env)(N lo:Nat)(fr?:Bool)(io:IOp)(wt:Bool)(xs:List IV)(v:IV)(fr fr':Fr)(H H':Heap):Prop where
 wtd:bA fr.tm io.guard=wt
 frs:fr'=fr.put io.dst v
 off:wt=false→v=IV.undef∧H'=H
 ev:wt=true→be E.g0 fr.tm io.args=some xs
 on:wt=true→(io.kd=.call∧∃f ys n,xs=f::ys∧n < N∧run E n (.apply f ys) (DL fr? lo io H) H=some (.val v,H'))∨(io.kd≠.call∧ev1 io.kd xs (DL fr? lo io H) H=some (v,H'))
def RB(fc:bR)(S:Seg)(m:Nat):Prop:=
 ∀j,j < m→S.wt j=true→∃f,dW (S.io j) (S.xs j)=some f∧(∀p,p∈fc→(S.io j).mask.testBit p.1=true∨bg p.2 f=true)∧
  ∀i f',i < j→S.wt i=true→dW (S.io i) (S.xs i)=some f'→(S.io j).mask.testBit (S.io i).idx=true∨bg f' f=true
structure Trace(E:Env)(N lo:Nat)(free:Option bR)(os:List IOp)(fr fr':Fr)(H H':Heap)(S:Seg):Prop where
 h0:S.H 0=H
 f0:S.fr 0=fr
 hm:S.H os.length=H'
 fm:S.fr os.length=fr'
 io:∀j io,os[j]? =some io→S.io j=io
 st:∀j,j < os.length→Step1 E N lo free.isSome (S.io j) (S.wt j) (S.xs j) (S.v j) (S.fr j) (S.fr (j+1)) (S.H j) (S.H (j+1))
 fp:∀fc,free=some fc→RB fc S os.length
theorem Trace.cons{E:Env}{N lo:Nat}{free free':Option bR}{io:IOp}{os:List IOp}{fr fr1 fr':Fr}{H H1 H':Heap}{S:Seg}{wt:Bool}{xs:List IV}{v:IV}
  (h:Trace E N lo free' os fr1 fr' H1 H' S) (hs:Step1 E N lo free.isSome io wt xs v fr fr1 H H1) (hsame:free'.isSome=free.isSome)
  (hf:∀fc,free=some fc→(wt=false∧free'=some fc)∨∃f,dW io xs=some f∧(∀p,p∈fc→io.mask.testBit p.1=true∨bg p.2 f=true)∧free'=some ((io.idx,f)::fc)):
  Trace E N lo free (io::os) fr fr' H H' (S.cons io wt xs v fr H):=by
 constructor
 ·rfl
 ·rfl
 ·exact h.hm
 ·exact h.fm
 ·intro j io' hj
  cases j with
  | zero=>
    simp only[List.getElem?_cons_zero,Option.some.injEq] at hj;exact hj
  | succ j=>exact h.io j io' (by simpa using hj)
 ·intro j hj
  cases j with
  | zero=>
    have:Step1 E N lo free.isSome io wt xs v fr (S.fr 0) H (S.H 0):=by rw[h.f0,h.h0];exact hs
    exact this
  | succ j=>have:=h.st j (by simpa using hj);rw[hsame] at this;exact this
 ·intro fc hfc j hj hw
  cases j with
  | zero=>
    rcases hf fc hfc with⟨h1,_⟩ | ⟨f,h1,h2,h3⟩
    ·have hw:wt=true:=hw;rw[h1] at hw;cases hw
    ·exact⟨f,h1,h2,fun i f' hi=>by omega⟩
  | succ j=>
    have hw':S.wt j=true:=hw;rcases hf fc hfc with⟨h1,h2⟩ | ⟨f,h1,h2,h3⟩
    ·obtain⟨f,k1,k2,k3⟩:=h.fp fc h2 j (by simpa using hj) hw';refine⟨f,k1,k2,fun i f' hi hwi hfi=>?_⟩
     cases i with
     | zero=>
       have hwi:wt=true:=hwi;rw[h1] at hwi;cases hwi
     | succ i=>exact k3 i f' (by omega) hwi hfi
    ·obtain⟨f2,k1,k2,k3⟩:=h.fp _ h3 j (by simpa using hj) hw';refine⟨f2,k1,fun p hp=>k2 p (List.mem_cons_of_mem _ hp),fun i f' hi hwi hfi=>?_⟩
     cases i with
     | zero=>
       have hfi:dW io xs=some f':=hfi;rw[h1] at hfi;injection hfi with hfi;subst hfi;exact k2 _ List.mem_cons_self
     | succ i=>exact k3 i f' (by omega) hwi hfi
theorem Bu{free free':Option bR}{io:IOp}{xs:List IV}(h:aR free io xs=some free'):free'.isSome=free.isSome∧∀fc,free=some fc→∃f,dW io xs=some f∧(∀p,p∈fc→io.mask.testBit p.1=true∨bg p.2 f=true)∧free'=some ((io.idx,f)::fc):=by
 cases free with
 | none=>injection h with h;subst h;exact⟨rfl,fun fc e=>by cases e⟩
 | some fc=>
   simp only[aR,lh] at h
   cases hf:dW io xs with
   | none=>rw[hf] at h;cases h
   | some f=>
     rw[hf] at h;simp only at h;split at h
     ·rename_i hall;injection h with h;subst h;refine⟨rfl,fun fc' e=>?_⟩;injection e with e;subst e;refine⟨f,rfl,fun p hp=>?_,rfl⟩
      have:=List.all_eq_true.1 hall p hp
      simpa using this
     ·cases h
theorem BK(free:Option bR)(io:IOp)(lo:Nat)(H:Heap):cU free io lo H=DL free.isSome lo io H:=by
 cases free<;>simp[cU,DL]
theorem oP{E:Env}{rd:Option Nat}{lo N:Nat}:∀(os:List IOp) (n:Nat),n≤N→∀(free:Option bR) (fr:Fr) (H:Heap) (out:Out) (H':Heap),run E n (.ops free os rd fr) lo H=some (out,H')→
  ∃fr' S,out=.ex .normal fr'∧Trace E N lo free os fr fr' H H' S:=by
 intro os
 induction os with
 | nil=>
   intro n hn free fr H out H' h
   cases n with
   | zero=>simp[run] at h
   | succ n=>
     simp only[run] at h;injection h with h;injection h with h1 h2;subst h1 h2;refine⟨fr,⟨fun _=>default,fun _=>default,fun _=>false,fun _=>[],fun _=>IV.undef,fun _=>fr,fun _=>H⟩,rfl,⟨rfl,rfl,rfl,rfl,fun j io hj=>by simp at hj,fun j hj=>by simp at hj,fun fc _ j hj=>by simp at hj⟩⟩
 | cons io os ih=>
   intro n hn free fr H out H' h
   cases n with
   | zero=>simp[run] at h
   | succ n=>
     simp only[run] at h
     cases hw:bA fr.tm io.guard with
     | false=>
       rw[hw] at h;simp only[Bool.false_eq_true,if_false] at h;obtain⟨fr',S,h1,h2⟩:=ih n (by omega) _ _ _ _ _ h;exact⟨fr',_,h1,h2.cons (wt:=false) (xs:=[]) (v:=IV.undef) ⟨hw,rfl,fun _=>⟨rfl,rfl⟩,fun e=>(by cases e),fun e=>(by cases e)⟩ rfl (fun fc e=>.inl ⟨rfl,e⟩)⟩
     | true=>
       rw[hw] at h;simp only[if_true] at h
       cases hev:be E.g0 fr.tm io.args with
       | none=>rw[hev] at h;cases h
       | some xs=>
         rw[hev] at h;simp only at h
         cases hnx:aR free io xs with
         | none=>rw[hnx] at h;cases h
         | some free'=>
           rw[hnx] at h;simp only at h;obtain⟨hsm,hff⟩:=Bu hnx;by_cases hc:io.kd=.call
           ·rw[hc] at h;simp only at h
            cases xs with
            | nil=>cases h
            | cons f ys=>
              simp only at h
              cases hr:run E n (.apply f ys) (cU free io lo H) H with
              | none=>rw[hr] at h;cases h
              | some p=>
                obtain⟨o1,H1⟩:=p;rw[hr] at h
                cases o1 with
                | ex e f'=>cases h
                | val v=>
                  simp only at h;obtain⟨fr',S,h1,h2⟩:=ih n (by omega) _ _ _ _ _ h;refine⟨fr',_,h1,h2.cons (wt:=true) (xs:=f::ys) (v:=v) ⟨hw,rfl,fun e=>(by cases e),fun _=>hev,fun _=>.inl ⟨hc,f,ys,n,rfl,by omega,?_⟩⟩ hsm (fun fc e=>.inr (hff fc e))⟩;rw[←BK];exact hr
           ·have key:∃v H1,ev1 io.kd xs (cU free io lo H) H=some (v,H1)∧run E n (.ops free' os rd (fr.put io.dst v)) lo H1=some (out,H'):=by
             revert h hc
             cases io.kd with
             | call=>intro _ hc;exact absurd rfl hc
             | _=>
               intro h _;simp only at h;split at h
               ·rename_i v H1 he;exact⟨v,H1,he,h⟩
               ·cases h
            obtain⟨v,H1,he,h⟩:=key;obtain⟨fr',S,h1,h2⟩:=ih n (by omega) _ _ _ _ _ h;refine⟨fr',_,h1,h2.cons (wt:=true) (xs:=xs) (v:=v) ⟨hw,rfl,fun e=>(by cases e),fun _=>hev,fun _=>.inr ⟨hc,?_⟩⟩ hsm (fun fc e=>.inr (hff fc e))⟩;rw[←BK];exact he
theorem Trace.marks{E:Env}{N lo:Nat}{free:Option bR}{os:List IOp}{fr fr':Fr}{H H':Heap}{S:Seg}(h:Trace E N lo free os fr fr' H H' S):fr'.marks=fr.marks:=by
 have:∀j,j≤os.length→(S.fr j).marks=fr.marks:=by
  intro j
  induction j with
  | zero=>intro _;rw[h.f0]
  | succ j ih=>
    intro hj;rw[(h.st j (by omega)).frs]
    have:=ih (by omega)
    cases(S.io j).dst<;>exact this
 rw[←h.fm];exact this _ (Nat.le_refl _)
theorem Fe{P:Program}{op:Op}(h:bG P op=some .call):∃fo args ts,op=.call ⟨.value fo,args,ts⟩:=by
 cases op<;>simp only[bG,BQ,aH,Option.map_eq_some_iff,Option.bind_eq_some_iff] at h
 all_goals (repeat' split at h)
 all_goals (try simp only[Option.bind_eq_some_iff,Option.map_eq_some_iff,reduceCtorEq,and_false,exists_false] at h)
 all_goals first
  | (cases h;done)
  | (rename_i c _ fo hc;obtain⟨callee,args,ts⟩:=c;simp only at hc;subst hc;exact⟨fo,args,ts,rfl⟩)
  | grind
def wS(P:Program)(E:Env)(N:Nat):Prop:=∀n f ys lw H v H',n < N→run E n (.apply f ys) lw H=some (.val v,H')→wR P E.g0 f ys lw H v H'
theorem xq{P:Program}{E:Env}{N lo:Nat}{fr?:Bool}{o:Oper}{io:IOp}{xs:List IV}{v:IV}{fr fr':Fr}{H H':Heap}(ih:wS P E N)(hk:bG P o.op=some io.kd)(h:Step1 E N lo fr? io true xs v fr fr' H H'):FD P E.g0 o (DL fr? lo io H) xs H v H':=by
 rcases h.on rfl with⟨hc,f,ys,n,hx,hn,hr⟩ | ⟨_,he⟩
 ·rw[hc] at hk;obtain⟨fo,args,ts,ho⟩:=Fe hk;rw[hx];exact Dx ho (ih n f ys _ _ _ _ hn hr)
 ·exact rL hk he
section
variable {P:Program}{E:Env}{N lo:Nat}{ops:Array Oper}
structure OpOk(P:Program)(ops:Array Oper)(o:Oper)(io:IOp):Prop where
 dst:io.dst=o.dst
 kd:bG P o.op=some io.kd
 args:mj o.op.operands.toList=some io.args
 guard:oe ops o io
theorem ub(ih:wS P E N){os:List IOp}{a:Nat}(hos:∀j io,os[j]? =some io→∃o,ops[a+j]? =some o∧OpOk P ops o io){fr fr':Fr}{H H':Heap}{S:Seg}(h:Trace E N lo none os fr fr' H H' S)
  {μ:Mu} {w:World} {t:Array Value} (hr:Rel P E.g0 μ H.get H.n w) (ht:VRs μ fr.tm t.toList) (f:FuncId) (rd:Option Nat) (ds:List Deferred) (k:List Item) (cs:List Frame) (rest:List Nat):
  ∃μ' t' w',Rel P E.g0 μ' H'.get H'.n w'∧Post lo μ H.get H.n w μ' H'.get H'.n w'∧VRs μ' fr'.tm t'.toList∧
   Steps P (lone (aZ f rd t ds (.inRegion ops (List.range' a os.length++rest)::k)) cs w) (lone (aZ f rd t' ds (.inRegion ops rest::k)) cs w'):=by
 have key:∀j,j≤os.length→∃μ' t' w',Rel P E.g0 μ' (S.H j).get (S.H j).n w'∧Post lo μ H.get H.n w μ' (S.H j).get (S.H j).n w'∧VRs μ' (S.fr j).tm t'.toList∧
   Steps P (lone (aZ f rd t ds (.inRegion ops (List.range' a os.length++rest)::k)) cs w) (lone (aZ f rd t' ds (.inRegion ops (List.range' (a+j) (os.length - j)++rest)::k)) cs w'):=by
  intro j
  induction j with
  | zero=>
    intro _;rw[h.h0,h.f0];exact⟨μ,t,w,hr,Post.refl hr,ht,Steps.refl _ _⟩
  | succ j ihj=>
    intro hj;obtain⟨μ1,t1,w1,hr1,hp1,ht1,st1⟩:=ihj (by omega)
    have hio:os[j]? =some (S.io j):=by
     have:=List.getElem?_eq_getElem (l:=os) (i:=j) (by omega)
     rw[this,h.io j _ this]
    obtain⟨o,ho,hok⟩:=hos j _ hio;have hst:=h.st j (by omega)
    have j7:List.range' (a+j) (os.length - j)++rest=(a+j)::(List.range' (a+(j+1)) (os.length - (j+1))++rest):=by
     rw[show os.length - j=(os.length - (j+1))+1 by omega,List.range'_succ];simp[Nat.add_assoc]
    rw[j7] at st1
    have hwant:Region.wanted o (yielded ops t1)=S.wt j:=by
     rw[lx hok.guard (by simpa using ht1.length) (fun d w' _=>gC ht1 d)];exact hst.wtd
    cases hw:S.wt j with
    | false=>
      rw[hw] at hwant hst;obtain⟨hv,hH⟩:=hst.off rfl;refine⟨μ1,mG t1 o.dst undef,w1,by rw[hH];exact hr1,by rw[hH];exact hp1,?_,st1.trans (.one (vl ho hwant))⟩;rw[hst.frs,hv,hok.dst]
      cases o.dst with
      | none=>exact ht1
      | some d=>simp only[Fr.put,mG,Array.toList_setIfInBounds];exact ht1.set d ⟨#[],rfl,rfl⟩
    | true=>
      rw[hw] at hwant hst;have hxs:=cX hr1 hok.args (hst.ev rfl) (fun i _=>gC ht1 i);obtain⟨v',w',μ',hr',hp,hv,hs⟩:=xq ih hok.kd hst μ1 w1 t1 hr1 hxs f rd ds k cs ops (a+j) (List.range' (a+(j+1)) (os.length - (j+1))++rest);refine⟨μ',mG t1 o.dst v',w',hr',hp1.trans hp,?_,st1.trans (hs ho hwant)⟩;rw[hst.frs,hok.dst]
      cases o.dst with
      | none=>exact VRs.mono hp.le _ _ ht1
      | some d=>simp only[Fr.put,mG,Array.toList_setIfInBounds];exact(VRs.mono hp.le _ _ ht1).set d hv
 obtain⟨μ',t',w',h1,h2,h3,h4⟩:=key os.length (Nat.le_refl _);rw[h.hm] at h1 h2;rw[h.fm] at h3;refine⟨μ',t',w',h1,h2,h3,?_⟩;simpa using h4
theorem Bi{ms:List Nat}{l:List IOp}(h:RegOk P ops ms l){j:Nat}{io:IOp}(hj:l[j]? =some io):∃o,ops[j]? =some o∧OpOk P ops o io:=by
 obtain⟨o,h1,h2,h3,h4,h5,_⟩:=h.at_ j io hj;exact⟨o,h1,h2,h3,h4,h5⟩
theorem IY(ih:wS P E N){ms:List Nat}{l:List IOp}(hreg:RegOk P ops ms l){a m:Nat}(ham:a+m≤l.length){fr fr':Fr}{H H':Heap}{S0:Seg}(h:Trace E N lo (some []) ((l.drop a).take m) fr fr' H H' S0):
  ∃S:Seg,SegOk P E.g0 lo ops a m S∧(∀j,j < m→(S.io j).mask=ms.getD (a+j) 0)∧S.H 0=H∧S.fr 0=fr∧S.H m=H'∧S.fr m=fr':=by
 have hlen:((l.drop a).take m).length=m:=by simp;omega
 have hio:∀j,j < m→l[a+j]? =some (S0.io j):=by
  intro j hj;have h1:((l.drop a).take m)[j]? =l[a+j]?:=by rw[List.getElem?_take_of_lt hj,List.getElem?_drop]
  have h2:l[a+j]? =some (l[a+j]'(by omega)):=List.getElem?_eq_getElem _;rw[h2,h.io j _ (h1.trans h2)]
 let o:Nat→Oper:=fun j=>(ops[a+j]?).getD default
 have hop:∀j,j < m→ops[a+j]? =some (o j)∧OpOk P ops (o j) (S0.io j):=by
  intro j hj;obtain⟨o',h1,h2⟩:=Bi hreg (hio j hj)
  have:o j=o':=by simp[o,h1]
  rw[this];exact⟨h1,h2⟩
 have hst:=h.st;rw[hlen] at hst;have hfp:=h.fp [] rfl;rw[hlen] at hfp;have hmask:∀j,j < m→(S0.io j).mask=ms.getD (a+j) 0:=fun j hj=>by obtain⟨_,_,_,_,_,_,_,h,_⟩:=hreg.at_ (a+j) _ (hio j hj);exact h
 have hord:∀i j,i < j→j < m→∀(P:Prop),(¬(S0.io j).mask.testBit (a+i)=true)→((ms.getD (a+j) 0).testBit (a+i)=false→P)→P:=by
  intro i j _ hj P ho hp;rw[hmask j hj] at ho;exact hp (by simpa using ho)
 have hm':=h.hm;have hf':=h.fm;rw[hlen] at hm' hf';refine⟨{S0 with o:=o},?_,hmask,h.h0,h.f0,hm',hf'⟩
 constructor
 ·intro j hj;exact(hop j hj).1
 ·intro j hj;exact(hop j hj).2.dst
 ·intro j hj;exact(hop j hj).2.kd
 ·intro j hj;exact(hop j hj).2.args
 ·intro j hj;exact(hop j hj).2.guard
 ·intro j hj;exact(hst j hj).wtd
 ·intro j hj;exact(hst j hj).frs
 ·intro j hj;exact(hst j hj).off
 ·intro j hj;exact(hst j hj).ev
 ·intro j hj hw;have h1:=hst j hj;have hw':S0.wt j=true:=hw;rw[hw'] at h1
  have:=xq ih (hop j hj).2.kd h1
  simpa [DL,Seg.low] using this
 ·intro j hj hw hc;rcases(hst j hj).on hw with⟨h1,_⟩ | ⟨_,h1⟩
  ·exact absurd h1 hc
  ·simpa [DL,Seg.low] using h1
 ·intro i j f f' hij hj ho hwi hwj hfi hfj;obtain⟨f2,k1,_,k3⟩:=hfp j hj hwj;have hfj':dW (S0.io j) (S0.xs j)=some f':=hfj;rw[hfj'] at k1;injection k1 with k1;subst k1;rcases k3 i f hij hwi hfi with k | k
  ·obtain⟨_,_,_,_,_,_,hidx,_⟩:=hreg.at_ (a+i) _ (hio i (by omega));rw[hidx] at k;exact absurd k ho
  ·exact k
 ·intro j hj hw;obtain⟨f,k1,_⟩:=hfp j hj hw;exact⟨f,k1⟩
 ·intro i j hij hj ho;exact hord i j hij hj _ ho fun h=>hreg.unl (a+i) (a+j) _ _ (by omega) (hio i (by omega)) (hio j hj) h
 ·intro i j hij hj ho;exact hord i j hij hj _ ho fun h=>hreg.bes (a+i) (a+j) _ _ (by omega) (hio i (by omega)) (hio j hj) h
 ·intro i j hi hj hne h1 h2 ha;refine hreg.amb (a+i) (a+j) _ _ (by omega) (hio i hi) (hio j hj) ?_ ha;simp only[eZ];rcases Nat.lt_or_gt_of_ne hne with hlt | hlt
  ·rw[Nat.max_eq_right (by omega),Nat.min_eq_left (by omega),←hmask j hj]
   have:=h1 hlt
   simpa [Seg.ord] using this
  ·rw[Nat.max_eq_left (by omega),Nat.min_eq_right (by omega),←hmask i hi]
   have:=h2 hlt
   simpa [Seg.ord] using this
 ·intro j hj hs;obtain⟨_,_,_,_,_,_,_,_,h⟩:=hreg.at_ (a+j) _ (hio j hj);exact h hs
def N1(P:Program)(g0 lo:Nat)(ops:Array Oper)(Ls:List Nat→Prop)(fr fr':Fr)(H H':Heap):Prop:=
 ∀(μ:Mu) (w:World) (t:Array Value),Rel P g0 μ H.get H.n w→VRs μ fr.tm t.toList→∀L,Ls L→∀(f:FuncId) (rd:Option Nat) (ds:List Deferred) (k:List Item) (cs:List Frame),
  ∃μ' t' w',Rel P g0 μ' H'.get H'.n w'∧Post lo μ H.get H.n w μ' H'.get H'.n w'∧VRs μ' fr'.tm t'.toList∧
   Steps P (lone (aZ f rd t ds (.inRegion ops L::k)) cs w) (lone (aZ f rd t' ds (.inRegion ops []::k)) cs w')
theorem Ga{S:Seg}{a:Nat}{L:List Nat}(h:CF S a 1 (fun _=>false) L):L=[a]:=by
 cases L with
 | nil=>have:=h 0 (by omega);cases this
 | cons x l=>
   obtain⟨j,hx,hr,h⟩:=h;have hj:=hr.lt
   have:j=0:=by omega
   subst this
   cases l with
   | nil=>rw[hx];rfl
   | cons y l=>
     obtain⟨j',_,hr',_⟩:=h
     have:=hr'.lt
     have e:j'=0:=by omega
     subst e
     have:=hr'.off
     rw[dY] at this;cases this
theorem IW(ih:wS P E N){ms:List Nat}{l:List IOp}(hreg:RegOk P ops ms l){rd:Option Nat}:∀{a:Nat} {segs:List (Sg×List IOp)},PartsOf ms l a segs→∀(n:Nat),n≤N→∀(fr:Fr) (H:Heap) (out:Out) (H':Heap),run E n (.segs segs rd fr) lo H=some (out,H')→
  ∃fr',out=.ex .normal fr'∧fr'.marks=fr.marks∧N1 P E.g0 lo ops (CK ms ops.size (bm a)) fr fr' H H':=by
 intro a segs hp
 induction hp with
 | nil=>
   intro n hn fr H out H' h
   cases n with
   | zero=>simp[run] at h
   | succ n=>
     simp only[run] at h;injection h with h;injection h with h1 h2;subst h1 h2;refine⟨fr,rfl,rfl,fun μ w t hr ht L hL f rd ds k cs=>?_⟩
     cases L with
     | nil=>exact⟨μ,t,w,hr,Post.refl hr,ht,Steps.refl _ _⟩
     | cons x l'=>
       obtain⟨h1,h2,_⟩:=hL
       have:=hreg.len
       simp[bm] at h2;omega
 | @cons a m segs hm hl hc hp ihp=>
   intro n hn fr H out H' h
   cases n with
   | zero=>simp[run] at h
   | succ n=>
     simp only[run] at h;generalize hos:(l.drop a).take m=os at *;have hlen:os.length=m:=by rw[←hos];simp;omega
     have hms:ms.length=ops.size:=hreg.mlen;have hls:l.length=ops.size:=hreg.len
     have hfo:∃(fo:Option bR) (o1:Out) (H1:Heap),((j4 os=.seq∧fo=none)∨(j4 os=.free∧fo=some []))∧run E n (.ops fo os rd fr) lo H=some (o1,H1)∧(∀fr1,o1=.ex .normal fr1→run E n (.segs segs rd fr1) lo H1=some (out,H')):=by
      revert h
      cases j4 os with
      | seq=>
        intro h;simp only at h
        cases hr1:run E n (.ops none os rd fr) lo H with
        | none=>rw[hr1] at h;cases h
        | some p=>
          obtain⟨o1,H1⟩:=p;rw[hr1] at h;exact⟨none,o1,H1,.inl ⟨rfl,rfl⟩,hr1,fun fr1 e=>by subst e;exact h⟩
      | free=>
        intro h;simp only at h
        cases hr1:run E n (.ops (some []) os rd fr) lo H with
        | none=>rw[hr1] at h;cases h
        | some p=>
          obtain⟨o1,H1⟩:=p;rw[hr1] at h;exact⟨some [],o1,H1,.inr ⟨rfl,rfl⟩,hr1,fun fr1 e=>by subst e;exact h⟩
     obtain⟨fo,o1,H1,hkk,hr1,h⟩:=hfo
     ·obtain⟨fr1,S0,ho1,htr⟩:=oP (N:=N) os n (by omega) _ _ _ _ _ hr1;have h:=h fr1 ho1;obtain⟨fr',hout,hmk,hsim⟩:=ihp n (by omega) fr1 H1 out H' h;refine⟨fr',hout,hmk.trans htr.marks,fun μ w t hr ht L hL f rd ds k cs=>?_⟩
      have hoio:∀j io,os[j]? =some io→l[a+j]? =some io:=by
       intro j io hj
       have hj':j < m:=by
        rcases Nat.lt_or_ge j m with k | k
        ·exact k
        ·rw[List.getElem?_eq_none (by omega)] at hj;cases hj
       rw[←hos,List.getElem?_take_of_lt hj',List.getElem?_drop] at hj;exact hj
      rcases hkk with⟨hk,rfl⟩ | ⟨hk,rfl⟩
      ·have hm1:m=1:=by
        unfold j4 at hk;split at hk
        ·omega
        ·cases hk
       subst hm1
       let S1:Seg:={S0 with io:=fun _=>{(default:IOp) with mask:=ms.getD a 0}}
       have hL':CK ms ops.size (sn a 1 (fun _=>false)) L:=by rw[E1];exact hL
       obtain⟨L1,L2,rfl,hs,hL2⟩:=xt (S:=S1) (by omega) hms (fun j hj=>by rw[show j=0 by omega];rfl) (by rw[←hls];exact hc) L _ hL'
       have:=Ga hs
       subst this;obtain⟨μ1,t1,w1,h1,h2,h3,h4⟩:=ub (a:=a) ih (fun j io hj=>Bi hreg (hoio j io hj)) htr hr ht f rd ds k cs L2;obtain⟨μ2,t2,w2,k1,k2,k3,k4⟩:=hsim μ1 w1 t1 h1 h3 L2 hL2 f rd ds k cs;refine⟨μ2,t2,w2,k1,h2.trans k2,k3,Steps.trans ?_ k4⟩;rw[hlen] at h4;exact h4
      ·rw[←hos] at htr;obtain⟨S,hS,hmask,e1,e2,e3,e4⟩:=IY ih hreg hl htr;have hL':CK ms ops.size (sn a m (fun _=>false)) L:=by rw[E1];exact hL
       obtain⟨L1,L2,rfl,hs,hL2⟩:=xt (S:=S) (by omega) hms hmask (by rw[←hls];exact hc) L _ hL';obtain⟨μ1,t1,w1,h1,h2,h3,h4⟩:=Kv hS (by rw[e1];exact hr) (by rw[e2];exact ht) hs f rd ds k cs L2;rw[e3] at h1 h2;rw[e1] at h2;rw[e4] at h3;obtain⟨μ2,t2,w2,k1,k2,k3,k4⟩:=hsim μ1 w1 t1 h1 h3 L2 hL2 f rd ds k cs;exact⟨μ2,t2,w2,k1,h2.trans k2,k3,h4.trans k4⟩
theorem Do(ih:wS P E N){draw:Bool}{segs:List (Sg×List IOp)}(hc:ce P ops draw=some segs){rd:Option Nat}{n:Nat}(hn:n≤N){fr:Fr}{H:Heap}{out:Out}{H':Heap}(h:run E n (.segs segs rd fr) lo H=some (out,H')):
  ∃fr',out=.ex .normal fr'∧fr'.marks=fr.marks∧∀(μ:Mu) (w:World) (t:Array Value),Rel P E.g0 μ H.get H.n w→VRs μ fr.tm t.toList→∀(f:FuncId) (rd:Option Nat) (ds:List Deferred) (k:List Item) (cs:List Frame) (id:Nat),
   ∃μ' t' w',Rel P E.g0 μ' H'.get H'.n w'∧Post lo μ H.get H.n w μ' H'.get H'.n w'∧VRs μ' fr'.tm t'.toList∧
    Steps P (lone (aZ f rd t ds (.code (.region id ops draw)::k)) cs w) (lone (aZ f rd t' ds k) cs w'):=by
 cases draw with
 | true=>
   obtain⟨l,hreg,hp,htopo⟩:=tu hc;obtain⟨fr',h1,h2,hsim⟩:=IW ih hreg hp n hn fr H out H' h;refine⟨fr',h1,h2,fun μ w t hr ht f rd ds k cs id=>?_⟩;have hr':Rel P E.g0 μ H.get H.n {w with drawn:=w.drawn+1}:=hr.heap_eq rfl;obtain⟨μ',t',w',k1,k2,k3,k4⟩:=hsim μ _ t hr' ht _ (xa htopo (P.follows .mixedOrders) (w.tape w.drawn (.order f id))) f rd ds k cs;refine⟨μ',t',w',k1,(Post.same (w':={w with drawn:=w.drawn+1}) hr rfl rfl rfl rfl).trans k2,k3,Steps.head vk (k4.trans (.one kq))⟩
 | false=>
   simp only[ce] at hc
   cases h1:ops.toList.mapM (lm P ops) with
   | none=>rw[h1] at hc;cases hc
   | some l=>
     rw[h1] at hc;simp only[Option.bind_eq_bind,Option.bind_some,Bool.false_eq_true,if_false] at hc;injection hc with hc;subst hc
     cases n with
     | zero=>simp[run] at h
     | succ n=>
       simp only[run] at h
       cases hr1:run E n (.ops none l rd fr) lo H with
       | none=>rw[hr1] at h;cases h
       | some p=>
         obtain⟨o1,H1⟩:=p;rw[hr1] at h;obtain⟨fr1,S0,ho1,htr⟩:=oP (N:=N) l n (by omega) _ _ _ _ _ hr1;subst ho1;simp only at h
         cases n with
         | zero=>simp[run] at h
         | succ n=>
           simp only[run] at h;injection h with h;injection h with h2 h3;subst h2 h3;refine⟨fr1,rfl,htr.marks,fun μ w t hr ht f rd ds k cs id=>?_⟩;obtain⟨hl,hget⟩:=nj h1
           obtain⟨μ',t',w',k1,k2,k3,k4⟩:=ub (a:=0) (ops:=ops) ih (fun j io hj=>by
            obtain⟨o,e1,e2⟩:=hget j io hj;obtain⟨e3,e4,e5,e6⟩:=kF e2;exact⟨o,by simpa using e1,e3,e4,e5,e6⟩) htr hr ht f rd ds k cs []
           rw[hl,List.append_nil,←List.range_eq_range',Array.length_toList] at k4;exact⟨μ',t',w',k1,k2,k3,Steps.head xr (Steps.trans k4 (.one kq))⟩
end
open Classical
section
variable {P:Program}{f:FuncId}{rd:Option Nat}{t:Array Value}{ds:List Deferred}{k:List Item}{cs:List Frame}{w:World}
def setAt(w:World)(c:Nat)(o:Obj):World:={w with heap:=w.heap.setIfInBounds c o}
theorem iC{l:Nat}{L:Loop}(h:w.heap[l]? =some (.loop L)):(Instr.getLoop l).run P w=.ok L w:=by
 simp[Instr.getLoop,getObj,Sem.run,h]
theorem px{l:Nat}{o:Obj}{L:Loop}(h:w.heap[l]? =some (.loop L)):(setObj l o).run P w=.ok () (setAt w l o):=by
 simp[setObj,Sem.run,setAt,h]
theorem vu{l:Nat}{L:Loop}(h:w.heap[l]? =some (.loop L))(hs:L.state=.ready):(Instr.beginRound l).run P w=.ok () (setAt w l (.loop {L with state:=.busy})):=by
 simp[Instr.beginRound,iC h,px h,hs]
theorem lO{l:Nat}{L:Loop}(h:w.heap[l]? =some (.loop L))(j:Option Code):(Instr.endRound l j).run P w=.ok (.bool j.isNone) (setAt w l (.loop {L with state:=if j.isNone then .ready else .done,pending:=j})):=by
 simp[Instr.endRound,iC h,px h]
theorem Bc{l:Nat}{L:Loop}(h:w.heap[l]? =some (.loop L))(hs:L.state≠.busy):(Instr.endLoop l).run P w=.ok L.pending (setAt w l (.loop {L with state:=.exhausted})):=by
 simp[Instr.endLoop,iC h,px h];exact fun e=>absurd e hs
theorem rH{l:Nat}(h:w.heap[l]? =some (.deferred (some []))):(Instr.takeDeferred l).run P w=.ok [] (setAt w l (.deferred none)):=by
 simp[Instr.takeDeferred,getObj,Sem.run,h,setObj,setAt]
theorem wW{l:Nat}{L:Loop}(h:w.heap[l]? =some (.loop L))(hs:L.state=.ready):
  step P (lone (aZ f (some l) t ds (.beginRound::k)) cs w)=.next (lone (aZ f (some l) t ds k) cs (setAt w l (.loop {L with state:=.busy}))):=
 step_lone_go (by simp[stepG,stepG.exec,stepG.apply,aZ,vu h hs,Frame.finish])
theorem Df{l:Nat}{L:Loop}(h:w.heap[l]? =some (.loop L))(hs:L.state≠.busy):
  step P (lone (aZ f rd t ds (.endRangeFunc l::k)) cs w)=.next (lone (aZ f rd t ds ((L.pending.map Item.code).toList++k)) cs (setAt w l (.loop {L with state:=.exhausted}))):=
 step_lone_go (by simp[stepG,stepG.exec,aZ,Bc h hs])
theorem mY{l:Nat}{L:Loop}(h:w.heap[l]? =some (.loop L))(c:Frame){j:Option Jmp}{todo:List Item}(ht:match j with | none=>todo=[] | some .ret=>∃k,todo=.code .ret::k | some (.exit id)=>∃k,todo=.code (.exit id)::k∧exitTo id k=none):
  step P (lone (aZ f (some l) t ds todo) (c::cs) w)=.next (lone (c.finish (.bool j.isNone)) cs (setAt w l (.loop {L with state:=if j.isNone then .ready else .done,pending:=j.map i6}))):=by
 refine step_lone_go ?_
 cases j with
 | none=>
   simp only at ht;subst ht;simp[stepG,stepG.exec,aZ,lO h,doReturn]
 | some j=>
   cases j with
   | ret=>
     obtain⟨k,rfl⟩:=ht;simp[stepG,stepG.exec,aZ,lO h,doReturn,i6]
   | exit id=>
     obtain⟨k,rfl,hk⟩:=ht;simp[stepG,stepG.exec,aZ,lO h,doReturn,i6,hk]
def HH(f:FuncId)(t:Array Value)(ds:List Deferred)(todo:List Item):Frame:=
 {fn:=f,tmps:=t,todo,defers:=ds,mode:=.returning,kind:=.normal,roundOf:=none}
theorem qi{todo:List Item}(ht:todo=[]∨∃k,todo=.code .ret::k):step P (lone (aZ f none t ds todo) cs w)=.next (lone (HH f t ds todo) cs w):=by
 refine step_lone_go ?_;rcases ht with rfl | ⟨k,rfl⟩
 ·simp[stepG,stepG.exec,aZ,HH]
 ·simp[stepG,stepG.exec,aZ,HH]
theorem Mx{c:Nat}{todo:List Item}(h:w.heap[c]? =some (.deferred (some []))):step P (lone (HH f t ({target:=.collected c,args:=#[]}::ds) todo) cs w)=.next (lone (HH f t ds todo) cs (setAt w c (.deferred none))):=
 step_lone_go (by simp[stepG,HH,unwind,rH h])
end
open Classical
section
variable {P:Program}{g0 lo:Nat}{μ:Mu}{w:World}{H H':Heap}
theorem DM(h:Rel P g0 μ H.get H.n w){t:TypeId}{n:Option Nat}(ha:pO P t=some n){b o:Nat}{v:IV}(he:(H.read b o (n.getD 1)).bind (ak n)=some v){a:Addr}(hl:LocR μ b o a):
  ∃v',(loadVar t a).run P w=.ok v' w∧VR μ v v':=by
 cases hr:H.read b o (n.getD 1) with
 | none=>rw[hr] at he;cases he
 | some cs=>
   rw[hr] at he;simp only[Option.bind_some] at he;obtain⟨cs',hlen,hv,hc⟩:=lR h hr hl;rcases sj ha with⟨rfl,hagg⟩ | ⟨k,rfl,hs,hagg⟩
   ·match cs,he with
    | [r1],hm=>
      injection hm with hm;subst hm;obtain⟨u,rfl,hu⟩:=aO hv;have h0:=hc 0 u rfl;have ha0:a.add 0=a:=by simp[Addr.add]
      rw[ha0] at h0;exact⟨u,by simp[loadVar,hagg,load,Sem.run,h0],hu⟩
   ·injection he with hm;subst hm;have hlc:=run_loadCells_list (P:=P) w a cs' hc;rw[hlen] at hlc;simp only[Option.getD_some] at hlc;exact⟨.agg cs'.toArray,by simp[loadVar,hagg,aP hs,hlc],⟨_,rfl,by simpa using hv⟩⟩
def Gl(t:Array Value):ResultVar→Sem Value
 | .tmp t0=>pure (t.getD t0 undef)
 | .cell a ty=>do loadVar ty (←asAddr (t.getD a undef))
theorem qo(h:Rel P g0 μ H.get H.n w){tm:List IV}{t:Array Value}(ht:VRs μ tm t.toList):∀(rs:List ResultVar) (irs:List (Nat×Option (Option Nat))) (vs:List IV),rs.mapM (sV P)=some irs→au H tm irs=some vs→
  ∃vs':List Value,(rs.mapM (Gl t)).run P w=.ok vs' w∧VRs μ vs vs'
 | [],irs,vs,hc,hv=>by
   simp at hc
   subst hc;injection hv with hv;subst hv;exact⟨[],by simp,rfl⟩
 | r::rs,irs,vs,hc,hv=>by
   simp only[List.mapM_cons] at hc
   cases h1:sV P r with
   | none=>rw[h1] at hc;cases hc
   | some ir=>
     rw[h1] at hc
     cases h2:rs.mapM (sV P) with
     | none=>rw[h2] at hc;cases hc
     | some irs'=>
       rw[h2] at hc;injection hc with hc;subst hc;simp only[au] at hv
       cases h3:gq H tm ir with
       | none=>rw[h3] at hv;cases hv
       | some v=>
         rw[h3] at hv
         cases h4:au H tm irs' with
         | none=>rw[h4] at hv;cases hv
         | some vs1=>
           rw[h4] at hv;injection hv with hv;subst hv;obtain⟨vs',hrun,hvs⟩:=qo h ht rs irs' vs1 h2 h4
           have hone:∃v':Value,(Gl t r).run P w=.ok v' w∧VR μ v v':=by
            cases r with
            | tmp t0=>
              injection h1 with h1;subst h1;injection h3 with h3;subst h3;exact⟨t.getD t0 undef,by simp[Gl],gC ht t0⟩
            | cell a ty=>
              simp only[sV] at h1
              cases h5:pO P ty with
              | none=>rw[h5] at h1;cases h1
              | some n=>
                rw[h5] at h1;injection h1 with h1;subst h1;simp only[gq] at h3;have hva:=gC ht a;split at h3
                ·rename_i b o heq;rw[heq] at hva;obtain⟨ad,hval,hl⟩:=hva;obtain⟨v',hr,hv'⟩:=DM h h5 h3 hl;exact⟨v',by simp only[Gl,hval];simp[asAddr,hr],hv'⟩
                ·cases h3
           obtain⟨v',hr1,hv'⟩:=hone;refine⟨v'::vs',?_,v',vs',rfl,hv',hvs⟩;simp only[List.mapM_cons];simp[hr1,hrun]
theorem pj(h:Rel P g0 μ H.get H.n w){tm:List IV}{t:Array Value}(ht:VRs μ tm t.toList){fn:Func}{irs:List (Nat×Option (Option Nat))}{vs:List IV}(hc:fn.results.toList.mapM (sV P)=some irs)(hv:au H tm irs=some vs):
  ∃v',(results fn t).run P w=.ok v' w∧VR μ (d8 vs) v':=by
 obtain⟨vs',hrun,hvs⟩:=qo h ht _ _ _ hc hv
 have hrun':(fn.results.mapM (Gl t)).run P w=.ok vs'.toArray w:=by
  rw[Array.mapM_eq_mapM_toList];simp[hrun]
 refine⟨if h:vs'.toArray.size=1 then vs'.toArray[0] else .tuple vs'.toArray,?_,?_⟩
 ·have e:results fn t=(do let vs←fn.results.mapM (Gl t);pure (if h:vs.size=1 then vs[0] else .tuple vs)):=rfl;rw[e];simp[hrun']
 ·match vs,vs',hvs with
  | [],vs',hvs=>
    have:vs'=[]:=hvs
    subst this;exact⟨#[],rfl,rfl⟩
  | [x],vs',hvs=>
    obtain⟨y,rfl,hy⟩:=aO hvs;exact hy
  | x::y::r,vs',hvs=>
    have hl:=hvs.length;have hne:¬vs'.toArray.size=1:=by simp at hl⊢;omega
    rw[dif_neg hne];exact⟨_,rfl,hvs⟩
def RdR(μ:Mu):Option Nat→Option Nat→Prop
 | none,r=>r=none
 | some l,r=>∃c,r=some c∧LocR μ l 0 ⟨c,0,none⟩
theorem RdR.mono{μ':Mu}(hl:μ.le μ'):∀{rd r:Option Nat},RdR μ rd r→RdR μ' rd r
 | none,_,h=>h
 | some _,_,⟨c,h1,h2⟩=>⟨c,h1,h2.mono hl⟩
def DsR(μ:Mu):List Nat→List Deferred→Prop
 | [],ds=>ds=[]
 | r::rs,ds=>∃c ds',ds={target:=.collected c,args:=#[]}::ds'∧LocR μ r 0 ⟨c,0,none⟩∧DsR μ rs ds'
theorem DsR.mono{μ':Mu}(hl:μ.le μ'):∀{rs:List Nat} {ds:List Deferred},DsR μ rs ds→DsR μ' rs ds
 | [],_,h=>h
 | _::_,_,⟨c,ds',h1,h2,h3⟩=>⟨c,ds',h1,h2.mono hl,h3.mono hl⟩
theorem LocR.live{n:Nat}{g:Gt}(h:Rel P g0 μ g n w){b c:Nat}(hl:LocR μ b 0 ⟨c,0,none⟩){o:IObj}(hg:g b=some o)(ho:o≠.dead):∃ez z,μ b=.at c 0 ez z∧ObjR P μ o 0 ez z w.heap[c]?:=by
 unfold LocR at hl
 cases hm:μ b with
 | no=>rw[hm] at hl;exact hl.elim
 | dead=>have:=h.ded b hm;rw[hg] at this;injection this with this;exact absurd this ho
 | «at» c' p ez z=>
   rw[hm] at hl;simp only[Addr.mk.injEq,and_true] at hl;obtain⟨h1,h2⟩:=hl;have hp:p=0:=by omega
   subst h1 hp;obtain⟨o',k1,k2⟩:=h.obj b _ _ _ _ hm;rw[hg] at k1;injection k1 with k1;subst k1;exact⟨ez,z,rfl,k2⟩
theorem xw{c c':Nat}{o:Obj}:(setAt w c o).heap[c']? =if c=c' then(if c < w.heap.size then some o else none) else w.heap[c']?:=by
 simp only[setAt,Array.getElem?_setIfInBounds]
theorem Rel.setAt(h:Rel P g0 μ H.get H.n w){b c ez z:Nat}{o o':IObj}{ob:Obj}(hm:μ b=.at c 0 ez z)(hlo:lo≤b)(hg:H.get b=some o)(ho:o.owned=true)(hn:ObjR P μ o' 0 ez z (some ob)):
  Rel P g0 μ (H.put b o').get (H.put b o').n (Iso.setAt w c ob)∧Post lo μ H.get H.n w μ (H.put b o').get (H.put b o').n (Iso.setAt w c ob):=by
 have hc:=h.clt hm;refine h.update hm hlo ⟨o,hg,ho⟩ (by simp[Iso.setAt]) (fun c' hne=>?_) ?_ rfl rfl rfl
 ·rw[xw,if_neg (Ne.symm hne)]
 ·rw[xw,if_pos rfl,if_pos hc];exact hn
theorem qc{f:FuncId}{t:Array Value}{todo:List Item}{cs:List Frame}:∀(rs:List Nat) (ds:List Deferred) (H H':Heap) (w:World),Rel P g0 μ H.get H.n w→DsR μ rs ds→bq lo rs H=some H'→
  ∃w',Rel P g0 μ H'.get H'.n w'∧Post lo μ H.get H.n w μ H'.get H'.n w'∧Steps P (lone (HH f t ds todo) cs w) (lone (HH f t [] todo) cs w')
 | [],ds,H,H',w,h,hd,hu=>by
   injection hu with hu;subst hu;have hd:ds=[]:=hd;subst hd;exact⟨w,h,Post.refl h,Steps.refl _ _⟩
 | r::rs,ds,H,H',w,h,hd,hu=>by
   obtain⟨c,ds',rfl,hl,hd⟩:=hd;simp only[bq] at hu
   cases hg:H.get r with
   | none=>rw[hg] at hu;cases hu
   | some o=>
     rw[hg] at hu
     cases o<;>simp only at hu<;>try (cases hu;done)
     split at hu
     ·rename_i hlo;obtain⟨ez,z,hm,hor⟩:=hl.live h hg (fun e=>by cases e);have hw:w.heap[c]? =some (.deferred (some [])):=hor.2;obtain⟨h1,p1⟩:=h.setAt (lo:=lo) (o':=.taken) (ob:=.deferred none) hm hlo hg rfl ⟨rfl,rfl⟩;obtain⟨w',h2,p2,st⟩:=qc (f:=f) (t:=t) (todo:=todo) (cs:=cs) rs ds' _ H' _ h1 hd hu;exact⟨w',h2,p1.trans p2,Steps.head (Mx hw) st⟩
     ·cases hu
end
open Classical
def Arr(P:Program)(f:FuncId)(rd:Option Nat)(t:Array Value)(ds:List Deferred)(cs:List Frame)(w:World)(m0:Machine)(k:List Item):Ex→Prop
 | .normal=>Steps P m0 (lone (aZ f rd t ds k) cs w)
 | .jmp j=>∃pre,Steps P m0 (lone (aZ f rd t ds (.code (i6 j)::(pre++k))) cs w)∧∀id,j=.exit id→exitTo id (pre++k)=exitTo id k
def ItemSim(P:Program)(g0 lo:Nat)(it:Item)(rd:Option Nat)(fr:Fr)(H:Heap)(e:Ex)(fr':Fr)(H':Heap):Prop:=
 ∀(μ:Mu) (w:World) (t:Array Value) (r:Option Nat) (ds:List Deferred),Rel P g0 μ H.get H.n w→VRs μ fr.tm t.toList→RdR μ rd r→DsR μ fr.marks ds→∀(f:FuncId) (k:List Item) (cs:List Frame),
  ∃μ' w' t' ds',Rel P g0 μ' H'.get H'.n w'∧Post lo μ H.get H.n w μ' H'.get H'.n w'∧VRs μ' fr'.tm t'.toList∧DsR μ' fr'.marks ds'∧
   Arr P f r t' ds' cs w' (lone (aZ f r t ds (it::k)) cs w) k e
section
variable {P:Program}{g0 lo:Nat}{rd:Option Nat}{fr fr1 fr':Fr}{H H1 H':Heap}{e:Ex}
theorem Arr.head{f:FuncId}{r:Option Nat}{t:Array Value}{ds:List Deferred}{cs:List Frame}{w:World}{m m1:Machine}{k:List Item}(hs:Steps P m m1)(h:Arr P f r t ds cs w m1 k e):Arr P f r t ds cs w m k e:=by
 cases e with
 | normal=>exact hs.trans h
 | jmp j=>obtain⟨pre,h1,h2⟩:=h;exact⟨pre,hs.trans h1,h2⟩
theorem Arr.skipItem{f:FuncId}{r:Option Nat}{t:Array Value}{ds:List Deferred}{cs:List Frame}{w:World}{m:Machine}{k:List Item}{it:Item}{j:Jmp}(hit:∀id k,exitTo id (it::k)=exitTo id k)(h:Arr P f r t ds cs w m (it::k) (.jmp j)):Arr P f r t ds cs w m k (.jmp j):=by
 obtain⟨pre,h1,h2⟩:=h;exact⟨pre++[it],by simpa using h1,fun id e=>by have:=h2 id e;rw[hit] at this;simpa using this⟩
theorem ItemSim.seq{it0 it1 it2:Item}(hs:∀f r t ds k cs w,step P (lone (aZ f r t ds (it0::k)) cs w)=.next (lone (aZ f r t ds (it1::it2::k)) cs w))
  (h1:ItemSim P g0 lo it1 rd fr H .normal fr1 H1) (h2:ItemSim P g0 lo it2 rd fr1 H1 e fr' H'):ItemSim P g0 lo it0 rd fr H e fr' H':=by
 intro μ w t r ds hr ht hrd hds f k cs;obtain⟨μ1,w1,t1,ds1,a1,a2,a3,a4,a5⟩:=h1 μ w t r ds hr ht hrd hds f (it2::k) cs;obtain⟨μ2,w2,t2,ds2,b1,b2,b3,b4,b5⟩:=h2 μ1 w1 t1 r ds1 a1 a3 (hrd.mono a2.le) a4 f k cs;exact⟨μ2,w2,t2,ds2,b1,a2.trans b2,b3,b4,b5.head (Steps.head (hs f r t ds k cs w) a5)⟩
theorem gL{it0 it1 it2:Item}{j:Jmp}(hs:∀f r t ds k cs w,step P (lone (aZ f r t ds (it0::k)) cs w)=.next (lone (aZ f r t ds (it1::it2::k)) cs w))(hit:∀id k,exitTo id (it2::k)=exitTo id k)
  (h1:ItemSim P g0 lo it1 rd fr H (.jmp j) fr' H'):ItemSim P g0 lo it0 rd fr H (.jmp j) fr' H':=by
 intro μ w t r ds hr ht hrd hds f k cs;obtain⟨μ1,w1,t1,ds1,a1,a2,a3,a4,a5⟩:=h1 μ w t r ds hr ht hrd hds f (it2::k) cs;exact⟨μ1,w1,t1,ds1,a1,a2,a3,a4,(a5.skipItem hit).head (.one (hs f r t ds k cs w))⟩
theorem ItemSim.skip{it:Item}(hs:∀f r t ds k cs w,step P (lone (aZ f r t ds (it::k)) cs w)=.next (lone (aZ f r t ds k) cs w)):ItemSim P g0 lo it rd fr H .normal fr H:=by
 intro μ w t r ds hr ht hrd hds f k cs;exact⟨μ,w,t,ds,hr,Post.refl hr,ht,hds,.one (hs f r t ds k cs w)⟩
theorem ItemSim.jmp{j:Jmp}:ItemSim P g0 lo (.code (i6 j)) rd fr H (.jmp j) fr H:=by
 intro μ w t r ds hr ht hrd hds f k cs;exact⟨μ,w,t,ds,hr,Post.refl hr,ht,hds,[],Steps.refl _ _,fun _ _=>rfl⟩
theorem qk{μ:Mu}:∀(ps:List Nat) (args:List IV) (args':List Value) (tm:List IV) (t:Array Value),VRs μ tm t.toList→VRs μ args args'→VRs μ (dQ tm ps args) ((ps.zip args').foldl (fun tmps (p:Nat×Value)=>tmps.setIfInBounds p.1 p.2) t).toList
 | [],args,args',tm,t,ht,_=>by cases args<;>exact ht
 | p::ps,[],args',tm,t,ht,ha=>by
   have:args'=[]:=ha
   subst this;exact ht
 | p::ps,a::args,args',tm,t,ht,ha=>by
   obtain⟨y,ys,rfl,hy,hys⟩:=ha;simp only[dQ,List.zip_cons_cons,List.foldl_cons];exact qk ps args ys _ _ (by simp only[Array.toList_setIfInBounds];exact ht.set p hy) hys
end
open Classical
section
variable {P:Program}{g0 lo:Nat}{rd:Option Nat}{fr fr1 fr':Fr}{H H1 H':Heap}{e:Ex}{μ:Mu}{w:World}
theorem B3(h:Rel P g0 μ H.get H.n w){tm:List IV}{t:Array Value}(ht:VRs μ tm t.toList){r:Option Nat}(hrd:RdR μ rd r){df:Nat}{marks:List Nat}(he:gE rd H=some (df,marks,H1))
  (f:FuncId) {params:Array Tmp} {assign body:Code} {ps:List Nat} {asg bdy:IC} (hps:params.toList=ps) (ha:aK P assign=some asg) (hb:aK P body=some bdy):
  ∃(l:Nat) (mark:List Deferred) (w1:World) (μ1:Mu),(Instr.enterLoop f t params assign body r).run P w=.ok (l,mark) w1∧
   Rel P g0 μ1 (H1.new (.loop .ready none tm ps asg bdy df)).get (H1.new (.loop .ready none tm ps asg bdy df)).n w1∧
   Post lo μ H.get H.n w μ1 (H1.new (.loop .ready none tm ps asg bdy df)).get (H1.new (.loop .ready none tm ps asg bdy df)).n w1∧
   μ1 H1.n=.at l 0 0 0∧DsR μ1 marks mark:=by
 have last:∀(μ1:Mu) (w1:World) (H1:Heap) (c:Nat),Rel P g0 μ1 H1.get H1.n w1→VRs μ1 tm t.toList→LocR μ1 df 0 ⟨c,0,none⟩→
   Rel P g0 (μ1.upd H1.n (.at w1.heap.size 0 0 0)) (H1.new (.loop .ready none tm ps asg bdy df)).get (H1.new (.loop .ready none tm ps asg bdy df)).n (w1.alloc (.loop {state:=.ready,pending:=none,fn:=f,tmps:=t,params,assign,body,defers:=c}))∧
   Post lo μ1 H1.get H1.n w1 (μ1.upd H1.n (.at w1.heap.size 0 0 0)) (H1.new (.loop .ready none tm ps asg bdy df)).get (H1.new (.loop .ready none tm ps asg bdy df)).n (w1.alloc (.loop {state:=.ready,pending:=none,fn:=f,tmps:=t,params,assign,body,defers:=c})):=by
  intro μ1 w1 H1 c h1 ht1 hl;have hle:=Mu.le_upd μ1 (.at w1.heap.size 0 0 0) h1.fresh;exact h1.alloc (o:=.loop .ready none tm ps asg bdy df) rfl ⟨rfl,_,rfl,rfl,rfl,VRs.mono hle _ _ ht1,hps,ha,hb,hl.mono hle⟩ rfl rfl rfl
 cases rd with
 | none=>
   have hrd:r=none:=hrd;subst hrd;simp only[gE] at he;injection he with he;injection he with e1 he;injection he with e2 e3;subst e1 e2 e3;have hle:=Mu.le_upd μ (.at w.heap.size 0 0 0) h.fresh;obtain⟨h1,p1⟩:=h.alloc (lo:=lo) (w':=w.alloc (.deferred (some []))) (o:=.deferred) (ob:=.deferred (some [])) (ez:=0) (z:=0) rfl ⟨rfl,rfl⟩ rfl rfl rfl;have hl:LocR (μ.upd H.n (.at w.heap.size 0 0 0)) H.n 0 ⟨w.heap.size,0,none⟩:=by unfold LocR;rw[av]
   obtain⟨h2,p2⟩:=last _ _ (H.new .deferred) w.heap.size h1 (VRs.mono hle _ _ ht) hl;refine⟨_,[{target:=.collected w.heap.size,args:=#[]}],_,_,?_,h2,p1.trans p2,av _ _ _,?_⟩
   ·simp[Instr.enterLoop]
   ·exact⟨w.heap.size,[],rfl,hl.mono p2.le,rfl⟩
 | some l0=>
   obtain⟨c0,rfl,hl0⟩:=hrd;simp only[gE] at he
   cases hg:H.get l0 with
   | none=>rw[hg] at he;cases he
   | some o=>
     rw[hg] at he
     cases o<;>simp only at he<;>try (cases he;done)
     injection he with he;injection he with e1 he;injection he with e2 e3;subst e1 e2 e3;obtain⟨ez,z,hm,hor⟩:=hl0.live h hg (fun e=>by cases e);obtain⟨_,L,hL,_,_,_,_,_,_,hdf⟩:=hor;obtain⟨h2,p2⟩:=last μ w H L.defers h ht hdf;refine⟨_,[],_,_,?_,h2,p2,av _ _ _,rfl⟩;simp[Instr.enterLoop,iC hL]
theorem zm{f:FuncId}{r:Option Nat}{t:Array Value}{ds:List Deferred}{k:List Item}{cs:List Frame}{fo:Operand}{params:Array Tmp}{assign body:Code}{l:Nat}{mark:List Deferred}{w1:World}{fr1:Frame}
  (he:(Instr.enterLoop f t params assign body r).run P w=.ok (l,mark) w1)
  (ha:(stepG.apply P true (aZ f r t (mark++ds) (.inRangeFunc l::k)) cs none (do let d←resolve (bW t) {callee:=.value fo,args:=#[.const (.func (.yield l) #[] #[])],argTypes:=#[]} 0;invoke d.target d.args) w1).bare=
   .go {frame:=fr1,callers:=aZ f r t (mark++ds) (.inRangeFunc l::k)::cs,status:=.running,dying:=none} w1):
  step P (lone (aZ f r t ds (.code (.rangeFunc fo params assign body)::k)) cs w)=.next (lone fr1 (aZ f r t (mark++ds) (.inRangeFunc l::k)::cs) w1):=by
 refine step_lone_go ?_;rw[←ha,←nv (f:=f) (rd:=r) (ds:=mark++ds) (.inRangeFunc l::k)];simp only[aZ];simp[stepG,stepG.exec,he]
def Gu:Option Jmp→List Item
 | none=>[]
 | some j=>[.code (i6 j)]
theorem zF{p:Option Code}{j:Option Jmp}(h:p=j.map i6):(p.map Item.code).toList=Gu j:=by
 subst h;cases j<;>rfl
theorem MT{fo:Operand}{params:Array Tmp}{assign body:Code}{ps:List Nat}{asg bdy:IC}(hps:params.toList=ps)(ha:aK P assign=some asg)(hb:aK P body=some bdy)
  {ia:IA} (hia:mB fo=some ia) {g:IV} (hev:ia.eval g0 fr.tm=some g) {df:Nat} {marks:List Nat} (he:gE rd H=some (df,marks,H1))
  {v:IV} {H2:Heap} (hsim:wR P g0 g [.yield H1.n] lo (H1.new (.loop .ready none fr.tm ps asg bdy df)) v H2)
  {st:LoopState} {pend:Option Jmp} {tm':List IV} {ps':List Nat} {asg' bdy':IC} {df':Nat} (hg:H2.get H1.n=some (.loop st pend tm' ps' asg' bdy' df')) (hst:st≠.busy) (hlo:lo≤H1.n):
  ItemSim P g0 lo (.code (.rangeFunc fo params assign body)) rd fr H (match pend with | none=>.normal | some j=>.jmp j) {fr with marks:=marks++fr.marks} (H2.put H1.n (.loop .exhausted pend tm' ps' asg' bdy' df')):=by
 intro μ w t r ds hr ht hrd hds f k cs;obtain⟨l,mark,w1,μ1,hrun,h1,p1,hl,hmk⟩:=B3 (lo:=lo) hr ht hrd he f hps ha hb;have hloc:LocR μ1 H1.n 0 ⟨l,0,none⟩:=by unfold LocR;rw[hl]
 have hf:VR μ1 g (bW t fo):=VR.mono p1.le _ _ (pJ hr hia hev (fun i _=>gC ht i));obtain⟨v',w2,μ2,h2,p2,_,happ⟩:=hsim μ1 w1 (bW t fo) #[.func (.yield l) #[] #[]] h1 hf ⟨_,[],rfl,⟨l,rfl,hloc⟩,rfl⟩ (aZ f r t (mark++ds) (.inRangeFunc l::k)) cs;obtain⟨fr1,hap,hsteps⟩:=happ (do let d←resolve (bW t) {callee:=.value fo,args:=#[.const (.func (.yield l) #[] #[])],argTypes:=#[]} 0;invoke d.target d.args) (by simp[resolve,bW]) (fun d wr r' sv k' e=>by simp[aZ] at e);have hfin:(aZ f r t (mark++ds) (.inRangeFunc l::k)).finish v'=aZ f r t (mark++ds) (.endRangeFunc l::k):=by simp[Frame.finish,aZ]
 rw[hfin] at hsteps;obtain⟨ez,z,hm,hor⟩:=(hloc.mono p2.le).live h2 hg (fun e=>by cases e);obtain⟨_,L,hL,e1,e2,e3,e4,e5,e6,e7⟩:=hor;obtain⟨h3,p3⟩:=h2.setAt (lo:=lo) (o':=.loop .exhausted pend tm' ps' asg' bdy' df') (ob:=.loop {L with state:=.exhausted}) hm hlo hg rfl ⟨rfl,_,rfl,rfl,e2,e3,e4,e5,e6,e7⟩;have hend:=Df (P:=P) (f:=f) (rd:=r) (t:=t) (ds:=mark++ds) (k:=k) (cs:=cs) hL (by rw[e1];exact hst);refine⟨μ2,_,t,mark++ds,h3,(p1.trans p2).trans p3,VRs.mono (Mu.le_trans p1.le p2.le) _ _ ht,?_,?_⟩
 ·have:∀(a:List Nat) (da:List Deferred),DsR μ1 a da→DsR μ2 (a++fr.marks) (da++ds):=by
   intro a
   induction a with
   | nil=>
     intro da hda;have hda:da=[]:=hda;subst hda;exact hds.mono (Mu.le_trans p1.le p2.le)
   | cons x a ih=>
     intro da hda;obtain⟨c,da',rfl,q1,q2⟩:=hda;exact⟨c,da'++ds,rfl,q1.mono p2.le,ih da' q2⟩
  exact this _ _ hmk
 ·have hall:Steps P (lone (aZ f r t ds (.code (.rangeFunc fo params assign body)::k)) cs w) (lone (aZ f r t (mark++ds) ((L.pending.map Item.code).toList++k)) cs (setAt w2 l (.loop {L with state:=.exhausted}))):=
   Steps.head (zm hrun hap) (hsteps.trans (.one hend))
  rw[zF e2] at hall
  cases pend with
  | none=>exact hall
  | some j=>exact⟨[],hall,fun _ _=>rfl⟩
end
open Classical
section
variable {P:Program}{g0 lo:Nat}{fr fr3:Fr}{H H1 H2 H3 H':Heap}{e:Ex}
def sO:Ex→Option Jmp
 | .normal=>none
 | .jmp j=>some j
theorem FM{l:Nat}{args:List IV}{st0:LoopState}{pend:Option Jmp}{tm:List IV}{ps:List Nat}{asg body:IC}{df:Nat}(hg:H.get l=some (.loop st0 pend tm ps asg body df))(hlen:args.length=ps.length)(hlo:lo≤l)
  (h1:∀c,aK P c=some asg→ItemSim P g0 lo (.code c) (some l) ⟨dQ tm ps args,[]⟩ H .normal fr H1) (hb:ig l H1=some H2)
  (h2:∀c,aK P c=some body→ItemSim P g0 lo (.code c) (some l) fr H2 e fr3 H3) {v:IV} (he:xf l e H3=some (.val v,H')):wR P g0 (.yield l) args lo H v H':=by
 intro μ w f' args' hr hvf hva c cs;obtain⟨r,rfl,hloc⟩:=hvf;obtain⟨ez,z,hm,hor⟩:=hloc.live hr hg (fun e=>by cases e);obtain⟨_,L,hL,e1,e2,e3,e4,e5,e6,e7⟩:=hor
 have ht0:VRs μ (dQ tm ps args) ((L.params.zip args').foldl (fun tmps (p:Nat×Value)=>tmps.setIfInBounds p.1 p.2) L.tmps).toList:=by
  have:=qk ps args args'.toList tm L.tmps e3 hva
  rw[←Array.foldl_toList,Array.toList_zip,e4];exact this
 generalize hT:(L.params.zip args').foldl (fun tmps (p:Nat×Value)=>tmps.setIfInBounds p.1 p.2) L.tmps=t0 at ht0;obtain⟨μ1,w1,t1,ds1,a1,a2,a3,a4,a5⟩:=h1 L.assign e5 μ w t0 (some r) [] hr ht0 ⟨r,rfl,hloc⟩ rfl L.fn [.beginRound,.code L.body] (c::cs)
 have hbg:∃pend tm ps asg body df,H1.get l=some (.loop .ready pend tm ps asg body df)∧H2=H1.put l (.loop .busy pend tm ps asg body df):=by
  unfold ig at hb;split at hb
  ·rename_i heq;injection hb with hb;exact⟨_,_,_,_,_,_,heq,hb.symm⟩
  ·cases hb
 obtain⟨p1,tm1,ps1,as1,bo1,df1,hg1,rfl⟩:=hbg;obtain⟨ez1,z1,hm1,hor1⟩:=(hloc.mono a2.le).live a1 hg1 (fun e=>by cases e);obtain⟨_,L1,hL1,f1,f2,f3,f4,f5,f6,f7⟩:=hor1;obtain⟨b1,b2⟩:=a1.setAt (lo:=lo) (o':=.loop .busy p1 tm1 ps1 as1 bo1 df1) (ob:=.loop {L1 with state:=.busy}) hm1 hlo hg1 rfl ⟨rfl,_,rfl,rfl,f2,f3,f4,f5,f6,f7⟩;obtain⟨μ2,w2,t2,ds2,c1,c2,c3,c4,c5⟩:=h2 L.body e6 μ1 _ t1 (some r) ds1 b1 a3 ⟨r,rfl,hloc.mono a2.le⟩ a4 L.fn [] (c::cs)
 have heg:∃st pend tm ps asg body df,H3.get l=some (.loop st pend tm ps asg body df)∧v=.bool (sO e).isNone∧H'=H3.put l (.loop (if (sO e).isNone then .ready else .done) (sO e) tm ps asg body df):=by
  unfold xf at he;split at he
  ·rename_i heq
   cases e with
   | normal=>injection he with he;injection he with he he';injection he with he;exact⟨_,_,_,_,_,_,_,heq,he.symm,he'.symm⟩
   | jmp j=>injection he with he;injection he with he he';injection he with he;exact⟨_,_,_,_,_,_,_,heq,he.symm,he'.symm⟩
  ·cases he
 obtain⟨st3,p3,Ix,ps3,as3,bo3,df3,hg3,rfl,rfl⟩:=heg;obtain⟨ez3,z3,hm3,hor3⟩:=(hloc.mono (Mu.le_trans a2.le c2.le)).live c1 hg3 (fun e=>by cases e);obtain⟨_,L3,hL3,k1,k2,k3,k4,k5,k6,k7⟩:=hor3;obtain⟨d1,d2⟩:=c1.setAt (lo:=lo) (o':=.loop (if (sO e).isNone then .ready else .done) (sO e) Ix ps3 as3 bo3 df3) (ob:=.loop {L3 with state:=if (sO e).isNone then .ready else .done,pending:=(sO e).map i6}) hm3 hlo hg3 rfl ⟨rfl,_,rfl,rfl,rfl,k3,k4,k5,k6,k7⟩;refine⟨.bool (sO e).isNone,_,μ2,d1,((a2.trans b2).trans c2).trans d2,rfl,fun s hs htodo=>?_⟩;refine⟨Frame.round r L.fn t0 L.assign L.body .normal,?_,?_⟩
 ·have hsz:¬args'.size≠L.params.size:=by
   have h1:=hva.length;have h1':args'.toList.length=args'.size:=Array.length_toList;have h2:=congrArg List.length e4;have h2':L.params.toList.length=L.params.size:=Array.length_toList;omega
  have hsz':args'.size=L.params.size:=Classical.not_not.1 hsz
  have hrun:s.run P w=.ok (.round r L.fn t0 L.assign L.body) w:=by
   rw[hs,←hT];simp[Deferred.ofValue,invoke,Instr.yield,iC hL,hsz']
  simp only[stepG.apply,Sem.runT_eq,hrun,if_true,GStep.bare_after];rfl
 ·have s1:Steps P (lone (Frame.round r L.fn t0 L.assign L.body .normal) (c::cs) w) (lone (aZ L.fn (some r) t1 ds1 [.beginRound,.code L.body]) (c::cs) w1):=a5;have s2:=wW (P:=P) (f:=L.fn) (t:=t1) (ds:=ds1) (k:=[.code L.body]) (cs:=c::cs) hL1 f1;refine s1.trans (Steps.head s2 ?_)
  cases e with
  | normal=>exact Steps.trans c5 (.one (mY (j:=none) hL3 c rfl))
  | jmp j=>
    obtain⟨pre,q1,q2⟩:=c5;refine Steps.trans q1 (.one ?_)
    cases j with
    | ret=>exact mY (j:=some .ret) hL3 c ⟨_,rfl⟩
    | exit id=>exact mY (j:=some (.exit id)) hL3 c ⟨_,rfl,q2 id rfl⟩
end
section
variable {P:Program}{E:Env}
structure EnvOk(P:Program)(E:Env):Prop where
 fns:∀f fn,E.fns f=some fn→al P f=some fn
 sums:∀f s,E.sums f=some s→(∃fn body,P.funcs[f]? =some fn∧fn.body=some body∧(fn.name=="runtime.NumGoroutine")=false)∧∀args lo H v H',s args lo H=some (v,H')→CallSim P E.g0 f args lo H v H'
def wO(P:Program)(E:Env)(n:Nat):Prop:=∀c ic rd fr lo H out H',aK P c=some ic→run E n (.code ic rd fr) lo H=some (out,H')→
 ∃e fr',out=.ex e fr'∧ItemSim P E.g0 lo (.code c) rd fr H e fr' H'
theorem sN(c:Code)(id:Nat)(k:List Item):exitTo id (.code c::k)=exitTo id k:=by simp[exitTo]
theorem iA(c:Code)(id:Nat)(k:List Item):exitTo id (.inLoop c::k)=exitTo id k:=by simp[exitTo]
theorem wg(c:Code)(id:Nat)(k:List Item):exitTo id (.inScope c::k)=exitTo id k:=by simp[exitTo]
theorem nC(id' id:Nat)(k:List Item):exitTo id (.inBlock id'::k)=if id'=id then some k else exitTo id k:=by
 by_cases h:id'=id<;>simp[exitTo,h]
theorem JX{n0:Nat}(ih:∀n,n < n0→wO P E n){c:Code}{ic:IC}(hc:aK P c=some ic){rd:Option Nat}{lo:Nat}:∀(n:Nat),n≤n0→∀(fr:Fr) (H:Heap) (out:Out) (H':Heap),run E n (.code (.loop ic) rd fr) lo H=some (out,H')→
  ∃e fr',out=.ex e fr'∧ItemSim P E.g0 lo (.inLoop c) rd fr H e fr' H':=by
 intro n
 induction n with
 | zero=>intro _ fr H out H' h;simp[run] at h
 | succ n ihn=>
   intro hn fr H out H' h;simp only[run] at h
   cases h1:run E n (.code ic rd fr) lo H with
   | none=>rw[h1] at h;cases h
   | some p=>
     obtain⟨o1,H1⟩:=p;rw[h1] at h;obtain⟨e1,fr1,rfl,hs⟩:=ih n (by omega) c ic rd fr lo H o1 H1 hc h1
     cases e1 with
     | normal=>
       simp only at h;obtain⟨e,fr',rfl,hs2⟩:=ihn (by omega) fr1 H1 out H' h;exact⟨e,fr',rfl,ItemSim.seq (fun f r t ds k cs w=>rE) hs hs2⟩
     | jmp j=>
       simp only at h;injection h with h;injection h with h h';subst h h';exact⟨.jmp j,fr1,rfl,gL (fun f r t ds k cs w=>rE) (iA c) hs⟩
theorem wB{N:Nat}(ihA:wS P E N):∀n,n≤N→wO P E n:=by
 intro n
 induction n using Nat.strongRecOn with
 | _ n ih=>
 intro hn c ic rd fr lo H out H' hc h;have ih':∀m,m < n→wO P E m:=fun m hm=>ih m hm (by omega)
 cases n with
 | zero=>simp[run] at h
 | succ n=>
 have ihn:=ih' n (by omega)
 cases c with
 | skip=>
   injection hc with hc;subst hc;simp only[run] at h;injection h with h;injection h with h h';subst h h';exact⟨.normal,fr,rfl,ItemSim.skip fun f r t ds k cs w=>My⟩
 | label l=>
   injection hc with hc;subst hc;simp only[run] at h;injection h with h;injection h with h h';subst h h';exact⟨.normal,fr,rfl,ItemSim.skip fun f r t ds k cs w=>IK⟩
 | exit id=>
   injection hc with hc;subst hc;simp only[run] at h;injection h with h;injection h with h h';subst h h';exact⟨.jmp (.exit id),fr,rfl,ItemSim.jmp (j:=.exit id)⟩
 | ret=>
   injection hc with hc;subst hc;simp only[run] at h;injection h with h;injection h with h h';subst h h';exact⟨.jmp .ret,fr,rfl,ItemSim.jmp (j:=.ret)⟩
 | region id ops draw=>
   simp only[aK] at hc
   cases hr:ce P ops draw with
   | none=>rw[hr] at hc;cases hc
   | some segs=>
     rw[hr] at hc;injection hc with hc;subst hc;simp only[run] at h;obtain⟨fr',rfl,hmk,hsim⟩:=Do ihA hr (by omega) h;refine⟨.normal,fr',rfl,?_⟩;intro μ w t r ds hrel ht hrd hds f k cs;obtain⟨μ',t',w',a1,a2,a3,a4⟩:=hsim μ w t hrel ht f r ds k cs id;exact⟨μ',w',t',ds,a1,a2,a3,by rw[hmk];exact hds.mono a2.le,a4⟩
 | seq a b=>
   simp only[aK] at hc
   cases ha:aK P a with
   | none=>rw[ha] at hc;cases hc
   | some ia=>
     cases hb:aK P b with
     | none=>rw[ha,hb] at hc;cases hc
     | some ib=>
       rw[ha,hb] at hc;injection hc with hc;subst hc;simp only[run] at h
       cases h1:run E n (.code ia rd fr) lo H with
       | none=>rw[h1] at h;cases h
       | some p=>
         obtain⟨o1,H1⟩:=p;rw[h1] at h;obtain⟨e1,fr1,rfl,hs⟩:=ihn a ia rd fr lo H o1 H1 ha h1
         cases e1 with
         | normal=>
           simp only at h;obtain⟨e,fr',rfl,hs2⟩:=ihn b ib rd fr1 lo H1 out H' hb h;exact⟨e,fr',rfl,ItemSim.seq (fun f r t ds k cs w=>Dd) hs hs2⟩
         | jmp j=>
           simp only at h;injection h with h;injection h with h h';subst h h';exact⟨.jmp j,fr1,rfl,gL (fun f r t ds k cs w=>Dd) (sN b) hs⟩
 | cond co a b=>
   simp only[aK] at hc
   cases hco:mB co with
   | none=>rw[hco] at hc;cases hc
   | some ico=>
     cases ha:aK P a with
     | none=>rw[hco,ha] at hc;cases hc
     | some ia=>
       cases hb:aK P b with
       | none=>rw[hco,ha,hb] at hc;cases hc
       | some ib=>
         rw[hco,ha,hb] at hc;injection hc with hc;subst hc;simp only[run] at h
         have fin:∀(bo:Bool),ico.eval E.g0 fr.tm=some (.bool bo)→run E n (.code (if bo then ia else ib) rd fr) lo H=some (out,H')→∃e fr',out=.ex e fr'∧ItemSim P E.g0 lo (.code (.cond co a b)) rd fr H e fr' H':=by
          intro bo hev hrun;obtain⟨e,fr',rfl,hs⟩:=ihn (if bo then a else b) _ rd fr lo H out H' (by cases bo<;>assumption) hrun;refine⟨e,fr',rfl,?_⟩;intro μ w t r ds hrel ht hrd hds f k cs;have hv:=pJ hrel hco hev (fun i _=>gC ht i);have hv':bW t co=.bool bo:=hv;obtain⟨μ1,w1,t1,ds1,a1,a2,a3,a4,a5⟩:=hs μ w t r ds hrel ht hrd hds f k cs;exact⟨μ1,w1,t1,ds1,a1,a2,a3,a4,a5.head (.one (Mz (by rw[nv];exact hv')))⟩
         split at h
         ·rename_i hev;exact fin true hev h
         ·rename_i hev;exact fin false hev h
         ·cases h
 | block id c=>
   simp only[aK] at hc
   cases hcc:aK P c with
   | none=>rw[hcc] at hc;cases hc
   | some ic'=>
     rw[hcc] at hc;injection hc with hc;subst hc;simp only[run] at h
     cases h1:run E n (.code ic' rd fr) lo H with
     | none=>rw[h1] at h;cases h
     | some p=>
       obtain⟨o1,H1⟩:=p;rw[h1] at h;obtain⟨e1,fr1,rfl,hs⟩:=ihn c ic' rd fr lo H o1 H1 hcc h1;have st:∀f r t ds k cs w,step P (lone (aZ f r t ds (.code (.block id c)::k)) cs w)=.next (lone (aZ f r t ds (.code c::.inBlock id::k)) cs w):=fun f r t ds k cs w=>A2
       cases e1 with
       | normal=>
         simp only at h;injection h with h;injection h with h h';subst h h';exact⟨.normal,fr1,rfl,ItemSim.seq st hs (ItemSim.skip fun f r t ds k cs w=>vm)⟩
       | jmp j=>
         cases j with
         | ret=>
           simp only at h;injection h with h;injection h with h h';subst h h';refine⟨.jmp .ret,fr1,rfl,?_⟩;intro μ w t r ds hrel ht hrd hds f k cs;obtain⟨μ1,w1,t1,ds1,a1,a2,a3,a4,pre,b1,b2⟩:=hs μ w t r ds hrel ht hrd hds f (.inBlock id::k) cs;exact⟨μ1,w1,t1,ds1,a1,a2,a3,a4,pre++[.inBlock id],Steps.head (st f r t ds k cs w) (by simpa using b1),fun id' e=>by cases e⟩
         | exit id'=>
           simp only at h;injection h with h;injection h with h h';subst h h';refine⟨_,fr1,rfl,?_⟩;intro μ w t r ds hrel ht hrd hds f k cs;obtain⟨μ1,w1,t1,ds1,a1,a2,a3,a4,pre,b1,b2⟩:=hs μ w t r ds hrel ht hrd hds f (.inBlock id::k) cs;refine⟨μ1,w1,t1,ds1,a1,a2,a3,a4,?_⟩;have hx:=b2 id' rfl;rw[nC] at hx;by_cases he:id'=id
           ·subst he;simp only[if_true] at hx⊢;exact Steps.head (st f r t ds k cs w) (b1.trans (.one (EY hx)))
           ·rw[if_neg (Ne.symm he)] at hx;rw[if_neg he];refine⟨pre++[.inBlock id],Steps.head (st f r t ds k cs w) (by simpa using b1),fun id'' e=>?_⟩;injection e with e;subst e;simpa using hx
 | scope c=>
   simp only[aK] at hc
   cases hcc:aK P c with
   | none=>rw[hcc] at hc;cases hc
   | some ic'=>
     rw[hcc] at hc;injection hc with hc;subst hc;simp only[run] at h;obtain⟨e1,fr1,rfl,hs⟩:=ihn c ic' rd fr lo H out H' hcc h;have st:∀f r t ds k cs w,step P (lone (aZ f r t ds (.code (.scope c)::k)) cs w)=.next (lone (aZ f r t ds (.code c::.inScope c::k)) cs w):=fun f r t ds k cs w=>II
     cases e1 with
     | normal=>exact⟨.normal,fr1,rfl,ItemSim.seq st hs (ItemSim.skip fun f r t ds k cs w=>De)⟩
     | jmp j=>exact⟨.jmp j,fr1,rfl,gL st (wg c) hs⟩
 | loop c=>
   simp only[aK] at hc
   cases hcc:aK P c with
   | none=>rw[hcc] at hc;cases hc
   | some ic'=>
     rw[hcc] at hc;injection hc with hc;subst hc;simp only[run] at h
     cases h1:run E n (.code ic' rd fr) lo H with
     | none=>rw[h1] at h;cases h
     | some p=>
       obtain⟨o1,H1⟩:=p;rw[h1] at h;obtain⟨e1,fr1,rfl,hs⟩:=ihn c ic' rd fr lo H o1 H1 hcc h1
       cases e1 with
       | normal=>
         simp only at h;obtain⟨e,fr',rfl,hs2⟩:=JX ih' hcc n (by omega) fr1 H1 out H' h;exact⟨e,fr',rfl,ItemSim.seq (fun f r t ds k cs w=>zn) hs hs2⟩
       | jmp j=>
         simp only at h;injection h with h;injection h with h h';subst h h';exact⟨.jmp j,fr1,rfl,gL (fun f r t ds k cs w=>zn) (iA c) hs⟩
 | rangeFunc fo params assign body=>
   simp only[aK] at hc
   cases hco:mB fo with
   | none=>rw[hco] at hc;cases hc
   | some ia=>
     cases ha:aK P assign with
     | none=>rw[hco,ha] at hc;cases hc
     | some asg=>
       cases hb:aK P body with
       | none=>rw[hco,ha,hb] at hc;cases hc
       | some bdy=>
         rw[hco,ha,hb] at hc;injection hc with hc;subst hc;simp only[run] at h;split at h
         ·rename_i g df marks H1 hev hen;split at h
          ·rename_i v H2 hap;split at h
           ·rename_i st pend tm ps asg' bdy' df' hg;split at h
            ·cases h
            ·rename_i hst;have hst:¬(st=.busy∨H1.n < lo):=hst;have hsim:=ihA n g [.yield H1.n] lo _ v H2 (by omega) hap
             have:=MT (fr:=fr) rfl ha hb hco hev hen hsim hg (fun e=>hst (.inl e)) (by have:¬H1.n < lo:=fun e=>hst (.inr e);omega)
             cases pend with
             | none=>
               simp only at h;injection h with h;injection h with h h';subst h h';exact⟨_,_,rfl,this⟩
             | some j=>
               simp only at h;injection h with h;injection h with h h';subst h h';exact⟨_,_,rfl,this⟩
           ·cases h
          ·cases h
         ·cases h
 | goto l=>cases hc
 | refuse why=>cases hc
theorem lH{μ:Mu}:∀n,VRs μ (bT n) (List.replicate n undef)
 | 0=>rfl
 | n+1=>⟨undef,List.replicate n undef,rfl,⟨#[],rfl,rfl⟩,lH n⟩
theorem KW{f:FuncId}{fn:IFn}(hc:al P f=some fn){n lo:Nat}{args:List IV}{H H1 H2:Heap}{e:Ex}{fr:Fr}
  (ih:wO P E n) (h:run E n (.code fn.body none ⟨args++bT (fn.ntmps - args.length),[]⟩) lo H=some (.ex e fr,H1)) (he:∀id,e≠.jmp (.exit id)) (hu:bq lo fr.marks H1=some H2) {vs:List IV} (hv:au H2 fr.tm fn.results=some vs):
  CallSim P E.g0 f args lo H (d8 vs) H2:=by
 unfold al at hc
 cases hf:P.funcs[f]? with
 | none=>rw[hf] at hc;cases hc
 | some pf=>
   rw[hf] at hc;simp only at hc;split at hc
   ·cases hc
   ·cases hb:pf.body with
    | none=>rw[hb] at hc;cases hc
    | some c=>
      rw[hb] at hc;simp only at hc
      cases hres:pf.results.toList.mapM (sV P) with
      | none=>rw[hres] at hc;cases hc
      | some irs=>
        cases hcc:aK P c with
        | none=>rw[hres,hcc] at hc;cases hc
        | some ic=>
          rw[hres,hcc] at hc;injection hc with hc;subst hc;simp only at h hv;obtain⟨e',fr',heq,hs⟩:=ih c ic none _ lo H _ H1 hcc h;injection heq with q1 q2;subst q1 q2;intro μ w args' hr ha cs
          have ht:VRs μ (args++bT (pf.ntmps - args.length)) (args'++Array.replicate (pf.ntmps - args'.size) undef).toList:=by
           have hl:args.length=args'.size:=ha.length.trans Array.length_toList;rw[hl,Array.toList_append,Array.toList_replicate];exact ha.append (lH _)
          obtain⟨μ1,w1,t1,ds1,a1,a2,a3,a4,a5⟩:=hs μ w _ none [] hr ht rfl rfl f [] cs
          have henter:Frame.enter P f args' .normal=aZ f none (args'++Array.replicate (pf.ntmps - args'.size) undef) [] [.code c]:=by
           simp[Frame.enter,aZ,hf,hb]
          have hlv:∃todo,Steps P (lone (Frame.enter P f args' .normal) cs w) (lone (HH f t1 ds1 todo) cs w1):=by
           rw[henter]
           cases e with
           | normal=>exact⟨[],Steps.trans a5 (.one (qi (.inl rfl)))⟩
           | jmp j=>
             cases j with
             | exit id=>exact absurd rfl (he id)
             | ret=>
               obtain⟨pre,b1,_⟩:=a5;exact⟨_,Steps.trans b1 (.one (qi (.inr ⟨_,rfl⟩)))⟩
          obtain⟨todo,hst⟩:=hlv;obtain⟨w2,c1,c2,c3⟩:=qc (f:=f) (t:=t1) (todo:=todo) (cs:=cs) fr.marks ds1 H1 H2 w1 a1 a4 hu;obtain⟨v',hrun,hvr⟩:=pj c1 a3 hres hv;exact⟨.returned v',w2,HH f t1 [] todo,⟨v',μ1,rfl,c1,a2.trans c2,hvr⟩,hst.trans c3,rfl,rfl,rfl,rfl,pf,hf,hrun⟩
theorem mi{f:FuncId}{fn:IFn}(hc:al P f=some fn):∃pf body,P.funcs[f]? =some pf∧pf.body=some body∧(pf.name=="runtime.NumGoroutine")=false:=by
 unfold al at hc
 cases hf:P.funcs[f]? with
 | none=>rw[hf] at hc;cases hc
 | some pf=>
   rw[hf] at hc;simp only at hc;split at hc
   ·cases hc
   ·rename_i hn
    cases hb:pf.body with
    | none=>rw[hb] at hc;cases hc
    | some c=>exact⟨pf,c,rfl,hb,by simpa using hn⟩
def RD(P:Program)(E:Env)(n:Nat):Prop:=∀f args lo H out H',run E n (.call f args) lo H=some (out,H')→
 ∃v,out=.val v∧CallSim P E.g0 f args lo H v H'∧∃pf body,P.funcs[f]? =some pf∧pf.body=some body∧(pf.name=="runtime.NumGoroutine")=false
theorem Fx(hE:EnvOk P E){n:Nat}(ih:∀m,m < n→wO P E m):RD P E n:=by
 intro f args lo H out H' h
 cases n with
 | zero=>simp[run] at h
 | succ n=>
   simp only[run] at h
   cases hs:E.sums f with
   | some s=>
     rw[hs] at h;simp only at h
     cases hv:s args lo H with
     | none=>rw[hv] at h;cases h
     | some p=>
       obtain⟨v,H1⟩:=p;rw[hv] at h;simp only[Option.map_some] at h;injection h with h;injection h with h h';subst h h';obtain⟨k1,k2⟩:=hE.sums f s hs;exact⟨v,rfl,k2 _ _ _ _ _ hv,k1⟩
   | none=>
     rw[hs] at h;simp only at h
     cases hf:E.fns f with
     | none=>rw[hf] at h;cases h
     | some fn=>
       rw[hf] at h;simp only at h
       cases hr:run E n (.code fn.body none ⟨args++bT (fn.ntmps - args.length),[]⟩) lo H with
       | none=>rw[hr] at h;cases h
       | some p=>
         obtain⟨o1,H1⟩:=p;rw[hr] at h;have hc:=hE.fns f fn hf
         cases o1 with
         | val v=>cases h
         | ex e fr=>
           simp only at h
           have key:(∀id,e≠.jmp (.exit id))→(match bq lo fr.marks H1 with | none=>none | some H''=>(au H'' fr.tm fn.results).map fun vs=>(Out.val (d8 vs),H''))=some (out,H')→
             ∃v,out=.val v∧CallSim P E.g0 f args lo H v H'∧∃pf body,P.funcs[f]? =some pf∧pf.body=some body∧(pf.name=="runtime.NumGoroutine")=false:=by
            intro hne h
            cases hu:bq lo fr.marks H1 with
            | none=>rw[hu] at h;cases h
            | some H2=>
              rw[hu] at h;simp only at h
              cases hv:au H2 fr.tm fn.results with
              | none=>rw[hv] at h;cases h
              | some vs=>
                rw[hv] at h;simp only[Option.map_some] at h;injection h with h;injection h with h h';subst h h';exact⟨_,rfl,KW hc (ih n (by omega)) hr hne hu hv,mi hc⟩
           cases e with
           | normal=>exact key (fun id e=>by cases e) h
           | jmp j=>
             cases j with
             | exit id=>cases h
             | ret=>exact key (fun id e=>by cases e) h
theorem uq(hE:EnvOk P E):∀N,wS P E N:=by
 intro N
 induction N with
 | zero=>intro n f ys lw H v H' hn;omega
 | succ N ihN=>
   intro n f ys lw H v H' hn h;by_cases hlt:n < N
   ·exact ihN n f ys lw H v H' hlt h
   have hnN:n=N:=by omega
   subst hnN;have hcode:=wB ihN
   cases n with
   | zero=>simp[run] at h
   | succ n=>
     simp only[run] at h;split at h
     ·rename_i g first cap
      have hci:=Fx hE (n:=n) (fun m hm=>hcode m (by omega));obtain⟨v',e1,hs,pf,body,hf,hb,hnm⟩:=hci g _ lw H _ H' h;injection e1 with e1;subst e1;exact Ht hf hb hnm hs
     ·rename_i l;split at h
      ·rename_i st pend tm ps asg body df hg;split at h
       ·rename_i hl;split at h
        ·rename_i fr H1 h1;split at h
         ·rename_i H2 hb;split at h
          ·rename_i e fr3 H3 h2;refine FM (fr:=fr) (fr3:=fr3) hg hl.1 hl.2 (fun c hc=>?_) hb (fun c hc=>?_) h
           ·obtain⟨e',fr',q,hs⟩:=hcode n (by omega) c asg _ _ _ _ _ _ hc h1;injection q with q1 q2;subst q1 q2;exact hs
           ·obtain⟨e',fr',q,hs⟩:=hcode n (by omega) c body _ _ _ _ _ _ hc h2;injection q with q1 q2;subst q1 q2;exact hs
          ·cases h
         ·cases h
        ·cases h
       ·cases h
      ·cases h
     ·cases h
theorem oH(hE:EnvOk P E){n:Nat}{f:FuncId}{args:List IV}{lo:Nat}{H:Heap}{v:IV}{H':Heap}(h:run E n (.call f args) lo H=some (.val v,H')):CallSim P E.g0 f args lo H v H':=by
 obtain⟨v',e,hs,_⟩:=Fx hE (n:=n) (fun m hm=>wB (uq hE n) m (by omega)) f args lo H _ H' h;injection e with e;subst e;exact hs
end
end Go.Iso
