/-
  orders of loops.
-/
import Derived.Test.YtpnbiapmndbhgaaGreatDoorFnS
set_option linter.unusedSimpArgs false
set_option linter.unusedVariables false
set_option maxHeartbeats 4000000
set_option maxRecDepth 10000
set_option linter.defProp false
section
namespace Go.Iso
def KeepX(mb:Nat)(H H':Heap):Prop:=H.n≤H'.n∧∀x,x < H.n→x≠mb→H'.get x=H.get x
theorem KeepX.refl(mb:Nat)(H:Heap):KeepX mb H H:=⟨au _,fun _ _ _=>rfl⟩
theorem KeepX.trans{mb:Nat}{a b c:Heap}(h:KeepX mb a b)(k:KeepX mb b c):KeepX mb a c:=⟨dr h.1 k.1,fun x h1 h2=>(k.2 x (du h1 h.1) h2).trans (h.2 x h1 h2)⟩
theorem KeepX.of{mb:Nat}{H H':Heap}(k:Keep H.n H H'):KeepX mb H H':=⟨k.1,fun x h _=>k.2 x h h⟩
theorem KeepX.put{mb:Nat}{H:Heap}(o:IObj):KeepX mb H (H.put mb o):=⟨au _,fun x _ h=>by rw[ae,if_neg (Ne.symm h)]⟩
end Go.Iso
namespace Go.Iso.Gen
open Go.Iso
structure Hd where
 id:Id
 bed:Int
 at_:Int
 spot:Int
 k:Nat
 deriving Inhabited
instance:Cell Hd where
 z:=5
 cs h:=[.int .u8 h.id.y,.int .i64 h.id.n,.int .u8 h.bed,.int .i64 h.at_,.int .i64 h.spot]
 len _:=rfl
 one _:=rfl
 pos:=by omega
theorem AT(h:Hd):Cell.cs h=[.int .u8 h.id.y,.int .i64 h.id.n,.int .u8 h.bed,.int .i64 h.at_,.int .i64 h.spot]:=rfl
theorem jl:Cell.z Hd=5:=rfl
def cF(x y:Hd):Prop:=x.spot < y.spot∨(x.spot=y.spot∧x.k < y.k)
theorem adQ(a:Hd):¬cF a a:=by unfold cF;omega
theorem kL(a b c:Hd)(h:cF a b)(k:cF b c):cF a c:=by unfold cF at *;omega
def ja(x y:Hd):Prop:=x.k < y.k
def cv(a b:Int):Int:=if a < b then -1 else if a>b then 1 else 0
theorem anM(a b:Int){H:Heap}{lo:Nat}{Q:Out→Heap→Prop}(h:Q (.val (.int .i64 (cv a b))) H):W E0 lo (.call 136 [.int .i64 a,.int .i64 b]) H Q:=by
 rw[ap5];unfold cv at h;by_cases h1:a < b
 ·rw[if_pos h1] at h;simp(disch:=omega) only[ak,↓aj,seval,OB,afJ,aeu];exact h
 ·rw[if_neg h1] at h;by_cases h2:a>b
  ·rw[if_pos h2] at h;simp(disch:=omega) only[ak,↓aj,seval,OB,afJ,aeu];exact h
  ·rw[if_neg h2] at h;simp(disch:=omega) only[ak,↓aj,seval,OB,afJ,aeu];exact h
theorem vT(x y:Hd){H:Heap}{lo:Nat}{Q:Out→Heap→Prop}(hlo:lo≤H.n)(h:∀H',Keep H.n H H'→Q (.val (.int .i64 (cv x.spot y.spot))) H'):W E0 lo (.call 153 [.agg (Cell.cs x),.agg (Cell.cs y)]) H Q:=by
 refine gS _ hlo h fun R hR=>?_;rw[avq];simp(disch:=omega) only[ak,↓aj,seval,are,AT];refine anM _ _ ?_;simp(disch:=omega) only[ak,↓aj,seval,are];exact hR _
end Go.Iso.Gen
end
section
namespace Go.Iso
theorem Own.store{α:Type}[Cell α]{H:Heap}{b e cap:Nat}{l:List α}(h:Own H b e cap l){z:Nat}(hz:Cell.z α=z)(i:Nat)(hi:i < l.length)(a:α)(lo:Nat)(hlo:lo≤b):∃ob,ev1 (.store z) [.ptr b (i*z),.agg (Cell.cs a)] lo H=some (IV.undef,H.put b ob)∧Own (H.put b ob) b e cap (l.set i a):=by
 obtain⟨cs,w,s⟩:=h.set hz i hi a lo hlo;refine⟨_,?_,s⟩;simp only[ev1,IV.cells,w,cx];rw[if_pos (by rw[Cell.len];exact hz)]
theorem jF{α:Type}[Cell α][Inhabited α]{H:Heap}{b e cap:Nat}{l:List α}(h:Own H b e cap l){z:Nat}(hz:Cell.z α=z){i j:Nat}(hi:i < l.length)(hj:j < l.length)(lo:Nat)(hlo:lo≤b):
  ∃o1 o2,ev1 (.store z) [.ptr b (i*z),.agg (Cell.cs (aG l j))] lo H=some (IV.undef,H.put b o1)∧ev1 (.store z) [.ptr b (j*z),.agg (Cell.cs (aG l i))] lo (H.put b o1)=some (IV.undef,(H.put b o1).put b o2)∧Own ((H.put b o1).put b o2) b e cap (gJ l i j):=by
 obtain⟨o1,w1,s1⟩:=h.store hz i hi (aG l j) lo hlo;obtain⟨o2,w2,s2⟩:=s1.store hz j (by simpa using hj) (aG l i) lo hlo;exact⟨_,_,w1,w2,s2⟩
theorem Own.nthRead{α:Type}[Cell α][Inhabited α]{H:Heap}{b e cap:Nat}{l:List α}(h:Own H b e cap l){z:Nat}(hz:Cell.z α=z){i:Nat}(hi:i < l.length):H.read b (i*z) z=some (Cell.cs (aG l i)):=by
 have:=(h.sl true).read hz i hi
 rw[fU hi];simpa [SV.blk,SV.off] using this
end Go.Iso
namespace Go.Iso.Gen
open Go.Iso
def Q8(tm:List IV)(h:tm.length=38):=(ch tm 38 h).trans (by simp only[List.range,List.range.loop,bB,bc];exact rfl)
theorem lP{blk e cap:Nat}{ex:Bool}{l:List Hd}{g:IV}(a b n:Nat){H:Heap}{lo:Nat}{Q:Out→Heap→Prop}(hO:Own H blk e cap l)(hlo:lo≤blk)(hl:l.length≤1000000)(hab:a+n≤b)(hb:b+n≤l.length)
  (h:∀H' l',KeepX blk H H'→Own H' blk e cap l'→Mix a (b+n) l l'→(∀x,aG l' x=gL (aG l) a b n x)→Q (.val (.tuple [])) H'):W E0 lo (.call 220 [(SV.sl blk 0 l.length cap ex).iv,.int .i64 a,.int .i64 b,.int .i64 n,g]) H Q:=by
 rw[auW];simp(disch:=omega) only[ak,↓aj,seval,aq8];refine aO (fun k fr H'=>∃(i:Nat) (l':List Hd),i+k=n∧KeepX blk H H'∧Own H' blk e cap l'∧Mix a (b+n) l l'∧(∀x,aG l' x=gL (aG l) a b i x)∧fr.marks=[]∧fr.tm.length=38∧fr.tm.getD 0 IV.undef=(SV.sl blk 0 l.length cap ex).iv∧fr.tm.getD 1 IV.undef=.int .i64 a∧fr.tm.getD 2 IV.undef=.int .i64 b∧fr.tm.getD 3 IV.undef=.int .i64 n∧fr.tm.getD 10 IV.undef=.int .i64 i) ?_ n ⟨0,l,by omega,KeepX.refl _ _,hO,Mix.refl _ _ _,fun x=>(FV _ _ _ _).symm,rfl,rfl,rfl,rfl,rfl,rfl,rfl⟩;rintro k ⟨tm,mk⟩ H' ⟨i,l',hik,hk,hO',hM,hf,rfl,htm,t0,t1,t2,t3,t10⟩ L hN hJ;rw[Q8 tm htm,t0,t1,t2,t3,t10];by_cases hi:i < n
 ·have hl':=hM.len;have hv:=hO'.sl ex;rw[hl'] at hv;have hv':Sl H' (SV.sl blk 0 l.length cap ex) l':=hv;obtain⟨o1,o2,w1,w2,s2⟩:=jF hO' jl (i:=a+i) (j:=b+i) (by omega) (by omega) lo hlo;have r1:=hO'.nthRead jl (i:=a+i) (by omega);have r2:=hO'.nthRead jl (i:=b+i) (by omega);have ea:((a:Int)+(i:Int)).toNat=a+i:=by omega
  have eb:((b:Int)+(i:Int)).toNat=b+i:=by omega
  have hidx:∀(x:Int) (lo:Nat) (H9:Heap),0≤x→x < l.length→ev1 (.idxSl 5) [.slice blk 0 l.length cap ex,.int .i64 x] lo H9=some (.ptr blk (x.toNat*5),H9):=fun x lo H9 h0 h1=>by
   have:=hv'.idx 5 x lo H9 h0 (by omega)
   simpa [SV.blk,SV.off,SV.iv] using this
  simp(disch:=omega) only[ak,↓aj,seval,amr,↓hidx,ea,eb,r1,r2,↓w1,↓w2]
  have hM':Mix a (b+n) l' (gJ l' (a+i) (b+i)):=sO (by omega) (by omega) (by omega);refine hN (k - 1) _ _ (by omega) ⟨i+1,gJ l' (a+i) (b+i),by omega,(hk.trans (KeepX.put _)).trans (KeepX.put _),s2,hM.trans hM',fun x=>?_,rfl,rfl,rfl,rfl,rfl,rfl,rfl⟩;refine FX (g:=aG (gJ l' (a+i) (b+i))) (by omega) (fun y=>?_) x;rw[gV (by omega) (by omega),hf,hf,hf]
 ·simp(disch:=omega) only[ak,↓aj,seval,amr,hJ]
  have:i=n:=by omega
  subst this;exact h H' l' hk hO' hM hf
def anu(tm:List IV)(h:tm.length=58):=(ch tm 58 h).trans (by simp only[List.range,List.range.loop,bB,bc];exact rfl)
theorem Nj{blk e cap:Nat}{ex:Bool}{l:List Hd}{g:IV}(a m b:Nat){H:Heap}{lo:Nat}{Q:Out→Heap→Prop}(hO:Own H blk e cap l)(hlo:lo≤blk)(hl:l.length≤1000000)(ham:a < m)(hmb:m < b)(hb:b≤l.length)
  (h:∀H' l',KeepX blk H H'→Own H' blk e cap l'→Mix a b l l'→(∀x,aG l' x=lS (aG l) a m b x)→Q (.val (.tuple [])) H'):W E0 lo (.call 219 [(SV.sl blk 0 l.length cap ex).iv,.int .i64 a,.int .i64 m,.int .i64 b,g]) H Q:=by
 rw[auX];simp(disch:=omega) only[ak,↓aj,seval,aq9];have e1:(m:Int) - (a:Int)=((m - a:Nat):Int):=by omega
 have e2:(b:Int) - (m:Int)=((b - m:Nat):Int):=by omega
 refine aO (fun k fr H'=>∃(i j:Nat) (l':List Hd),i+j=k∧0 < i∧0 < j∧i≤m - a∧j≤b - m∧KeepX blk H H'∧Own H' blk e cap l'∧Mix a b l l'∧(∀x,lS (aG l') (m - i) m (m+j) x=lS (aG l) a m b x)∧fr.marks=[]∧fr.tm.length=58∧fr.tm.getD 0 IV.undef=(SV.sl blk 0 l.length cap ex).iv∧fr.tm.getD 2 IV.undef=.int .i64 m∧fr.tm.getD 4 IV.undef=g∧fr.tm.getD 10 IV.undef=.int .i64 i∧fr.tm.getD 11 IV.undef=.int .i64 j) ?_ ((m - a)+(b - m)) ⟨m - a,b - m,l,rfl,by omega,by omega,by omega,by omega,KeepX.refl _ _,hO,Mix.refl _ _ _,fun x=>by rw[show m - (m - a)=a from by omega,show m+(b - m)=b from by omega],rfl,rfl,rfl,rfl,rfl,congrArg _ e1,congrArg _ e2⟩;clear e1 e2;rintro k ⟨tm,mk⟩ H' ⟨i,j,l',hik,hi0,hj0,hi,hj,hk,hO',hM,hf,rfl,htm,t0,t2,t4,t10,t11⟩ L hN hJ;rw[anu tm htm,t0,t2,t4,t10,t11];have hl':=hM.len;have e1:(m:Int) - (i:Int)=((m - i:Nat):Int):=by omega
 rcases Nat.lt_trichotomy i j with hij | hij | hij
 ·have e2:(m:Int)+(j:Int)=((m+j:Nat):Int):=by omega
  have e3:((m+j:Nat):Int) - (i:Int)=((m+j - i:Nat):Int):=by omega
  have e4:(j:Int) - (i:Int)=((j - i:Nat):Int):=by omega
  simp(disch:=omega) only[ak,↓aj,seval,Ba,e1,e2,e3]
  rw[←hl'];refine lP (m - i) (m+j - i) i hO' hlo (by omega) (by omega) (by omega) fun H2 l2 k2 o2 m2 f2=>?_;simp(disch:=omega) only[ak,↓aj,seval,Ba,e4];refine hN _ _ _ (by omega) ⟨i,j - i,l2,rfl,by omega,by omega,by omega,by omega,hk.trans k2,o2,hM.trans (m2.wide (by omega) (by omega)),fun x=>?_,rfl,rfl,by rw[hl'];rfl,rfl,rfl,rfl,rfl⟩;rw[Nl (by omega) hi0 hij f2,hf]
 ·subst hij;simp(disch:=omega) only[ak,↓aj,seval,Ba,hJ,e1];rw[←hl'];refine lP (m - i) m i hO' hlo (by omega) (by omega) (by omega) fun H2 l2 k2 o2 m2 f2=>?_;simp(disch:=omega) only[ak,↓aj,seval,Ba];exact h H2 l2 (hk.trans k2) o2 (hM.trans (m2.wide (by omega) (by omega))) fun x=>by rw[PT (by omega) f2,hf]
 ·have e4:(i:Int) - (j:Int)=((i - j:Nat):Int):=by omega
  simp(disch:=omega) only[ak,↓aj,seval,Ba,e1]
  rw[←hl'];refine lP (m - i) m j hO' hlo (by omega) (by omega) (by omega) fun H2 l2 k2 o2 m2 f2=>?_;simp(disch:=omega) only[ak,↓aj,seval,Ba,e4];refine hN _ _ _ (by omega) ⟨i - j,j,l2,rfl,by omega,by omega,by omega,by omega,hk.trans k2,o2,hM.trans (m2.wide (by omega) (by omega)),fun x=>?_,rfl,rfl,by rw[hl'];rfl,rfl,rfl,rfl,rfl⟩;rw[PU (by omega) hj0 hij f2,hf]
theorem wa{a b:Int}(h:a < b):(cv a b < 0)=True:=by unfold cv;rw[if_pos h];simp
theorem wc{a b:Int}(h:b≤a):(cv a b < 0)=False:=by unfold cv;rw[if_neg (by omega)];split<;>simp
theorem Cu{α:Type}[Cell α]{H:Heap}{blk e cap:Nat}{l:List α}(h:Own H blk e cap l)(ex:Bool)(z:Nat):∀(x:Int) (lo:Nat) (H9:Heap),0≤x→x < l.length→ev1 (.idxSl z) [.slice blk 0 l.length cap ex,.int .i64 x] lo H9=some (.ptr blk (x.toNat*z),H9):=fun x lo H9 h0 h1=>by
 have:=(h.sl ex).idx z x lo H9 h0 h1
 simpa [SV.blk,SV.off,SV.iv] using this
structure Ins(a i j:Nat)(y:Hd)(l:List Hd):Prop where
 at_:aG l j=y
 srt:∀p q,a≤p→p < q→q≤i→p≠j→q≠j→cF (aG l p) (aG l q)
 gt:∀q,j < q→q≤i→cF y (aG l q)
 ord:∀p,a≤p→p≤i→p≠j→ja (aG l p) y
theorem Ins.move{a i j:Nat}{y:Hd}{l:List Hd}(h:Ins a i j y l)(hj:a < j)(hi:j≤i)(hl:i < l.length)(hlt:cF y (aG l (j - 1))):Ins a i (j - 1) y (gJ l j (j - 1)):=by
 have hs:∀x,aG (gJ l j (j - 1)) x=if x=j - 1 then aG l j else if x=j then aG l (j - 1) else aG l x:=gV (by omega) (by omega);refine⟨?_,fun p q h1 h2 h3 h4 h5=>?_,fun q h1 h2=>?_,fun p h1 h2 h3=>?_⟩
 ·rw[hs,if_pos rfl];exact h.at_
 ·rw[hs,hs,if_neg h4,if_neg h5];by_cases c1:p=j
  ·subst c1;rw[if_pos rfl,if_neg (by omega)];exact h.srt _ _ (by omega) (by omega) h3 (by omega) (by omega)
  ·rw[if_neg c1];by_cases c2:q=j
   ·subst c2;rw[if_pos rfl];exact h.srt _ _ h1 (by omega) (by omega) c1 (by omega)
   ·rw[if_neg c2];exact h.srt _ _ h1 h2 h3 c1 c2
 ·rw[hs,if_neg (by omega)];by_cases c:q=j
  ·rw[if_pos c];exact hlt
  ·rw[if_neg c];exact h.gt q (by omega) h2
 ·rw[hs,if_neg h3];by_cases c:p=j
  ·rw[if_pos c];exact h.ord _ (by omega) (by omega) (by omega)
  ·rw[if_neg c];exact h.ord p h1 h2 c
theorem Ins.done{a i j:Nat}{y:Hd}{l:List Hd}(h:Ins a i j y l)(hj:a≤j)(hi:j≤i)(hlt:j=a∨cF (aG l (j - 1)) y):Srt cF l a (i+1):=by
 intro p q h1 h2 h3;by_cases c1:p=j
 ·subst c1;rw[h.at_];exact h.gt q h2 (by omega)
 ·by_cases c2:q=j
  ·subst c2;rw[h.at_];rcases hlt with e | hlt
   ·omega
   ·by_cases c3:p=q - 1
    ·subst c3;exact hlt
    ·exact kL _ _ _ (h.srt _ _ h1 (by omega) (by omega) c1 (by omega)) hlt
  ·exact h.srt _ _ h1 h2 (by omega) c1 c2
def GS(tm:List IV)(h:tm.length=53):=(ch tm 53 h).trans (by simp only[List.range,List.range.loop,bB,bc];exact rfl)
theorem NY{blk e cap:Nat}{ex:Bool}{l:List Hd}{a i:Nat}{y2 y8:IV}{y:Hd}{H:Heap}{lo:Nat}{Q:Out→Heap→Prop}{tm:List IV}(hO:Own H blk e cap l)(hlo:lo≤blk)(hl:l.length≤1000000)(hai:a≤i)(hi:i < l.length)(hI:Ins a i i y l)
  (htm:tm.length=53) (t0:tm.getD 0 IV.undef=(SV.sl blk 0 l.length cap ex).iv) (t1:tm.getD 1 IV.undef=.int .i64 a) (t2:tm.getD 2 IV.undef=y2) (t3:tm.getD 3 IV.undef=.fn 153 [] []) (t8:tm.getD 8 IV.undef=y8) (t9:tm.getD 9 IV.undef=.int .i64 i)
  (hQ:∀H' l' tm',KeepX blk H H'→Own H' blk e cap l'→Mix a (i+1) l l'→Srt cF l' a (i+1)→tm'.length=53→tm'.getD 0 IV.undef=(SV.sl blk 0 l.length cap ex).iv→tm'.getD 1 IV.undef=.int .i64 a→tm'.getD 2 IV.undef=y2→tm'.getD 3 IV.undef=.fn 153 [] []→tm'.getD 8 IV.undef=y8→Q (.ex (.jmp (.exit 2)) ⟨tm',[]⟩) H'):
  W E0 lo (.code (.loop HH) none ⟨tm,[]⟩) H Q:=by
 refine aO (fun k fr H'=>∃(l':List Hd),a≤k∧k≤i∧KeepX blk H H'∧Own H' blk e cap l'∧Mix a (i+1) l l'∧Ins a i k y l'∧fr.marks=[]∧fr.tm.length=53∧fr.tm.getD 0 IV.undef=(SV.sl blk 0 l.length cap ex).iv∧fr.tm.getD 1 IV.undef=.int .i64 a∧fr.tm.getD 2 IV.undef=y2∧fr.tm.getD 3 IV.undef=.fn 153 [] []∧fr.tm.getD 8 IV.undef=y8∧fr.tm.getD 9 IV.undef=.int .i64 k) ?_ i ⟨l,hai,au _,KeepX.refl _ _,hO,Mix.refl _ _ _,hI,rfl,htm,t0,t1,t2,t3,t8,t9⟩;clear htm t0 t1 t2 t3 t8 t9 hO hI;rintro k ⟨tm,mk⟩ H' ⟨l',hak,hki,hk,hO',hM,hI,rfl,htm,t0,t1,t2,t3,t8,t9⟩ L hN hJ;have hl':=hM.len;rw[GS tm htm,t0,t1,t2,t3,t8,t9,←hl'];have hbl:=hO'.2.1;by_cases hja:a < k
 ·have hidx:=Cu hO' ex 5;have e1:((k:Int) - 1).toNat=k - 1:=by omega
  have r1:=hO'.nthRead jl (i:=k) (by omega);have r2:=hO'.nthRead jl (i:=k - 1) (by omega);simp(disch:=omega) only[ak,↓aj,seval,MH,↓hidx,e1,r1,r2];refine vT _ _ (by omega) fun H2 k2=>?_;have hO2:=hO'.keep k2;have kk2:=hk.trans (KeepX.of k2);have hord:=hI.ord (k - 1) (by omega) (by omega) (by omega);rw[←hI.at_] at hord;by_cases hc:(aG l' k).spot < (aG l' (k - 1)).spot
  ·obtain⟨o1,o2,w1,w2,s2⟩:=jF hO2 jl (i:=k) (j:=k - 1) (by omega) (by omega) lo hlo;have q1:=hO2.nthRead jl (i:=k) (by omega);have q2:=hO2.nthRead jl (i:=k - 1) (by omega);have hc':=wa hc;simp(disch:=omega) only[ak,↓aj,seval,MH,hc',↓hidx,e1,q1,q2,↓w1,↓w2];refine hN (k - 1) _ _ (by omega) ⟨gJ l' k (k - 1),by omega,by omega,(kk2.trans (KeepX.put _)).trans (KeepX.put _),s2,hM.trans (sO (by omega) (by omega) (by omega)),hI.move hja hki (by omega) (by rw[←hI.at_];exact .inl hc),rfl,rfl,by rw[hl'];rfl,rfl,rfl,rfl,rfl,?_⟩
   show IV.int _ _=_
   congr 1;omega
  ·have hc':=wc (a:=(aG l' k).spot) (b:=(aG l' (k - 1)).spot) (by omega);simp(disch:=omega) only[ak,↓aj,seval,MH,hc',hJ];refine hQ H2 l' _ kk2 hO2 hM (hI.done hak hki (.inr ?_)) rfl (by rw[hl'];rfl) rfl rfl rfl rfl;rw[←hI.at_];unfold ja at hord;unfold cF;omega
 ·have:k=a:=by omega
  subst this;simp(disch:=omega) only[ak,↓aj,seval,MH,hJ];exact hQ H' l' _ hk hO' hM (hI.done hak hki (.inl rfl)) rfl (by rw[hl'];rfl) rfl rfl rfl rfl
theorem rR{blk e cap:Nat}{ex:Bool}{l:List Hd}(a b:Nat){H:Heap}{lo:Nat}{Q:Out→Heap→Prop}(hO:Own H blk e cap l)(hlo:lo≤blk)(hl:l.length≤1000000)(hab:a≤b)(hb:b≤l.length)(hord:Srt ja l a b)
  (h:∀H' l',KeepX blk H H'→Own H' blk e cap l'→Mix a b l l'→Srt cF l' a b→Q (.val (.tuple [])) H'):W E0 lo (.call 211 [(SV.sl blk 0 l.length cap ex).iv,.int .i64 a,.int .i64 b,.fn 153 [] []]) H Q:=by
 rw[au1];simp(disch:=omega) only[ak,↓aj,seval,arb];refine aO (fun k fr H'=>∃(i:Nat) (l':List Hd),a+1≤i∧i≤max b (a+1)∧i+k=max b (a+1)∧KeepX blk H H'∧Own H' blk e cap l'∧Mix a b l l'∧(∀x,i≤x→aG l' x=aG l x)∧(∀x,a≤x→x < i→∃y,a≤y∧y < i∧aG l' x=aG l y)∧Srt cF l' a i∧fr.marks=[]∧fr.tm.length=53∧fr.tm.getD 0 IV.undef=(SV.sl blk 0 l.length cap ex).iv∧fr.tm.getD 1 IV.undef=.int .i64 a∧fr.tm.getD 2 IV.undef=.int .i64 b∧fr.tm.getD 3 IV.undef=.fn 153 [] []∧fr.tm.getD 8 IV.undef=.int .i64 i) ?_ (max b (a+1) - (a+1)) ⟨a+1,l,by omega,by omega,by omega,KeepX.refl _ _,hO,Mix.refl _ _ _,fun _ _=>rfl,fun x h1 h2=>⟨x,h1,h2,rfl⟩,fun i j h1 h2 h3=>by omega,rfl,rfl,rfl,rfl,rfl,rfl,rfl⟩;rintro k ⟨tm,mk⟩ H' ⟨i,l',hai,him,hik,hk,hO',hM,hout,himg,hS,rfl,htm,t0,t1,t2,t3,t8⟩ L hN hJ;rw[GS tm htm,t0,t1,t2,t3,t8];have hl':=hM.len;by_cases hib:i < b
 ·simp(disch:=omega) only[ak,↓aj,seval,vt,vr,vq,vp,vo,vn,vm,zn,A6,HI]
  have hI:Ins a i i (aG l' i) l':=by
   refine⟨rfl,fun p q h1 h2 h3 h4 h5=>hS p q h1 h2 (by omega),fun q h1 h2=>by omega,fun p h1 h2 h3=>?_⟩
   obtain⟨y,y1,y2,y3⟩:=himg p h1 (by omega);rw[y3,hout i (au _)];exact hord y i y1 (by omega) hib
  refine NY (ex:=ex) hO' hlo (by omega) (by omega) (by omega) hI rfl (by rw[hl'];rfl) rfl rfl rfl rfl rfl fun H2 l2 tm2 k2 o2 m2 s2 htm2 u0 u1 u2 u3 u8=>?_;rw[GS tm2 htm2,u0,u1,u2,u3,u8];simp(disch:=omega) only[ak,↓aj,seval,vt,vr,vq,vp,vo,vn,vm,zn,A6,HI];refine hN (k - 1) _ _ (by omega) ⟨i+1,l2,by omega,by omega,by omega,hk.trans k2,o2,hM.trans (m2.wide (au _) (by omega)),fun x hx=>(m2.out x (by omega)).trans (hout x (by omega)),fun x h1 h2=>?_,s2,rfl,rfl,by rw[←hl'];rfl,rfl,rfl,rfl,rfl⟩;obtain⟨y,y1,y2,y3⟩:=m2.img x h1 h2;by_cases hy:y < i
  ·obtain⟨z,z1,z2,z3⟩:=himg y y1 hy;exact⟨z,z1,by omega,y3.trans z3⟩
  ·exact⟨y,y1,y2,y3.trans (hout y (by omega))⟩
 ·simp(disch:=omega) only[ak,↓aj,seval,vt,vr,vq,vp,vo,vn,vm,zn,A6,HI,hJ]
  exact h H' l' hk hO' hM (hS.part (au _) (by omega))
end Go.Iso.Gen
end
section
namespace Go.Iso
theorem OQ{a:Int}(h:0≤a∧a≤9223372036854775807):IntKind.u64.wrap a=a:=by
 unfold IntKind.wrap;simp only[IntKind.signed,IntKind.bits];simp;omega
theorem rZ(x:Int)(h:0≤x)(lo:Nat)(H:Heap):ev1 (.bin .shr) [.int .u64 x,.int .u64 1] lo H=some (.int .u64 (x / 2),H):=by
 simp only[ev1,nT];rw[if_neg (by omega)];simp only[cx];congr 3
 show x.fdiv (2^(Min.min (1:Int).toNat 64))=x / 2
 rw[show Min.min (1:Int).toNat 64=1 from rfl,Int.pow_one,Int.fdiv_eq_ediv_of_nonneg _ (by omega)]
end Go.Iso
namespace Go.Iso.Gen
open Go.Iso
def iR(tm:List IV)(h:tm.length=220):=(ch tm 220 h).trans (by simp only[List.range,List.range.loop,bB,bc];exact rfl)
theorem Pz{blk e cap:Nat}{ex:Bool}{l:List Hd}{a m b:Nat}{H:Heap}{lo:Nat}{Q:Out→Heap→Prop}{tm:List IV}(hO:Own H blk e cap l)(hl:l.length≤1000000)(ham:a < m)(hmb:m < b)(hb:b≤l.length)(hlh:lo≤H.n)
  (hS:Srt cF l m b) (hord:∀j,m≤j→j < b→ja (aG l a) (aG l j))
  (htm:tm.length=220) (t0:tm.getD 0 IV.undef=(SV.sl blk 0 l.length cap ex).iv) (t1:tm.getD 1 IV.undef=.int .i64 a) (t4:tm.getD 4 IV.undef=.fn 153 [] []) (ti:tm.getD 10 IV.undef=.int .i64 (m:Nat)) (tj:tm.getD 11 IV.undef=.int .i64 (b:Nat))
  (hQ:∀H' tm' i,Keep H.n H H'→m≤i→i≤b→(∀q,m≤q→q < i→cF (aG l q) (aG l a))→(∀q,i≤q→q < b→cF (aG l a) (aG l q))→tm'.length=220→tm'.getD 0 IV.undef=(SV.sl blk 0 l.length cap ex).iv→tm'.getD 1 IV.undef=.int .i64 a→tm'.getD 4 IV.undef=.fn 153 [] []→tm'.getD 10 IV.undef=.int .i64 (i:Nat)→Q (.ex (.jmp (.exit 0)) ⟨tm',[]⟩) H'):
  W E0 lo (.code (.loop HG) none ⟨tm,[]⟩) H Q:=by
 refine aO (fun k fr H'=>∃i j,i+k=j∧m≤i∧j≤b∧Keep H.n H H'∧(∀q,m≤q→q < i→cF (aG l q) (aG l a))∧(∀q,j≤q→q < b→cF (aG l a) (aG l q))∧fr.marks=[]∧fr.tm.length=220∧fr.tm.getD 0 IV.undef=(SV.sl blk 0 l.length cap ex).iv∧fr.tm.getD 1 IV.undef=.int .i64 a∧fr.tm.getD 4 IV.undef=.fn 153 [] []∧fr.tm.getD 10 IV.undef=.int .i64 (i:Nat)∧fr.tm.getD 11 IV.undef=.int .i64 (j:Nat)) ?_ (b - m) ⟨m,b,by omega,au _,au _,Keep.refl _ _,fun q h1 h2=>by omega,fun q h1 h2=>by omega,rfl,htm,t0,t1,t4,ti,tj⟩;clear htm t0 t1 t4 ti tj;rintro k ⟨tm,mk⟩ H' ⟨i,j,hij,hmi,hjb,hk,hL,hR,rfl,htm,t0,t1,t4,ti,tj⟩ L hN hJ;rw[iR tm htm,t0,t1,t4,ti,tj];have hn:=hk.1;by_cases hlt:i < j
 ·have hO':=hO.keep hk;have hidx:=Cu hO' ex 5;have eh:((i:Int)+(j:Int)) / 2=(((i+j) / 2:Nat):Int):=by omega
  have r1:=hO'.nthRead jl (i:=(i+j) / 2) (by omega);have r2:=hO'.nthRead jl (i:=a) (by omega);simp(disch:=omega) only[ak,↓aj,seval,jk,↓hidx,OQ,↓rZ,eh,r1,r2,ff];refine vT _ _ (by omega) fun H2 k2=>?_;have kk2:Keep H.n H H2:=hk.trans (k2.lower hn);by_cases hc:(aG l ((i+j) / 2)).spot < (aG l (a)).spot
  ·have hc':=wa hc;have hlt':cF (aG l ((i+j) / 2)) (aG l (a)):=.inl hc;simp(disch:=omega) only[ak,↓aj,seval,jk,hc']
   refine hN (j - ((i+j) / 2+1)) _ _ (by omega) ⟨(i+j) / 2+1,j,by omega,by omega,hjb,kk2,fun q h1 h2=>by
    by_cases c:q < (i+j) / 2
    ·exact kL _ _ _ (hS q _ (by omega) c (by omega)) hlt'
    ·rw[show q=(i+j) / 2 from by omega];exact hlt',hR,rfl,rfl,rfl,rfl,rfl,?_,rfl⟩
   show IV.int _ _=_
   congr 1
  ·have hc':=wc (a:=(aG l ((i+j) / 2)).spot) (b:=(aG l (a)).spot) (by omega)
   have hlt':cF (aG l (a)) (aG l ((i+j) / 2)):=by
    have ho:=hord ((i+j) / 2) (by omega) (by omega);unfold ja at ho;unfold cF;omega
   simp(disch:=omega) only[ak,↓aj,seval,jk,hc']
   exact hN ((i+j) / 2 - i) _ _ (by omega) ⟨i,(i+j) / 2,by omega,hmi,by omega,kk2,hL,fun q h1 h2=>by
    by_cases c:(i+j) / 2 < q
    ·exact kL _ _ _ hlt' (hS _ q (by omega) c (by omega))
    ·rw[show q=(i+j) / 2 from by omega];exact hlt',rfl,rfl,rfl,rfl,rfl,rfl,rfl⟩
 ·have:i=j:=by omega
  subst this;simp(disch:=omega) only[ak,↓aj,seval,jk,hJ];exact hQ H' _ i hk hmi hjb hL hR rfl rfl rfl rfl rfl
theorem Py{blk e cap:Nat}{ex:Bool}{l:List Hd}{a m b:Nat}{H:Heap}{lo:Nat}{Q:Out→Heap→Prop}{tm:List IV}(hO:Own H blk e cap l)(hl:l.length≤1000000)(ham:a < m)(hmb:m < b)(hb:b≤l.length)(hlh:lo≤H.n)
  (hS:Srt cF l a m) (hord:∀j,a≤j→j < m→ja (aG l j) (aG l m))
  (htm:tm.length=220) (t0:tm.getD 0 IV.undef=(SV.sl blk 0 l.length cap ex).iv) (t2:tm.getD 2 IV.undef=.int .i64 m) (t4:tm.getD 4 IV.undef=.fn 153 [] []) (ti:tm.getD 14 IV.undef=.int .i64 (a:Nat)) (tj:tm.getD 15 IV.undef=.int .i64 (m:Nat))
  (hQ:∀H' tm' i,Keep H.n H H'→a≤i→i≤m→(∀q,a≤q→q < i→cF (aG l q) (aG l m))→(∀q,i≤q→q < m→cF (aG l m) (aG l q))→tm'.length=220→tm'.getD 0 IV.undef=(SV.sl blk 0 l.length cap ex).iv→tm'.getD 2 IV.undef=.int .i64 m→tm'.getD 4 IV.undef=.fn 153 [] []→tm'.getD 14 IV.undef=.int .i64 (i:Nat)→Q (.ex (.jmp (.exit 4)) ⟨tm',[]⟩) H'):
  W E0 lo (.code (.loop C7) none ⟨tm,[]⟩) H Q:=by
 refine aO (fun k fr H'=>∃i j,i+k=j∧a≤i∧j≤m∧Keep H.n H H'∧(∀q,a≤q→q < i→cF (aG l q) (aG l m))∧(∀q,j≤q→q < m→cF (aG l m) (aG l q))∧fr.marks=[]∧fr.tm.length=220∧fr.tm.getD 0 IV.undef=(SV.sl blk 0 l.length cap ex).iv∧fr.tm.getD 2 IV.undef=.int .i64 m∧fr.tm.getD 4 IV.undef=.fn 153 [] []∧fr.tm.getD 14 IV.undef=.int .i64 (i:Nat)∧fr.tm.getD 15 IV.undef=.int .i64 (j:Nat)) ?_ (m - a) ⟨a,m,by omega,au _,au _,Keep.refl _ _,fun q h1 h2=>by omega,fun q h1 h2=>by omega,rfl,htm,t0,t2,t4,ti,tj⟩;clear htm t0 t2 t4 ti tj;rintro k ⟨tm,mk⟩ H' ⟨i,j,hij,hmi,hjb,hk,hL,hR,rfl,htm,t0,t2,t4,ti,tj⟩ L hN hJ;rw[iR tm htm,t0,t2,t4,ti,tj];have hn:=hk.1;by_cases hlt:i < j
 ·have hO':=hO.keep hk;have hidx:=Cu hO' ex 5;have eh:((i:Int)+(j:Int)) / 2=(((i+j) / 2:Nat):Int):=by omega
  have r1:=hO'.nthRead jl (i:=m) (by omega);have r2:=hO'.nthRead jl (i:=(i+j) / 2) (by omega);simp(disch:=omega) only[ak,↓aj,seval,jk,↓hidx,OQ,↓rZ,eh,r1,r2,ff];refine vT _ _ (by omega) fun H2 k2=>?_;have kk2:Keep H.n H H2:=hk.trans (k2.lower hn);by_cases hc:(aG l (m)).spot < (aG l ((i+j) / 2)).spot
  ·have hc':=wa hc;have hlt':cF (aG l (m)) (aG l ((i+j) / 2)):=.inl hc;simp(disch:=omega) only[ak,↓aj,seval,jk,hc']
   exact hN ((i+j) / 2 - i) _ _ (by omega) ⟨i,(i+j) / 2,by omega,hmi,by omega,kk2,hL,fun q h1 h2=>by
    by_cases c:(i+j) / 2 < q
    ·exact kL _ _ _ hlt' (hS _ q (by omega) c (by omega))
    ·rw[show q=(i+j) / 2 from by omega];exact hlt',rfl,rfl,rfl,rfl,rfl,rfl,rfl⟩
  ·have hc':=wc (a:=(aG l (m)).spot) (b:=(aG l ((i+j) / 2)).spot) (by omega)
   have hlt':cF (aG l ((i+j) / 2)) (aG l (m)):=by
    have ho:=hord ((i+j) / 2) (by omega) (by omega);unfold ja at ho;unfold cF;omega
   simp(disch:=omega) only[ak,↓aj,seval,jk,hc']
   refine hN (j - ((i+j) / 2+1)) _ _ (by omega) ⟨(i+j) / 2+1,j,by omega,by omega,hjb,kk2,fun q h1 h2=>by
    by_cases c:q < (i+j) / 2
    ·exact kL _ _ _ (hS q _ (by omega) c (by omega)) hlt'
    ·rw[show q=(i+j) / 2 from by omega];exact hlt',hR,rfl,rfl,rfl,rfl,rfl,?_,rfl⟩
   show IV.int _ _=_
   congr 1
 ·have:i=j:=by omega
  subst this;simp(disch:=omega) only[ak,↓aj,seval,jk,hJ];exact hQ H' _ i hk hmi hjb hL hR rfl rfl rfl rfl rfl
theorem Px{blk e cap:Nat}{ex:Bool}{l:List Hd}{a m b mid s0 r0 p:Nat}{H:Heap}{y19:IV}{lo:Nat}{Q:Out→Heap→Prop}{tm:List IV}(hO:Own H blk e cap l)(hl:l.length≤1000000)(ham:a < m)(hmb:m < b)(hb:b≤l.length)(hlh:lo≤H.n)
  (hsr:s0≤r0) (hord:∀i j,a≤i→i < m→m≤j→j < b→ja (aG l i) (aG l j)) (hrng:∀c,s0≤c→c < r0→a≤c∧c < m∧c≤p∧m≤p - c∧p - c < b)
  (htm:tm.length=220) (t0:tm.getD 0 IV.undef=(SV.sl blk 0 l.length cap ex).iv) (t1:tm.getD 1 IV.undef=.int .i64 a) (t2:tm.getD 2 IV.undef=.int .i64 m) (t3:tm.getD 3 IV.undef=.int .i64 b) (t4:tm.getD 4 IV.undef=.fn 153 [] []) (t18:tm.getD 18 IV.undef=.int .i64 mid) (t19:tm.getD 19 IV.undef=y19) (t22:tm.getD 22 IV.undef=.int .i64 p) (ti:tm.getD 20 IV.undef=.int .i64 (s0:Nat)) (tj:tm.getD 21 IV.undef=.int .i64 (r0:Nat))
  (hQ:∀H' tm' i,Keep H.n H H'→s0≤i→i≤r0→(i=s0∨cF (aG l (i - 1)) (aG l (p - (i - 1))))→(i=r0∨cF (aG l (p - i)) (aG l i))→tm'.length=220→tm'.getD 0 IV.undef=(SV.sl blk 0 l.length cap ex).iv→tm'.getD 1 IV.undef=.int .i64 a→tm'.getD 2 IV.undef=.int .i64 m→tm'.getD 3 IV.undef=.int .i64 b→tm'.getD 4 IV.undef=.fn 153 [] []→tm'.getD 18 IV.undef=.int .i64 mid→tm'.getD 19 IV.undef=y19→tm'.getD 22 IV.undef=.int .i64 p→tm'.getD 20 IV.undef=.int .i64 (i:Nat)→Q (.ex (.jmp (.exit 8)) ⟨tm',[]⟩) H'):
  W E0 lo (.code (.loop wm) none ⟨tm,[]⟩) H Q:=by
 refine aO (fun k fr H'=>∃i j,i+k=j∧s0≤i∧j≤r0∧Keep H.n H H'∧(i=s0∨cF (aG l (i - 1)) (aG l (p - (i - 1))))∧(j=r0∨cF (aG l (p - j)) (aG l j))∧fr.marks=[]∧fr.tm.length=220∧fr.tm.getD 0 IV.undef=(SV.sl blk 0 l.length cap ex).iv∧fr.tm.getD 1 IV.undef=.int .i64 a∧fr.tm.getD 2 IV.undef=.int .i64 m∧fr.tm.getD 3 IV.undef=.int .i64 b∧fr.tm.getD 4 IV.undef=.fn 153 [] []∧fr.tm.getD 18 IV.undef=.int .i64 mid∧fr.tm.getD 19 IV.undef=y19∧fr.tm.getD 22 IV.undef=.int .i64 p∧fr.tm.getD 20 IV.undef=.int .i64 (i:Nat)∧fr.tm.getD 21 IV.undef=.int .i64 (j:Nat)) ?_ (r0 - s0) ⟨s0,r0,by omega,au _,au _,Keep.refl _ _,.inl rfl,.inl rfl,rfl,htm,t0,t1,t2,t3,t4,t18,t19,t22,ti,tj⟩;clear htm t0 t1 t2 t3 t4 t18 t19 t22 ti tj;rintro k ⟨tm,mk⟩ H' ⟨i,j,hij,hmi,hjb,hk,hL,hR,rfl,htm,t0,t1,t2,t3,t4,t18,t19,t22,ti,tj⟩ L hN hJ;rw[iR tm htm,t0,t1,t2,t3,t4,t18,t19,t22,ti,tj];have hn:=hk.1;by_cases hlt:i < j
 ·have hO':=hO.keep hk;have hidx:=Cu hO' ex 5;have eh:((i:Int)+(j:Int)) / 2=(((i+j) / 2:Nat):Int):=by omega
  have hr:=hrng ((i+j) / 2) (by omega) (by omega);have ep:(p:Int) - (((i+j) / 2:Nat):Int)=((p - (i+j) / 2:Nat):Int):=by omega
  have r1:=hO'.nthRead jl (i:=p - (i+j) / 2) (by omega);have r2:=hO'.nthRead jl (i:=(i+j) / 2) (by omega);simp(disch:=omega) only[ak,↓aj,seval,jk,↓hidx,OQ,↓rZ,eh,ep,r1,r2,ff];refine vT _ _ (by omega) fun H2 k2=>?_;have kk2:Keep H.n H H2:=hk.trans (k2.lower hn);by_cases hc:(aG l (p - (i+j) / 2)).spot < (aG l ((i+j) / 2)).spot
  ·have hc':=wa hc;have hlt':cF (aG l (p - (i+j) / 2)) (aG l ((i+j) / 2)):=.inl hc;simp(disch:=omega) only[ak,↓aj,seval,jk,hc'];exact hN ((i+j) / 2 - i) _ _ (by omega) ⟨i,(i+j) / 2,by omega,hmi,by omega,kk2,hL,(.inr hlt'),rfl,rfl,rfl,rfl,rfl,rfl,rfl,rfl,rfl,rfl,rfl,rfl⟩
  ·have hc':=wc (a:=(aG l (p - (i+j) / 2)).spot) (b:=(aG l ((i+j) / 2)).spot) (by omega)
   have hlt':cF (aG l ((i+j) / 2)) (aG l (p - (i+j) / 2)):=by
    have ho:=hord _ _ hr.1 hr.2.1 hr.2.2.2.1 hr.2.2.2.2;unfold ja at ho;unfold cF;omega
   simp(disch:=omega) only[ak,↓aj,seval,jk,hc']
   refine hN (j - ((i+j) / 2+1)) _ _ (by omega) ⟨(i+j) / 2+1,j,by omega,by omega,hjb,kk2,(.inr (by simpa using hlt')),hR,rfl,rfl,rfl,rfl,rfl,rfl,rfl,rfl,rfl,rfl,?_,rfl⟩
   show IV.int _ _=_
   congr 1
 ·have:i=j:=by omega
  subst this;simp(disch:=omega) only[ak,↓aj,seval,jk,hJ];exact hQ H' _ i hk hmi hjb hL hR rfl rfl rfl rfl rfl rfl rfl rfl rfl rfl
theorem adk{blk e cap:Nat}{ex:Bool}{l:List Hd}{a b i:Nat}{H:Heap}{lo:Nat}{Q:Out→Heap→Prop}{tm:List IV}(hO:Own H blk e cap l)(hlo:lo≤blk)(hl:l.length≤1000000)(hai:a < i)(hib:i≤b)(hb:b≤l.length)
  (htm:tm.length=220) (t0:tm.getD 0 IV.undef=(SV.sl blk 0 l.length cap ex).iv) (t10:tm.getD 10 IV.undef=.int .i64 i) (t13:tm.getD 13 IV.undef=.int .i64 a)
  (hQ:∀H' l' tm',KeepX blk H H'→Own H' blk e cap l'→Mix a b l l'→(∀q,aG l' q=if a≤q∧q < i - 1 then aG l (q+1) else if q=i - 1 then aG l a else aG l q)→Q (.ex (.jmp (.exit 2)) ⟨tm',[]⟩) H'):
  W E0 lo (.code (.loop C8) none ⟨tm,[]⟩) H Q:=by
 refine aO (fun k fr H'=>∃p l',a≤p∧p+k=i - 1∧KeepX blk H H'∧Own H' blk e cap l'∧Mix a b l l'∧(∀q,aG l' q=if a≤q∧q < p then aG l (q+1) else if q=p then aG l a else aG l q)∧fr.marks=[]∧fr.tm.length=220∧fr.tm.getD 0 IV.undef=(SV.sl blk 0 l.length cap ex).iv∧fr.tm.getD 10 IV.undef=.int .i64 i∧fr.tm.getD 13 IV.undef=.int .i64 p) ?_ (i - 1 - a) ⟨a,l,au _,by omega,KeepX.refl _ _,hO,Mix.refl _ _ _,fun q=>by rw[if_neg (by omega)];split<;>simp_all,rfl,htm,t0,t10,t13⟩;clear htm t0 t10 t13;rintro k ⟨tm,mk⟩ H' ⟨p,l',hap,hpk,hk,hO',hM,hf,rfl,htm,t0,t10,t13⟩ L hN hJ;have hl':=hM.len;rw[iR tm htm,t0,t10,t13,←hl'];by_cases hlt:p < i - 1
 ·have hidx:=Cu hO' ex 5;have e1:(p:Int)+1=((p+1:Nat):Int):=by omega
  obtain⟨o1,o2,w1,w2,s2⟩:=jF hO' jl (i:=p) (j:=p+1) (by omega) (by omega) lo hlo;have r1:=hO'.nthRead jl (i:=p) (by omega);have r2:=hO'.nthRead jl (i:=p+1) (by omega);simp(disch:=omega) only[ak,↓aj,seval,jk,↓hidx,e1,r1,r2,↓w1,↓w2];refine hN (k - 1) _ _ (by omega) ⟨p+1,gJ l' p (p+1),by omega,by omega,(hk.trans (KeepX.put _)).trans (KeepX.put _),s2,hM.trans (sO (by omega) (by omega) (by omega)),fun q=>?_,rfl,rfl,by rw[hl'];rfl,rfl,rfl⟩;rw[gV (by omega) (by omega),hf p,hf (p+1),hf q];by_cases c1:q=p+1
  ·subst c1;rw[if_pos rfl,if_neg (by omega),if_pos rfl,if_neg (by omega),if_pos rfl]
  ·rw[if_neg c1];by_cases c2:q=p
   ·subst c2;rw[if_pos rfl,if_neg (by omega),if_neg (by omega),if_pos (by omega)]
   ·rw[if_neg c2];by_cases c3:a≤q∧q < p
    ·rw[if_pos c3,if_pos (by omega)]
    ·rw[if_neg c3,if_neg c2,if_neg (by omega),if_neg c1]
 ·have:p=i - 1:=by omega
  subst this;simp(disch:=omega) only[ak,↓aj,seval,jk,hJ];exact hQ H' l' _ hk hO' hM hf
theorem adj{blk e cap:Nat}{ex:Bool}{l:List Hd}{a m i:Nat}{H:Heap}{lo:Nat}{Q:Out→Heap→Prop}{tm:List IV}(hO:Own H blk e cap l)(hlo:lo≤blk)(hl:l.length≤1000000)(hai:a≤i)(him:i≤m)(hb:m < l.length)
  (htm:tm.length=220) (t0:tm.getD 0 IV.undef=(SV.sl blk 0 l.length cap ex).iv) (t14:tm.getD 14 IV.undef=.int .i64 i) (t17:tm.getD 17 IV.undef=.int .i64 m)
  (hQ:∀H' l' tm',KeepX blk H H'→Own H' blk e cap l'→Mix a (m+1) l l'→(∀q,aG l' q=if i < q∧q≤m then aG l (q - 1) else if q=i then aG l m else aG l q)→Q (.ex (.jmp (.exit 6)) ⟨tm',[]⟩) H'):
  W E0 lo (.code (.loop C6) none ⟨tm,[]⟩) H Q:=by
 refine aO (fun k fr H'=>∃p l',p=i+k∧p≤m∧KeepX blk H H'∧Own H' blk e cap l'∧Mix a (m+1) l l'∧(∀q,aG l' q=if p < q∧q≤m then aG l (q - 1) else if q=p then aG l m else aG l q)∧fr.marks=[]∧fr.tm.length=220∧fr.tm.getD 0 IV.undef=(SV.sl blk 0 l.length cap ex).iv∧fr.tm.getD 14 IV.undef=.int .i64 i∧fr.tm.getD 17 IV.undef=.int .i64 p) ?_ (m - i) ⟨m,l,by omega,au _,KeepX.refl _ _,hO,Mix.refl _ _ _,fun q=>by rw[if_neg (by omega)];split<;>simp_all,rfl,htm,t0,t14,t17⟩;clear htm t0 t14 t17;rintro k ⟨tm,mk⟩ H' ⟨p,l',hpk,hpm,hk,hO',hM,hf,rfl,htm,t0,t14,t17⟩ L hN hJ;have hl':=hM.len;rw[iR tm htm,t0,t14,t17,←hl'];by_cases hlt:i < p
 ·have hidx:=Cu hO' ex 5;have e1:((p:Int) - 1).toNat=p - 1:=by omega
  obtain⟨o1,o2,w1,w2,s2⟩:=jF hO' jl (i:=p) (j:=p - 1) (by omega) (by omega) lo hlo;have r1:=hO'.nthRead jl (i:=p) (by omega);have r2:=hO'.nthRead jl (i:=p - 1) (by omega);simp(disch:=omega) only[ak,↓aj,seval,jk,↓hidx,e1,r1,r2,↓w1,↓w2];refine hN (k - 1) _ _ (by omega) ⟨p - 1,gJ l' p (p - 1),by omega,by omega,(hk.trans (KeepX.put _)).trans (KeepX.put _),s2,hM.trans (sO (by omega) (by omega) (by omega)),fun q=>?_,rfl,rfl,by rw[hl'];rfl,rfl,?_⟩
  ·rw[gV (by omega) (by omega),hf p,hf (p - 1),hf q];by_cases c1:q=p - 1
   ·subst c1;rw[if_pos rfl,if_neg (by omega),if_pos rfl,if_neg (by omega),if_pos rfl]
   ·rw[if_neg c1];by_cases c2:q=p
    ·subst c2;rw[if_pos rfl,if_neg (by omega),if_neg (by omega),if_pos (by omega)]
    ·rw[if_neg c2];by_cases c3:p < q∧q≤m
     ·rw[if_pos c3,if_pos (by omega)]
     ·rw[if_neg c3,if_neg c2,if_neg (by omega),if_neg c1]
  ·show IV.int _ _=_
   congr 1;omega
 ·have:p=i:=by omega
  subst this;simp(disch:=omega) only[ak,↓aj,seval,jk,hJ];exact hQ H' l' _ hk hO' hM hf
def IU(blk e cap:Nat)(ex:Bool)(d:Nat):Prop:=∀(l:List Hd) (a m b:Nat) (H:Heap) (lo:Nat) (Q:Out→Heap→Prop),b - a≤d→Own H blk e cap l→lo≤blk→l.length≤1000000→a < m→m < b→b≤l.length→Srt cF l a m→Srt cF l m b→(∀i j,a≤i→i < m→m≤j→j < b→ja (aG l i) (aG l j))→
 (∀H' l',KeepX blk H H'→Own H' blk e cap l'→Mix a b l l'→Srt cF l' a b→Q (.val (.tuple [])) H')→W E0 lo (.call 212 [(SV.sl blk 0 l.length cap ex).iv,.int .i64 a,.int .i64 m,.int .i64 b,.fn 153 [] []]) H Q
theorem MR{blk e cap:Nat}{ex:Bool}{d:Nat}(ih:IU blk e cap ex d){l:List Hd}{a mid en b:Nat}{H:Heap}{lo:Nat}{Q:Out→Heap→Prop}{tm:List IV}(hO:Own H blk e cap l)(hlo:lo≤blk)(hl:l.length≤1000000)(ham:a < mid)(hme:mid≤en)(heb:en≤b)(hb:b≤l.length)(hd:b - mid≤d)
  (s1:Srt cF l mid en) (s2:Srt cF l en b) (ho:∀i j,mid≤i→i < en→en≤j→j < b→ja (aG l i) (aG l j))
  (htm:tm.length=220) (t0:tm.getD 0 IV.undef=(SV.sl blk 0 l.length cap ex).iv) (t3:tm.getD 3 IV.undef=.int .i64 b) (t4:tm.getD 4 IV.undef=.fn 153 [] []) (t18:tm.getD 18 IV.undef=.int .i64 mid) (t24:tm.getD 24 IV.undef=.int .i64 en)
  (hQ:∀H' l',KeepX blk H H'→Own H' blk e cap l'→Mix mid b l l'→Srt cF l' mid b→Q (.val (.tuple [])) H'):
  W E0 lo (.code (.seq kl (.cond (.tmp 213) kj .skip)) none ⟨tm,[]⟩) H (li lo [] Q):=by
 rw[iR tm htm,t0,t3,t4,t18,t24];by_cases c1:mid < en
 ·by_cases c2:en < b
  ·simp(disch:=omega) only[ak,↓aj,seval,zt]
   refine ih l mid en b H lo _ hd hO hlo hl c1 c2 hb s1 s2 ho fun H' l' k o m s=>?_;simp(disch:=omega) only[ak,↓aj,seval,zt];exact hQ H' l' k o m s
  ·have:en=b:=by omega
   subst this;simp(disch:=omega) only[ak,↓aj,seval,zt];exact hQ H l (KeepX.refl _ _) hO (Mix.refl _ _ _) s1
 ·have:mid=en:=by omega
  subst this;simp(disch:=omega) only[ak,↓aj,seval,zt];exact hQ H l (KeepX.refl _ _) hO (Mix.refl _ _ _) s2
theorem MS{blk e cap:Nat}{ex:Bool}{d:Nat}(ih:IU blk e cap ex d){l:List Hd}{a mid start en b:Nat}{H:Heap}{lo:Nat}{Q:Out→Heap→Prop}{tm:List IV}(hO:Own H blk e cap l)(hlo:lo≤blk)(hl:l.length≤1000000)(ham:a < mid)(has:a≤start)(hsm:start≤mid)(hme:mid≤en)(heb:en≤b)(hb:b≤l.length)(hmb:mid < b)(hd:b - mid≤d)(hd':mid - a≤d)
  (s1:Srt cF l a start) (s2:Srt cF l start mid) (s3:Srt cF l mid en) (s4:Srt cF l en b) (ho1:∀i j,a≤i→i < start→start≤j→j < mid→ja (aG l i) (aG l j)) (ho:∀i j,mid≤i→i < en→en≤j→j < b→ja (aG l i) (aG l j))
  (hx:∀x y,a≤x→x < mid→mid≤y→y < b→cF (aG l x) (aG l y))
  (htm:tm.length=220) (t0:tm.getD 0 IV.undef=(SV.sl blk 0 l.length cap ex).iv) (t1:tm.getD 1 IV.undef=.int .i64 a) (t3:tm.getD 3 IV.undef=.int .i64 b) (t4:tm.getD 4 IV.undef=.fn 153 [] []) (t18:tm.getD 18 IV.undef=.int .i64 mid) (t20:tm.getD 20 IV.undef=.int .i64 start) (t24:tm.getD 24 IV.undef=.int .i64 en)
  (hQ:∀H' l',KeepX blk H H'→Own H' blk e cap l'→Mix a b l l'→Srt cF l' a b→Q (.val (.tuple [])) H'):
  W E0 lo (.code (.seq (.seq pi (.cond (.tmp 199) ph .skip)) (.seq kl (.cond (.tmp 213) kj .skip))) none ⟨tm,[]⟩) H (li lo [] Q):=by
 have fin:∀H2 l2 tm2,KeepX blk H H2→Own H2 blk e cap l2→Mix a mid l l2→Srt cF l2 a mid→tm2.length=220→tm2.getD 0 IV.undef=(SV.sl blk 0 l2.length cap ex).iv→tm2.getD 3 IV.undef=.int .i64 b→tm2.getD 4 IV.undef=.fn 153 [] []→tm2.getD 18 IV.undef=.int .i64 mid→tm2.getD 24 IV.undef=.int .i64 en→
   W E0 lo (.code (.seq kl (.cond (.tmp 213) kj .skip)) none ⟨tm2,[]⟩) H2 (li lo [] Q):=by
  intro H2 l2 tm2 k2 o2 m2 q2 u u0 u3 u4 u18 u24;have hl2:=m2.len;refine MR ih o2 hlo (by omega) ham hme heb (by omega) hd (s3.out m2 (by omega)) (s4.out m2 (by omega)) (fun i j h1 h2 h3 h4=>?_) u u0 u3 u4 u18 u24 fun H3 l3 k3 o3 m3 q3=>?_
  ·rw[m2.out i (by omega),m2.out j (by omega)];exact ho i j h1 h2 h3 h4
  ·exact hQ H3 l3 (k2.trans k3) o3 ((m2.wide (au _) (by omega)).trans (m3.wide (by omega) (au _))) (RO m2 m3 q2 q3 hx)
 rw[iR tm htm,t0,t1,t3,t4,t18,t20,t24];by_cases c1:a < start
 ·by_cases c2:start < mid
  ·simp(disch:=omega) only[ak,↓aj,seval,gG,gD,gz,gv,gu,gp,gl,gj,gh,eC,ew,eu,eq,eo,el,d9,d8,d6,d5,d0,dZ,dY,dX,dW,dV,dU,dT,dR,dQ,dP,dO,dN,dM,dL,dK,dJ,dI,dH,gq,dG,dF,jz,dE,dD,lI,sP]
   refine ih l a start mid H lo _ hd' hO hlo hl c1 c2 (by omega) s1 s2 ho1 fun H' l' k o m s=>?_;simp(disch:=omega) only[ak,↓aj,seval,gG,gD,gz,gv,gu,gp,gl,gj,gh,eC,ew,eu,eq,eo,el,d9,d8,d6,d5,d0,dZ,dY,dX,dW,dV,dU,dT,dR,dQ,dP,dO,dN,dM,dL,dK,dJ,dI,dH,gq,dG,dF,jz,dE,dD,lI,sP];rw[←iz];exact fin H' l' _ k o m s rfl (by rw[m.len];rfl) rfl rfl rfl rfl
  ·have:start=mid:=by omega
   subst this;simp(disch:=omega) only[ak,↓aj,seval,gG,gD,gz,gv,gu,gp,gl,gj,gh,eC,ew,eu,eq,eo,el,d9,d8,d6,d5,d0,dZ,dY,dX,dW,dV,dU,dT,dR,dQ,dP,dO,dN,dM,dL,dK,dJ,dI,dH,gq,dG,dF,jz,dE,dD,lI,sP];rw[←iz];exact fin H l _ (KeepX.refl _ _) hO (Mix.refl _ _ _) s1 rfl rfl rfl rfl rfl rfl
 ·have:a=start:=by omega
  subst this;simp(disch:=omega) only[ak,↓aj,seval,gG,gD,gz,gv,gu,gp,gl,gj,gh,eC,ew,eu,eq,eo,el,d9,d8,d6,d5,d0,dZ,dY,dX,dW,dV,dU,dT,dR,dQ,dP,dO,dN,dM,dL,dK,dJ,dI,dH,gq,dG,dF,jz,dE,dD,lI,sP];rw[←iz];exact fin H l _ (KeepX.refl _ _) hO (Mix.refl _ _ _) s2 rfl rfl rfl rfl rfl rfl
theorem Pd{blk e cap:Nat}{ex:Bool}{d:Nat}(ih:IU blk e cap ex d){l:List Hd}{a m b mid start:Nat}{H:Heap}{lo:Nat}{Q:Out→Heap→Prop}{tm:List IV}(hO:Own H blk e cap l)(hlo:lo≤blk)(hl:l.length≤1000000)(ham:a < m)(hmb:m < b)(hb:b≤l.length)(hmid:mid=(a+b) / 2)(hd:b - a≤d+1)(h2:a+2≤b)
  (has:a≤start) (hsm:start≤mid) (hsm':start≤m) (hen:mid+m - start≤b)
  (sL:Srt cF l a m) (sR:Srt cF l m b) (hord:∀i j,a≤i→i < m→m≤j→j < b→ja (aG l i) (aG l j))
  (pA:∀i j,a≤i→i < start→mid+m - start≤j→j < b→cF (aG l i) (aG l j)) (pB:∀i j,m≤i→i < mid+m - start→start≤j→j < m→cF (aG l i) (aG l j))
  (htm:tm.length=220) (t0:tm.getD 0 IV.undef=(SV.sl blk 0 l.length cap ex).iv) (t1:tm.getD 1 IV.undef=.int .i64 a) (t2:tm.getD 2 IV.undef=.int .i64 m) (t3:tm.getD 3 IV.undef=.int .i64 b) (t4:tm.getD 4 IV.undef=.fn 153 [] []) (t18:tm.getD 18 IV.undef=.int .i64 mid) (t19:tm.getD 19 IV.undef=.int .i64 ((mid+m:Nat):Int)) (t20:tm.getD 20 IV.undef=.int .i64 start)
  (hQ:∀H' l',KeepX blk H H'→Own H' blk e cap l'→Mix a b l l'→Srt cF l' a b→Q (.val (.tuple [])) H'):
  W E0 lo (.code (.seq wl (.seq (.seq wk (.cond (.tmp 185) wi .skip)) (.seq (.seq pi (.cond (.tmp 199) ph .skip)) (.seq kl (.cond (.tmp 213) kj .skip))))) none ⟨tm,[]⟩) H (li lo [] Q):=by
 obtain⟨en,hen'⟩:∃en,en=mid+m - start:=⟨_,rfl⟩
 rw[←hen'] at hen pA pB;have ee:((mid+m:Nat):Int) - (start:Int)=(en:Int):=by omega
 have fin:∀H2 l2 tm2,KeepX blk H H2→Own H2 blk e cap l2→Mix a b l l2→(∀x,aG l2 x=lS (aG l) start m en x)→tm2.length=220→tm2.getD 0 IV.undef=(SV.sl blk 0 l2.length cap ex).iv→tm2.getD 1 IV.undef=.int .i64 a→tm2.getD 3 IV.undef=.int .i64 b→tm2.getD 4 IV.undef=.fn 153 [] []→tm2.getD 18 IV.undef=.int .i64 mid→tm2.getD 20 IV.undef=.int .i64 start→tm2.getD 24 IV.undef=.int .i64 en→
   W E0 lo (.code (.seq (.seq pi (.cond (.tmp 199) ph .skip)) (.seq kl (.cond (.tmp 213) kj .skip))) none ⟨tm2,[]⟩) H2 (li lo [] Q):=by
  intro H2 l2 tm2 k2 o2 m2 f2 u u0 u1 u3 u4 u18 u20 u24;have hl2:=m2.len;obtain⟨⟨q1,q2,q3,q4⟩,q5,q6,q7⟩:=adc (lt:=cF) (ord:=ja) (mid:=mid) has hsm hsm' (by omega) (by omega) hen (by omega) sL sR hord pA pB f2;exact MS ih o2 hlo (by omega) (by omega) has hsm (by omega) hen (by omega) (by omega) (by omega) (by omega) q1 q2 q3 q4 q5 q6 q7 u u0 u1 u3 u4 u18 u20 u24 fun H3 l3 k3 o3 m3 s3=>hQ H3 l3 (k2.trans k3) o3 (m2.trans m3) s3
 rw[iR tm htm,t0,t1,t2,t3,t4,t18,t19,t20];by_cases c1:start < m
 ·by_cases c2:m < en
  ·simp(disch:=omega) only[ak,↓aj,seval,gG,gD,gz,gv,gu,gp,gl,gj,gh,eC,ew,eu,eq,eo,el,d9,d8,d6,d5,d0,dZ,dY,dX,dW,dV,dU,dT,dR,dQ,dP,dO,dN,dM,dL,dK,dJ,dI,dH,gq,dG,dF,dE,jy,dD,lI,sP,ee]
   refine Nj start m en hO hlo hl c1 c2 (by omega) fun H' l' k o mx f=>?_;simp(disch:=omega) only[ak,↓aj,seval,gG,gD,gz,gv,gu,gp,gl,gj,gh,eC,ew,eu,eq,eo,el,d9,d8,d6,d5,d0,dZ,dY,dX,dW,dV,dU,dT,dR,dQ,dP,dO,dN,dM,dL,dK,dJ,dI,dH,gq,dG,dF,dE,jy,dD,lI,sP];rw[←iz,←iz];exact fin H' l' _ k o (mx.wide has hen) f rfl (by rw[mx.len];rfl) rfl rfl rfl rfl rfl rfl
  ·simp(disch:=omega) only[ak,↓aj,seval,gG,gD,gz,gv,gu,gp,gl,gj,gh,eC,ew,eu,eq,eo,el,d9,d8,d6,d5,d0,dZ,dY,dX,dW,dV,dU,dT,dR,dQ,dP,dO,dN,dM,dL,dK,dJ,dI,dH,gq,dG,dF,dE,jy,dD,lI,sP,ee]
   rw[←iz,←iz];exact fin H l _ (KeepX.refl _ _) hO (Mix.refl _ _ _) (fun x=>(DW (aG l) (by omega) (by omega) (.inr (by omega)) x).symm) rfl rfl rfl rfl rfl rfl rfl rfl
 ·simp(disch:=omega) only[ak,↓aj,seval,gG,gD,gz,gv,gu,gp,gl,gj,gh,eC,ew,eu,eq,eo,el,d9,d8,d6,d5,d0,dZ,dY,dX,dW,dV,dU,dT,dR,dQ,dP,dO,dN,dM,dL,dK,dJ,dI,dH,gq,dG,dF,dE,jy,dD,lI,sP,ee]
  rw[←iz,←iz];exact fin H l _ (KeepX.refl _ _) hO (Mix.refl _ _ _) (fun x=>(DW (aG l) (by omega) (by omega) (.inl (by omega)) x).symm) rfl rfl rfl rfl rfl rfl rfl rfl
theorem Pe{blk e cap:Nat}{ex:Bool}:∀d,IU blk e cap ex d:=by
 intro d
 induction d with
 | zero=>intro l a m b H lo Q h;intros;omega
 | succ d ih=>
   intro l a m b H lo Q hd hO hlo hl ham hmb hb sL sR hord h;rw[au0];have hbn:=hO.2.1;by_cases c1:m - a=1
   ·have ec:(m:Int) - (a:Int)=1:=by omega
    simp(disch:=omega) only[ak,↓aj,seval,zt,ec]
    refine Pz hO hl ham hmb hb (by omega) sR (fun j h1 h2=>hord a j (au _) ham h1 h2) rfl rfl rfl rfl rfl rfl fun H2 tm2 i k2 hi1 hi2 hL hR u u0 u1 u4 u10=>?_;have hO2:=hO.keep k2;rw[iR tm2 u,u0,u1,u10];simp(disch:=omega) only[ak,↓aj,seval,zt];refine adk (ex:=ex) (a:=a) (b:=b) hO2 hlo hl (by omega) hi2 hb rfl rfl rfl rfl fun H3 l3 Pb k3 o3 m3 f3=>?_;simp(disch:=omega) only[ak,↓aj,seval,zt];refine h H3 l3 ((KeepX.of k2).trans k3) o3 m3 fun p q h1 h2 h3=>?_;rw[f3 p,f3 q];by_cases d1:q < i - 1
    ·rw[if_pos (by omega),if_pos (by omega)];exact sR _ _ (by omega) (by omega) (by omega)
    ·by_cases d2:q=i - 1
     ·rw[if_pos (by omega),if_neg (by omega),if_pos d2];exact hL _ (by omega) (by omega)
     ·rw[if_neg (show ¬(a≤q∧q < i - 1) by omega),if_neg d2];by_cases d3:p < i - 1
      ·rw[if_pos (by omega)];exact sR _ _ (by omega) (by omega) h3
      ·by_cases d4:p=i - 1
       ·rw[if_neg (by omega),if_pos d4];exact hR q (by omega) h3
       ·rw[if_neg (by omega),if_neg d4];exact sR _ _ (by omega) h2 h3
   ·have ec:((m:Int) - (a:Int)==1)=false:=by simp;omega
    by_cases c2:b - m=1
    ·have ed:(b:Int) - (m:Int)=1:=by omega
     simp(disch:=omega) only[ak,↓aj,seval,zt,ec,ed]
     refine Py hO hl ham hmb hb (by omega) sL (fun j h1 h2=>hord j m h1 h2 (au _) hmb) rfl rfl rfl rfl rfl rfl fun H2 tm2 i k2 hi1 hi2 hL hR u u0 u2 u4 u14=>?_;have hO2:=hO.keep k2;rw[iR tm2 u,u0,u2,u14];simp(disch:=omega) only[ak,↓aj,seval,zt];refine adj (ex:=ex) (a:=a) hO2 hlo hl hi1 hi2 (by omega) rfl rfl rfl rfl fun H3 l3 Pb k3 o3 m3 f3=>?_;simp(disch:=omega) only[ak,↓aj,seval,zt];refine h H3 l3 ((KeepX.of k2).trans k3) o3 (m3.wide (au _) (by omega)) fun p q h1 h2 h3=>?_;rw[f3 p,f3 q];by_cases d1:p < i
     ·rw[if_neg (show ¬(i < p∧p≤m) by omega),if_neg (show ¬p=i by omega)];by_cases d2:q < i
      ·rw[if_neg (by omega),if_neg (by omega)];exact sL p q h1 h2 (by omega)
      ·by_cases d3:q=i
       ·rw[if_neg (by omega),if_pos d3];exact hL p h1 d1
       ·rw[if_pos (by omega)];exact sL p _ h1 (by omega) (by omega)
     ·rw[if_pos (show i < q∧q≤m by omega)];by_cases d3:p=i
      ·rw[if_neg (by omega),if_pos d3];exact hR _ (by omega) (by omega)
      ·rw[if_pos (by omega)];exact sL _ _ (by omega) (by omega) (by omega)
    ·have ed:((b:Int) - (m:Int)==1)=false:=by simp;omega
     have eh:((a:Int)+(b:Int)) / 2=(((a+b) / 2:Nat):Int):=by omega
     have en:(((a+b) / 2:Nat):Int)+(m:Int)=(((a+b) / 2+m:Nat):Int):=by omega
     have ep:(((a+b) / 2+m:Nat):Int) - 1=(((a+b) / 2+m - 1:Nat):Int):=by omega
     obtain⟨mid,hmid⟩:∃mid,mid=(a+b) / 2:=⟨_,rfl⟩
     rw[←hmid] at eh en ep
     have tail:∀s0 r0,a≤s0→s0≤r0→r0≤mid→r0≤m→mid+m - s0≤b→(s0=a∨mid+m - s0=b)→(r0=m∨mid+m - r0=m)→(∀c,s0≤c→c < r0→a≤c∧c < m∧c≤mid+m - 1∧m≤mid+m - 1 - c∧mid+m - 1 - c < b)→
       ∀tm2,tm2.length=220→tm2.getD 0 IV.undef=(SV.sl blk 0 l.length cap ex).iv→tm2.getD 1 IV.undef=.int .i64 a→tm2.getD 2 IV.undef=.int .i64 m→tm2.getD 3 IV.undef=.int .i64 b→tm2.getD 4 IV.undef=.fn 153 [] []→tm2.getD 18 IV.undef=.int .i64 mid→tm2.getD 19 IV.undef=.int .i64 ((mid+m:Nat):Int)→tm2.getD 22 IV.undef=.int .i64 ((mid+m - 1:Nat):Int)→tm2.getD 20 IV.undef=.int .i64 (s0:Nat)→tm2.getD 21 IV.undef=.int .i64 (r0:Nat)→
       W E0 lo (.code (.loop wm) none ⟨tm2,[]⟩) H (vj 8 (mM E0 lo none (.seq wl (.seq (.seq wk (.cond (.tmp 185) wi .skip)) (.seq (.seq pi (.cond (.tmp 199) ph .skip)) (.seq kl (.cond (.tmp 213) kj .skip))))) (li lo [] Q))):=by
      intro s0 r0 g1 g2 g3 g4 g5 g6 g7 g8 tm2 u u0 u1 u2 u3 u4 u18 u19 u22 u20 u21;refine Px (p:=mid+m - 1) hO hl ham hmb hb (by omega) g2 hord g8 u u0 u1 u2 u3 u4 u18 u19 u22 u20 u21 fun H2 Pb i k2 hi1 hi2 hL hR w w0 w1 w2 w3 w4 w18 w19 w22 w20=>?_;have hO2:=hO.keep k2
      show W _ _ _ _ _
      refine Pd ih hO2 hlo hl ham hmb hb hmid hd (by omega) (by omega) (by omega) (by omega) (by omega) sL sR hord (fun x y h1 h2 h3 h4=>?_) (fun x y h1 h2 h3 h4=>?_) w w0 w1 w2 w3 w4 w18 w19 w20 fun H3 l3 k3 o3 m3 s3=>h H3 l3 ((KeepX.of k2).trans k3) o3 m3 s3
      ·rcases hL with e | hL
       ·omega
       ·have hr:=g8 (i - 1) (by omega) (by omega);have e1:mid+m - 1 - (i - 1)=mid+m - i:=by omega
        rw[e1] at hL hr
        have q1:x=i - 1∨cF (aG l x) (aG l (i - 1)):=by
         by_cases e:x=i - 1
         ·exact .inl e
         ·exact .inr (sL _ _ h1 (by omega) (by omega))
        have q2:cF (aG l x) (aG l (mid+m - i)):=by
         rcases q1 with e | q1
         ·rw[e];exact hL
         ·exact kL _ _ _ q1 hL
        by_cases e:y=mid+m - i
        ·rw[e];exact q2
        ·exact kL _ _ _ q2 (sR _ _ (by omega) (by omega) h4)
      ·rcases hR with e | hR
       ·omega
       ·have hr:=g8 i (by omega) (by omega);have e1:mid+m - 1 - i=mid+m - i - 1:=by omega
        rw[e1] at hR hr
        have q2:cF (aG l x) (aG l i):=by
         by_cases e:x=mid+m - i - 1
         ·rw[e];exact hR
         ·exact kL _ _ _ (sR _ _ h1 (by omega) (by omega)) hR
        by_cases e:y=i
        ·rw[e];exact q2
        ·exact kL _ _ _ q2 (sL _ _ (by omega) (by omega) h4)
     by_cases c3:m>mid
     ·have es:((mid+m:Nat):Int) - (b:Int)=((mid+m - b:Nat):Int):=by omega
      simp(disch:=omega) only[ak,↓aj,seval,gG,gD,gz,gv,gu,gp,gl,gj,gh,eC,ew,eu,eq,eo,el,d9,d8,d6,d5,d0,dZ,dY,dX,dW,dV,dU,dT,dR,dQ,dP,dO,dN,dM,dL,dK,dJ,dI,dH,dG,dF,jz,dE,jy,dD,lI,sP,ec,ed,OQ,↓rZ,eh,en,ep,es]
      exact tail (mid+m - b) mid (by omega) (by omega) (by omega) (by omega) (by omega) (.inr (by omega)) (.inr (by omega)) (fun c h1 h2=>by omega) _ rfl rfl rfl rfl rfl rfl rfl rfl rfl rfl rfl
     ·simp(disch:=omega) only[ak,↓aj,seval,gG,gD,gz,gv,gu,gp,gl,gj,gh,eC,ew,eu,eq,eo,el,d9,d8,d6,d5,d0,dZ,dY,dX,dW,dV,dU,dT,dR,dQ,dP,dO,dN,dM,dL,dK,dJ,dI,dH,dG,dF,jz,dE,jy,dD,lI,sP,ec,ed,OQ,↓rZ,eh,en,ep]
      exact tail a m (by omega) (by omega) (by omega) (by omega) (by omega) (.inl rfl) (.inl rfl) (fun c h1 h2=>by omega) _ rfl rfl rfl rfl rfl rfl rfl rfl rfl rfl rfl
def Cross(s:Nat)(l:List Hd):Prop:=∀i j q,i < q*s→q*s≤j→j < l.length→ja (aG l i) (aG l j)
theorem Cross.mix{s a b q0:Nat}{l l':List Hd}(h:Cross s l)(k:Mix a b l l')(ha:q0*s≤a)(hb:b≤(q0+1)*s)(hbl:b≤l.length):Cross s l':=by
 intro i j q h1 h2 h3;rw[k.len] at h3;have key:∀q,q*s < (q0+1)*s→q*s≤q0*s:=fun q h=>j4 _ (Nat.lt_succ_iff.1 (Gm h));have key':∀q,q0*s < q*s→(q0+1)*s≤q*s:=fun q h=>j4 _ (Gm h)
 have img:∀x,∃y,aG l' x=aG l y∧((x=y)∨(a≤x∧x < b∧a≤y∧y < b)):=fun x=>by
  by_cases c:a≤x∧x < b
  ·obtain⟨y,y1,y2,y3⟩:=k.img x c.1 c.2;exact⟨y,y3,.inr ⟨c.1,c.2,y1,y2⟩⟩
  ·exact⟨x,k.out x (by omega),.inl rfl⟩
 obtain⟨y,y1,y2⟩:=img i;obtain⟨z,z1,z2⟩:=img j;rw[y1,z1];refine h y z q ?_ ?_ ?_
 ·rcases y2 with rfl | ⟨g1,g2,g3,g4⟩
  ·exact h1
  ·have:=key' q (by omega)
   omega
 ·rcases z2 with rfl | ⟨g1,g2,g3,g4⟩
  ·exact h2
  ·have:=key q (by omega)
   omega
 ·omega
theorem Cross.two{s:Nat}{l:List Hd}(h:Cross s l):Cross (2*s) l:=fun i j q h1 h2 h3=>h i j (q*2) (by rw[xW];exact h1) (by rw[xW];exact h2) h3
theorem Cross.init{l:List Hd}(h:l.Pairwise ja)(s:Nat):Cross s l:=fun i j q h1 h2 h3=>je h 0 l.length (au _) i j (fd _) (by omega) h3
def AllB(s n:Nat)(l:List Hd):Prop:=∀q,q*s < n→Srt cF l (q*s) (min ((q+1)*s) n)
theorem AllB.of{s n q1:Nat}{l:List Hd}(h:∀q,q < q1→Srt cF l (q*s) ((q+1)*s))(h1:Srt cF l (q1*s) n)(hn:n≤(q1+1)*s):AllB s n l:=by
 intro q hq;have hle:q≤q1:=Nat.lt_succ_iff.1 (Gm (du hq hn));by_cases e:q=q1
 ·subst e;exact h1.part (au _) (by omega)
 ·exact(h q (by omega)).part (au _) (by omega)
def yP(tm:List IV)(h:tm.length=63):=(ch tm 63 h).trans (by simp only[List.range,List.range.loop,bB,bc];exact rfl)
theorem amC{blk e cap:Nat}{ex:Bool}{l:List Hd}{H:Heap}{lo:Nat}{Q:Out→Heap→Prop}{tm:List IV}(hO:Own H blk e cap l)(hlo:lo≤blk)(hl:l.length≤1000000)(hord:l.Pairwise ja)
  (htm:tm.length=63) (t0:tm.getD 0 IV.undef=(SV.sl blk 0 l.length cap ex).iv) (t1:tm.getD 1 IV.undef=.int .i64 l.length) (t2:tm.getD 2 IV.undef=.fn 153 [] []) (t6:tm.getD 6 IV.undef=.int .i64 20) (t7:tm.getD 7 IV.undef=.int .i64 0) (t8:tm.getD 8 IV.undef=.int .i64 20)
  (hQ:∀H' l' tm' q1,KeepX blk H H'→Own H' blk e cap l'→Mix 0 l.length l l'→Cross 20 l'→(∀x,q1*20≤x→aG l' x=aG l x)→(∀q,q < q1→Srt cF l' (q*20) ((q+1)*20))→q1*20≤l.length→l.length≤(q1+1)*20→tm'.length=63→tm'.getD 0 IV.undef=(SV.sl blk 0 l.length cap ex).iv→tm'.getD 1 IV.undef=.int .i64 l.length→tm'.getD 2 IV.undef=.fn 153 [] []→tm'.getD 6 IV.undef=.int .i64 20→tm'.getD 7 IV.undef=.int .i64 ((q1*20:Nat):Int)→Q (.ex (.jmp (.exit 0)) ⟨tm',[]⟩) H'):
  W E0 lo (.code (.loop nZ) none ⟨tm,[]⟩) H Q:=by
 refine aO (fun k fr H'=>∃q1 l',q1*20+k=l.length∧KeepX blk H H'∧Own H' blk e cap l'∧Mix 0 l.length l l'∧Cross 20 l'∧(∀x,q1*20≤x→aG l' x=aG l x)∧(∀q,q < q1→Srt cF l' (q*20) ((q+1)*20))∧fr.marks=[]∧fr.tm.length=63∧fr.tm.getD 0 IV.undef=(SV.sl blk 0 l.length cap ex).iv∧fr.tm.getD 1 IV.undef=.int .i64 l.length∧fr.tm.getD 2 IV.undef=.fn 153 [] []∧fr.tm.getD 6 IV.undef=.int .i64 20∧fr.tm.getD 7 IV.undef=.int .i64 ((q1*20:Nat):Int)∧fr.tm.getD 8 IV.undef=.int .i64 ((q1*20+20:Nat):Int)) ?_ l.length ⟨0,l,by omega,KeepX.refl _ _,hO,Mix.refl _ _ _,Cross.init hord _,fun _ _=>rfl,fun q h=>by omega,rfl,htm,t0,t1,t2,t6,t7,t8⟩;clear htm t0 t1 t2 t6 t7 t8;rintro k ⟨tm,mk⟩ H' ⟨q1,l',hq,hk,hO',hM,hC,hout,hB,rfl,htm,t0,t1,t2,t6,t7,t8⟩ L hN hJ;have hl':=hM.len;rw[yP tm htm,t0,t1,t2,t6,t7,t8,←hl'];by_cases hlt:q1*20+20≤l.length
 ·simp(disch:=omega) only[ak,↓aj,seval,Bb]
  refine rR (q1*20) (q1*20+20) hO' hlo (by omega) (by omega) (by omega) (fun i j h1 h2 h3=>?_) fun H2 l2 k2 o2 m2 s2=>?_
  ·rw[hout i h1,hout j (by omega)];exact je hord 0 l.length (au _) i j (fd _) h2 (by omega)
  ·simp(disch:=omega) only[ak,↓aj,seval,Bb]
   refine hN (k - 20) _ _ (by omega) ⟨q1+1,l2,by omega,hk.trans k2,o2,hM.trans (m2.wide (fd _) (by omega)),hC.mix m2 (au _) (by omega) (by omega),fun x hx=>by rw[m2.out x (by omega)];exact hout x (by omega),fun q hq=>?_,rfl,rfl,by rw[hl'];rfl,by rw[hl'];rfl,rfl,rfl,?_,?_⟩
   ·by_cases c:q=q1
    ·subst c;rw[show(q+1)*20=q*20+20 from by omega];exact s2
    ·exact(hB q (by omega)).out m2 (by omega)
   ·show IV.int _ _=_
    congr 1;omega
   ·show IV.int _ _=_
    congr 1;omega
 ·simp(disch:=omega) only[ak,↓aj,seval,Bb,hJ]
  exact hQ H' l' _ q1 hk hO' hM hC hout hB (by omega) (by omega) rfl (by rw[hl'];rfl) (by rw[hl'];rfl) rfl rfl rfl
theorem Pj{blk e cap:Nat}{ex:Bool}{l:List Hd}{s:Nat}{H:Heap}{lo:Nat}{Q:Out→Heap→Prop}{tm:List IV}(hO:Own H blk e cap l)(hlo:lo≤blk)(hl:l.length≤1000000)(hs:0 < s)(hsn:s < l.length)(hA:AllB s l.length l)(hC:Cross s l)
  (htm:tm.length=63) (t0:tm.getD 0 IV.undef=(SV.sl blk 0 l.length cap ex).iv) (t1:tm.getD 1 IV.undef=.int .i64 l.length) (t2:tm.getD 2 IV.undef=.fn 153 [] []) (t6:tm.getD 6 IV.undef=.int .i64 s) (t7:tm.getD 7 IV.undef=.int .i64 0) (t8:tm.getD 8 IV.undef=.int .i64 (2*(s:Int)))
  (hQ:∀H' l' tm' q1,KeepX blk H H'→Own H' blk e cap l'→Mix 0 l.length l l'→Cross (2*s) l'→(∀x,q1*(2*s)≤x→aG l' x=aG l x)→(∀q,q < q1→Srt cF l' (q*(2*s)) ((q+1)*(2*s)))→q1*(2*s)≤l.length→l.length≤(q1+1)*(2*s)→tm'.length=63→tm'.getD 0 IV.undef=(SV.sl blk 0 l.length cap ex).iv→tm'.getD 1 IV.undef=.int .i64 l.length→tm'.getD 2 IV.undef=.fn 153 [] []→tm'.getD 6 IV.undef=.int .i64 s→tm'.getD 7 IV.undef=.int .i64 ((q1*(2*s):Nat):Int)→Q (.ex (.jmp (.exit 4)) ⟨tm',[]⟩) H'):
  W E0 lo (.code (.loop Da) none ⟨tm,[]⟩) H Q:=by
 refine aO (fun k fr H'=>∃q1 l',q1*(2*s)+k=l.length∧KeepX blk H H'∧Own H' blk e cap l'∧Mix 0 l.length l l'∧Cross (2*s) l'∧(∀x,q1*(2*s)≤x→aG l' x=aG l x)∧(∀q,q < q1→Srt cF l' (q*(2*s)) ((q+1)*(2*s)))∧fr.marks=[]∧fr.tm.length=63∧fr.tm.getD 0 IV.undef=(SV.sl blk 0 l.length cap ex).iv∧fr.tm.getD 1 IV.undef=.int .i64 l.length∧fr.tm.getD 2 IV.undef=.fn 153 [] []∧fr.tm.getD 6 IV.undef=.int .i64 s∧fr.tm.getD 7 IV.undef=.int .i64 ((q1*(2*s):Nat):Int)∧fr.tm.getD 8 IV.undef=.int .i64 ((q1*(2*s)+2*s:Nat):Int)) ?_ l.length ⟨0,l,by omega,KeepX.refl _ _,hO,Mix.refl _ _ _,hC.two,fun _ _=>rfl,fun q h=>by omega,rfl,htm,t0,t1,t2,t6,by rw[t7];congr 1;omega,by rw[t8];congr 1;omega⟩;clear htm t0 t1 t2 t6 t7 t8;rintro k ⟨tm,mk⟩ H' ⟨q1,l',hq,hk,hO',hM,hC',hout,hB,rfl,htm,t0,t1,t2,t6,t7,t8⟩ L hN hJ;have hl':=hM.len;have e1:(q1+1)*(2*s)=q1*(2*s)+2*s:=dB _ _;obtain⟨a,ha⟩:∃a,a=q1*(2*s):=⟨_,rfl⟩;rw[←ha] at hq t7 t8 hout e1;rw[yP tm htm,t0,t1,t2,t6,t7,t8,←hl'];by_cases hlt:a+2*s≤l.length
 ·have ea:(a:Int)+(s:Int)=((a+s:Nat):Int):=by omega
  have q2:q1*2*s=a:=by rw[ha,xW]
  have q3:(q1*2+1)*s=a+s:=by rw[dB,q2]
  have q4:(q1*2+1+1)*s=a+2*s:=by rw[dB,q3];omega
  have s1:=hA (q1*2) (by omega);have s2:=hA (q1*2+1) (by omega);rw[q2,q3,ul (by omega)] at s1;rw[q3,q4,ul (by omega)] at s2;simp(disch:=omega) only[ak,↓aj,seval,Bb,ea];refine Pe (2*s) l' a (a+s) (a+2*s) H' lo _ (by omega) hO' hlo (by omega) (by omega) (by omega) (by omega) (fun i j h1 h2 h3=>?_) (fun i j h1 h2 h3=>?_) (fun i j h1 h2 h3 h4=>?_) fun H2 l2 k2 o2 m2 s2=>?_
  ·rw[hout i h1,hout j (by omega)];exact s1 i j h1 h2 h3
  ·rw[hout i (by omega),hout j (by omega)];exact s2 i j h1 h2 h3
  ·rw[hout i h1,hout j (by omega)];exact hC i j (q1*2+1) (by omega) (by omega) (by omega)
  ·simp(disch:=omega) only[ak,↓aj,seval,Bb]
   refine hN (k - 2*s) _ _ (by omega) ⟨q1+1,l2,by omega,hk.trans k2,o2,hM.trans (m2.wide (fd _) (by omega)),hC'.mix (q0:=q1) m2 (by omega) (by omega) (by omega),fun x hx=>by rw[m2.out x (by omega)];exact hout x (by omega),fun q hq=>?_,rfl,rfl,by rw[hl'];rfl,by rw[hl'];rfl,rfl,rfl,?_,?_⟩
   ·by_cases c:q=q1
    ·subst c;rw[←ha,e1];exact s2
    ·have:(q+1)*(2*s)≤q1*(2*s):=j4 _ (by omega)
     exact(hB q (by omega)).out m2 (by omega)
   ·show IV.int _ _=_
    congr 1;omega
   ·show IV.int _ _=_
    congr 1;omega
 ·simp(disch:=omega) only[ak,↓aj,seval,Bb,hJ]
  exact hQ H' l' _ q1 hk hO' hM hC' (by rw[←ha];exact hout) hB (by omega) (by omega) rfl (by rw[hl'];rfl) (by rw[hl'];rfl) rfl rfl (by rw[←ha];rfl)
theorem MZ{blk e cap:Nat}{ex:Bool}{l:List Hd}{s0:Nat}{H:Heap}{lo:Nat}{Q:Out→Heap→Prop}{tm:List IV}(hO:Own H blk e cap l)(hlo:lo≤blk)(hl:l.length≤1000000)(hs:0 < s0)(hs':s0≤2000000)(hA:AllB s0 l.length l)(hC:Cross s0 l)
  (htm:tm.length=63) (t0:tm.getD 0 IV.undef=(SV.sl blk 0 l.length cap ex).iv) (t1:tm.getD 1 IV.undef=.int .i64 l.length) (t2:tm.getD 2 IV.undef=.fn 153 [] []) (t6:tm.getD 6 IV.undef=.int .i64 s0)
  (hQ:∀H' l' tm',KeepX blk H H'→Own H' blk e cap l'→l'.Perm l→l'.Pairwise cF→Q (.ex (.jmp (.exit 2)) ⟨tm',[]⟩) H'):
  W E0 lo (.code (.loop km) none ⟨tm,[]⟩) H Q:=by
 refine aO (fun k fr H'=>∃s l',k=l.length - s∧0 < s∧s≤2000000∧KeepX blk H H'∧Own H' blk e cap l'∧Mix 0 l.length l l'∧AllB s l.length l'∧Cross s l'∧fr.marks=[]∧fr.tm.length=63∧fr.tm.getD 0 IV.undef=(SV.sl blk 0 l.length cap ex).iv∧fr.tm.getD 1 IV.undef=.int .i64 l.length∧fr.tm.getD 2 IV.undef=.fn 153 [] []∧fr.tm.getD 6 IV.undef=.int .i64 s) ?_ _ ⟨s0,l,rfl,hs,hs',KeepX.refl _ _,hO,Mix.refl _ _ _,hA,hC,rfl,htm,t0,t1,t2,t6⟩;clear htm t0 t1 t2 t6;rintro k ⟨tm,mk⟩ H' ⟨s,l',hks,hs0,hs2,hk,hO',hM,hA',hC',rfl,htm,t0,t1,t2,t6⟩ L hN hJ;have hl':=hM.len;rw[yP tm htm,t0,t1,t2,t6,←hl'];by_cases hlt:s < l.length
 ·simp(disch:=omega) only[ak,↓aj,seval,oI,oH,oG,oF,oE,oB,nZ,oA,oz,ox,lg,lf,ld,lc,la,kZ,kV,kU,km,uV,Db]
  refine Pj (ex:=ex) hO' hlo (by omega) hs0 (by omega) (by rw[hl'];exact hA') hC' rfl rfl rfl rfl rfl rfl rfl fun H2 l2 tm2 q1 k2 o2 m2 c2 f2 b2 g1 g2 htm2 u0 u1 u2 u6 u7=>?_;have hl2:=m2.len;obtain⟨a,ha⟩:∃a,a=q1*(2*s):=⟨_,rfl⟩;have e1:(q1+1)*(2*s)=a+2*s:=by rw[dB,ha]
  have q2:q1*2*s=a:=by rw[ha,xW]
  have q3:(q1*2+1)*s=a+s:=by rw[dB,q2]
  have q4:(q1*2+1+1)*s=a+2*s:=by rw[dB,q3];omega
  rw[←ha] at g1 f2 u7;rw[e1] at g2;have ea:(a:Int)+(s:Int)=((a+s:Nat):Int):=by omega
  have e2:(s:Int)*2=((2*s:Nat):Int):=by omega
  rw[yP tm2 htm2,u0,u1,u2,u6,u7,←hl2];have hl'':l'.length=l.length:=hl'
  have fin:∀H3 l3,KeepX blk H2 H3→Own H3 blk e cap l3→Mix a l2.length l2 l3→Srt cF l3 a l.length→AllB (2*s) l.length l3∧Cross (2*s) l3:=by
   intro H3 l3 k3 o3 m3 s3;refine⟨AllB.of (q1:=q1) (fun q hq=>?_) (by rw[←ha];exact s3) (by omega),c2.mix (q0:=q1) m3 (by omega) (by omega) (au _)⟩
   have:(q+1)*(2*s)≤q1*(2*s):=j4 _ (by omega)
   exact(b2 q hq).out m3 (by omega)
  by_cases hm:a+s < l.length
  ·have s1:=hA' (q1*2) (by omega);have s2:=hA' (q1*2+1) (by omega);rw[q2,q3,ul (by omega)] at s1;rw[q3,q4,B7 (by omega)] at s2;simp(disch:=omega) only[ak,↓aj,seval,oI,oH,oG,oF,oE,oB,nZ,oA,oz,ox,lg,lf,ld,lc,la,kZ,kV,kU,km,uV,Db,ea];refine Pe (2*s) l2 a (a+s) l2.length H2 lo _ (by omega) o2 hlo (by omega) (by omega) (by omega) (by omega) (fun i j h1 h2 h3=>?_) (fun i j h1 h2 h3=>?_) (fun i j h1 h2 h3 h4=>?_) fun H3 l3 k3 o3 m3 s3=>?_
   ·rw[f2 i h1,f2 j (by omega)];exact s1 i j h1 h2 h3
   ·rw[f2 i (by omega),f2 j (by omega)];exact s2 i j h1 h2 (by omega)
   ·rw[f2 i h1,f2 j (by omega)];exact hC' i j (q1*2+1) (by omega) (by omega) (by omega)
   ·rw[show l2.length=l.length from by omega] at s3;obtain⟨z1,z2⟩:=fin H3 l3 k3 o3 m3 s3;simp(disch:=omega) only[ak,↓aj,seval,oI,oH,oG,oF,oE,oB,nZ,oA,oz,ox,lg,lf,ld,lc,la,kZ,kV,kU,km,uV,Db,e2];exact hN _ _ _ (by omega) ⟨2*s,l3,rfl,by omega,by omega,(hk.trans k2).trans k3,o3,(hM.trans (m2.wide (au _) (by omega))).trans (m3.wide (fd _) (by omega)),z1,z2,rfl,rfl,by rw[hl2,hl'];rfl,by rw[hl2,hl'];rfl,rfl,rfl⟩
  ·have s3:Srt cF l2 a l.length:=by
    intro i j h1 h2 h3;have s1:=hA' (q1*2) (by omega);rw[q2,q3,B7 (by omega)] at s1;rw[f2 i h1,f2 j (by omega)];exact s1 i j h1 h2 h3
   obtain⟨z1,z2⟩:=fin H2 l2 (KeepX.refl _ _) o2 (Mix.refl _ _ _) s3;simp(disch:=omega) only[ak,↓aj,seval,oI,oH,oG,oF,oE,oB,nZ,oA,oz,ox,lg,lf,ld,lc,la,kZ,kV,kU,km,uV,Db,ea,e2];exact hN _ _ _ (by omega) ⟨2*s,l2,rfl,by omega,by omega,hk.trans k2,o2,hM.trans (m2.wide (au _) (by omega)),z1,z2,rfl,rfl,by rw[hl2,hl'];rfl,by rw[hl2,hl'];rfl,rfl,rfl⟩
 ·simp(disch:=omega) only[ak,↓aj,seval,oI,oH,oG,oF,oE,oB,nZ,oA,oz,ox,lg,lf,ld,lc,la,kZ,kV,kU,km,uV,Db,hJ]
  refine hQ H' l' _ hk hO' hM.perm (C1 ?_);by_cases h0:l.length=0
  ·intro i j h1 h2 h3;omega
  ·have:=hA' 0 (by omega)
   rw[xU,bL,Nat.one_mul,B7 (by omega)] at this;rw[hl'];exact this
theorem MY{blk e cap:Nat}{ex:Bool}{l:List Hd}{H:Heap}{lo:Nat}{Q:Out→Heap→Prop}(hO:Own H blk e cap l)(hlo:lo≤blk)(hl:l.length≤1000000)(hord:l.Pairwise ja)
  (h:∀H' l',KeepX blk H H'→Own H' blk e cap l'→l'.Perm l→l'.Pairwise cF→Q (.val (.tuple [])) H'):W E0 lo (.call 152 [(SV.sl blk 0 l.length cap ex).iv,.fn 153 [] []]) H Q:=by
 rw[avr];have hv:=hO.sl ex;have hln:=hv.ln;simp(disch:=omega) only[ak,↓aj,seval,awu,↓hln];rw[au8];simp(disch:=omega) only[ak,↓aj,seval,acT];refine amC (ex:=ex) hO hlo hl hord rfl rfl rfl rfl rfl rfl rfl fun H2 l2 tm2 q1 k2 o2 m2 c2 f2 b2 g1 g2 htm2 u0 u1 u2 u6 u7=>?_;have hl2:=m2.len;rw[yP tm2 htm2,u0,u1,u2,u6,u7,←hl2];simp(disch:=omega) only[ak,↓aj,seval,acT];refine rR (q1*20) l2.length o2 hlo (by omega) (by omega) (au _) (fun i j h1 h2 h3=>?_) fun H3 l3 k3 o3 m3 s3=>?_
 ·rw[f2 i h1,f2 j (by omega)];exact je hord 0 l.length (au _) i j (fd _) h2 (by omega)
 ·have hl3:=m3.len;rw[←hl3];simp(disch:=omega) only[ak,↓aj,seval,acT];refine MZ (ex:=ex) (s0:=20) o3 hlo (by omega) (by omega) (by omega) (AllB.of (q1:=q1) (fun q hq=>(b2 q hq).out m3 (by omega)) (by rw[hl3];exact s3) (by omega)) (c2.mix m3 (au _) (by omega) (au _)) rfl rfl rfl rfl rfl fun H4 l4 tm4 k4 o4 p4 s4=>?_;simp(disch:=omega) only[ak,↓aj,seval,acT];exact h H4 l4 ((k2.trans k3).trans k4) o4 ((p4.trans m3.perm).trans m2.perm) s4
def eQ(r:Int):Bool:=decide (r≥ -4)&&decide (r≤4)
theorem pS(r:Int){H:Heap}{lo:Nat}{Q:Out→Heap→Prop}(h:Q (.val (.bool (eQ r))) H):W E0 lo (.call 190 [.int .i64 r]) H Q:=by
 rw[au9];unfold eQ at h
 cases e0:decide (r≥ -4)<;>simp only[e0,tB,B2] at h<;>simp(disch:=omega) only[ak,↓aj,seval,awl,e0]<;>exact h
theorem pU(r:Int){H:Heap}{lo:Nat}{Q:Out→Heap→Prop}(h:Q (.val (.bool (eQ r))) H):W E0 lo (.call 89 [.int .i64 r]) H Q:=by
 rw[c89];unfold eQ at h
 cases e0:decide (r≥ -4)<;>simp only[e0,tB,B2] at h<;>simp(disch:=omega) only[ak,↓aj,seval,B89,e0]<;>exact h
theorem rackB_iff{r:Int}:eQ r=true↔ -4≤r∧r≤4:=by unfold eQ;simp
def aH(bed at_ r:Int):Int:=if av bed at_=0∧eQ r=true then(if bed=0 then 4*at_+2 else 4*(at_+r)) else 0
theorem oL(bed at_ r:Int){H:Heap}{lo:Nat}{Q:Out→Heap→Prop}(hlo:lo≤H.n)(h:∀H',Keep H.n H H'→Q (.val (.int .i64 (aH bed at_ r))) H'):W E0 lo (.call 35 [.agg [.int .u8 bed,.int .i64 at_],.int .i64 r]) H Q:=by
 refine gS _ hlo h fun R hR=>?_;clear h;rw[c35];simp(disch:=omega) only[ak,↓aj,seval,B35];generalize hH_H1:Heap.new _ _=H1;have hnH1:H1.n=H.n+1:=by rw[←hH_H1];rfl
 have g0:=congrArg (fun h0=>Heap.get h0 (H.n)) hH_H1.symm;simp(disch:=omega) only[ak,↓aj,seval] at g0
 have kH1:Keep H.n H H1:=⟨by omega,fun x hx _=>by
  have gx:=congrArg (fun h0=>Heap.get h0 x) hH_H1.symm;simp(disch:=omega) only[ak,↓aj,seval] at gx;exact gx⟩
 clear hH_H1;refine cn bed at_ (by omega) fun H2 k2=>?_;have hn2:=k2.1;replace g0:=(k2.2 _ (by omega) (by omega)).trans g0;have r0:=af g0;unfold aH at hR;rcases ju bed at_ with hv | hv
 case inr=>
  rw[if_neg (by omega)] at hR;simp(disch:=omega) only[ak,↓aj,seval,B35,hv];exact hR _
 by_cases hr:eQ r=true
 case neg=>
  rw[if_neg (fun h=>hr h.2)] at hR;rw[Aj] at hr;simp(disch:=omega) only[ak,↓aj,seval,B35,hv];refine pU r ?_;simp(disch:=omega) only[ak,↓aj,seval,B35,hr];exact hR _
 rw[if_pos ⟨hv,hr⟩] at hR;have hr':=rackB_iff.1 hr;obtain⟨hb,h1,h2⟩:=eK hv;simp(disch:=omega) only[ak,↓aj,seval,B35,hv];refine pU r ?_;rcases hb with rfl | rfl
 ·rw[if_pos rfl] at hR;simp(disch:=omega) only[ak,↓aj,seval,B35,hr,r0];exact hR _
 ·rw[if_neg (by omega)] at hR;simp(disch:=omega) only[ak,↓aj,seval,B35,hr,r0];exact hR _
def bM(fs bs:List (List Id))(r:Int):Int:=if aY fs bs≠0 then aY fs bs else if eQ r=true then 0 else 11
theorem Az{f b:SV}{fs bs:List (List Id)}(r:Int){H:Heap}{lo:Nat}{Q:Out→Heap→Prop}(hf:Sl2 H f fs)(hb:Sl2 H b bs)(hlf:fs.length≤1000000)(hlb:bs.length≤1000000)(hl:∀l∈fs,l.length≤1000000)(hl':∀l∈bs,l.length≤1000000)(hlo:lo≤H.n)
  (h:∀H',Keep H.n H H'→Q (.val (.int .i64 (bM fs bs r))) H'):W E0 lo (.call 150 [bv f b,.int .i64 r]) H Q:=by
 refine gS _ hlo h fun R hR=>?_;clear h;rw[avt];simp(disch:=omega) only[ak,↓aj,seval,acV,bv];generalize hH_H1:Heap.new _ _=H1;have hnH1:H1.n=H.n+1:=by rw[←hH_H1];rfl
 have g0:=congrArg (fun h0=>Heap.get h0 (H.n)) hH_H1.symm;simp(disch:=omega) only[ak,↓aj,seval] at g0
 have kH1:Keep H.n H H1:=⟨by omega,fun x hx _=>by
  have gx:=congrArg (fun h0=>Heap.get h0 x) hH_H1.symm;simp(disch:=omega) only[ak,↓aj,seval] at gx;exact gx⟩
 clear hH_H1;rw[show IV.agg [f.iv,b.iv]=bv f b from rfl];refine sF (hf.keep kH1) (hb.keep kH1) hlf hlb hl hl' (by omega) fun H2 k2=>?_;unfold bM at hR;by_cases hc:aY fs bs=0
 ·rw[if_neg (by simp[hc])] at hR;simp(disch:=omega) only[ak,↓aj,seval,acV,hc];refine pS r ?_;by_cases hr:eQ r=true
  ·rw[if_pos hr] at hR;simp(disch:=omega) only[ak,↓aj,seval,acV,hr];exact hR _
  ·rw[if_neg hr] at hR;rw[Aj] at hr;simp(disch:=omega) only[ak,↓aj,seval,acV,hr];exact hR _
 ·have e0:(aY fs bs !=0)=true:=by simp[hc]
  rw[if_pos hc] at hR;simp(disch:=omega) only[ak,↓aj,seval,acV,e0];exact hR _
theorem E4{v:SV}{l:List Hd}{H:Heap}{lo:Nat}{Q:Out→Heap→Prop}(hv:Sl H v l)(hl:l.length≤1000000)(hlo:lo≤H.n)
  (h:∀H' b,Keep H.n H H'→H.n≤b→Own H' b 204 l.length l→Q (.val (SV.sl b 0 l.length l.length true).iv) H'):W E0 lo (.call 154 [v.iv]) H Q:=by
 refine W.pure bu hlo ?_;rw[avp];obtain⟨H2,e1,e2,e3,e4⟩:=fi hv (z:=5) rfl 204 H.n [IV.int .u8 0,.int .i64 0,.int .u8 0,.int .i64 0,.int .i64 0] rfl (au _);simp(disch:=omega) only[ak,↓aj,seval,awt,↓hv.ln,↓e1,Int.reducePow];exact fun hk=>h _ _ hk (au _) e4
def ba(bed at_ spot:Int)(k0:Nat)(st:List Id):List Hd:=st.mapIdx fun j a=>⟨a,bed,at_,spot,k0+j⟩
theorem eY(bed at_ spot:Int)(k0:Nat)(st:List Id):(ba bed at_ spot k0 st).length=st.length:=by simp[ba]
theorem ub(bed at_ spot:Int)(k0:Nat)(st:List Id)(j:Nat)(hj:j < st.length):(ba bed at_ spot k0 st).take (j+1)=(ba bed at_ spot k0 st).take j++[⟨st[j],bed,at_,spot,k0+j⟩]:=by
 rw[fg (by rw[eY];exact hj)];simp[ba]
def kH(bed:Int)(i:Nat):Nat:=8*(40*bed.toNat+i)
def im(bed r:Int)(fs:List (List Id)):List (List Hd):=fs.mapIdx fun i st=>ba bed ((i:Int)+1) (aH bed ((i:Int)+1) r) (kH bed i) st
theorem cz(bed r:Int)(fs:List (List Id)):(im bed r fs).length=fs.length:=by simp[im]
theorem Ol(bed r:Int)(fs:List (List Id))(i:Nat)(hi:i < fs.length):(im bed r fs).take (i+1)=(im bed r fs).take i++[ba bed ((i:Int)+1) (aH bed ((i:Int)+1) r) (kH bed i) fs[i]]:=by
 rw[fg (by rw[cz];exact hi)];simp[im]
theorem pc(bed r:Int)(fs:List (List Id))(i:Nat):((im bed r fs).take i).flatten.length=eJ (fs.take i):=by
 rw[List.length_flatten];unfold eJ;congr 1;apply xP
 ·simp[im]
 ·intro n h1 h2;simp[im,ba]
theorem Eu(a b:List (List Id)):eJ (a++b)=eJ a+eJ b:=by unfold eJ;simp
theorem Om{α:Type}[Cell α]{H:Heap}{b e cap:Nat}{ex:Bool}{l:List α}{a:α}{v:SV}(ho:Own H b e cap l)(hv:Sl H v [a]){z:Nat}(hz:Cell.z α=z)(bytes lo:Nat)(hr:l.length+1≤cap)(hlo:lo≤b):
  ∃H2,ev1 (.append e z bytes) [.slice b 0 l.length cap ex,v.iv] lo H=some (.slice b 0 (l.length+1) cap ex,H2)∧H2.n=H.n∧(∀b',b'≠b→H2.get b'=H.get b')∧Own H2 b e cap (l++[a]):=ge (m:=[a]) ho hv hz bytes lo hr hlo
theorem adI{α:Type}[Cell α]{H:Heap}{e z:Nat}(hz:Cell.z α=z)(a:α):Own (H.new (.cells false e z (Cell.cs a))) H.n e 1 [a]:=by
 have:=ck (H:=H.new (.cells false e z (Cell.cs a))) (b:=H.n) (e:=e) (l:=[a]) (by rw[ac];omega) hz (by rw[al,if_pos rfl]) (EG a).symm
 exact this
def KeepT(p q:Nat)(H H':Heap):Prop:=H.n≤H'.n∧∀x,x < H.n→x≠p→x≠q→H'.get x=H.get x
theorem KeepT.refl(p q:Nat)(H:Heap):KeepT p q H H:=⟨au _,fun _ _ _ _=>rfl⟩
theorem KeepT.trans{p q:Nat}{a b c:Heap}(h:KeepT p q a b)(k:KeepT p q b c):KeepT p q a c:=⟨dr h.1 k.1,fun x h1 h2 h3=>(k.2 x (du h1 h.1) h2 h3).trans (h.2 x h1 h2 h3)⟩
theorem KeepT.of{p q:Nat}{H H':Heap}(k:Keep H.n H H'):KeepT p q H H':=⟨k.1,fun x h _ _=>k.2 x h h⟩
def CD(tm:List IV)(h:tm.length=39):=(ch tm 39 h).trans (by simp only[List.range,List.range.loop,bB,bc];exact rfl)
theorem Ot{db rb kb cap:Nat}{ex:Bool}{bed at_ r:Int}{nb k0:Nat}{st:List Id}{w:SV}{l:List Hd}{y11 y12 y13:IV}{H:Heap}{lo:Nat}{Q:Out→Heap→Prop}{tm:List IV}(hlo:lo≤db)(hlr:lo≤rb)(hw:Sl H w st)(hst:st.length≤1000000)(hlh:lo≤H.n)
  (hwb:st≠[]→w.blk≠db∧w.blk≠rb) (gr:H.get rb=some (.cells false 200 1 [.slice db 0 l.length cap ex])) (hO:Own H db 204 cap l) (gk:H.get kb=some (.cells false 3 1 [.int .i64 r])) (gn:H.get nb=some (.cells false 54 2 [.int .u8 bed,.int .i64 at_]))
  (hne:rb≠db∧kb≠db∧nb≠db∧rb≠kb∧rb≠nb) (hrb:rb < H.n) (hkb:kb < H.n) (hnb:nb < H.n) (hcap:l.length+st.length≤cap) (hcap':cap≤1000000)
  (htm:tm.length=39) (t2:tm.getD 2 IV.undef=.ptr rb 0) (t3:tm.getD 3 IV.undef=.ptr kb 0) (t0:tm.getD 0 IV.undef=.int .u8 bed) (t8:tm.getD 8 IV.undef=.ptr nb 0) (t11:tm.getD 11 IV.undef=y11) (t12:tm.getD 12 IV.undef=y12) (t13:tm.getD 13 IV.undef=y13) (t22:tm.getD 22 IV.undef=w.iv) (t23:tm.getD 23 IV.undef=.int .i64 st.length) (t24:tm.getD 24 IV.undef=.int .i64 0)
  (hQ:∀H' tm',KeepT rb db H H'→H'.get rb=some (.cells false 200 1 [.slice db 0 (l++ba bed at_ (aH bed at_ r) k0 st).length cap ex])→Own H' db 204 cap (l++ba bed at_ (aH bed at_ r) k0 st)→tm'.length=39→tm'.getD 2 IV.undef=.ptr rb 0→tm'.getD 3 IV.undef=.ptr kb 0→tm'.getD 0 IV.undef=.int .u8 bed→tm'.getD 11 IV.undef=y11→tm'.getD 12 IV.undef=y12→tm'.getD 13 IV.undef=y13→Q (.ex (.jmp (.exit 2)) ⟨tm',[]⟩) H'):
  W E0 lo (.code (.loop HM) none ⟨tm,[]⟩) H Q:=by
 have hS:=eY bed at_ (aH bed at_ r) k0 st;refine aO (fun k fr H'=>∃j,j+k=st.length∧KeepT rb db H H'∧H'.get rb=some (.cells false 200 1 [.slice db 0 (l++(ba bed at_ (aH bed at_ r) k0 st).take j).length cap ex])∧Own H' db 204 cap (l++(ba bed at_ (aH bed at_ r) k0 st).take j)∧fr.marks=[]∧fr.tm.length=39∧fr.tm.getD 2 IV.undef=.ptr rb 0∧fr.tm.getD 3 IV.undef=.ptr kb 0∧fr.tm.getD 0 IV.undef=.int .u8 bed∧fr.tm.getD 8 IV.undef=.ptr nb 0∧fr.tm.getD 11 IV.undef=y11∧fr.tm.getD 12 IV.undef=y12∧fr.tm.getD 13 IV.undef=y13∧fr.tm.getD 22 IV.undef=w.iv∧fr.tm.getD 23 IV.undef=.int .i64 st.length∧fr.tm.getD 24 IV.undef=.int .i64 j) ?_ st.length ⟨0,by omega,KeepT.refl _ _ _,by simpa using gr,by simpa using hO,rfl,htm,t2,t3,t0,t8,t11,t12,t13,t22,t23,t24⟩;clear htm t2 t3 t0 t8 t11 t12 t13 t22 t23 t24 hO;rintro k ⟨tm,mk⟩ H' ⟨j,hjk,hk,gr',hO',rfl,htm,t2,t3,t0,t8,t11,t12,t13,t22,t23,t24⟩ L hN hJ;have hn:=hk.1;rw[CD tm htm,t2,t3,t0,t8,t11,t12,t13,t22,t23,t24];by_cases hj:j < st.length
 ·have hwb':=hwb (by intro e;rw[e] at hj;simp at hj);have hw':Sl H' w st:=hw.same hn fun hx=>hk.2 _ (hw.blk_lt hx) hwb'.2 hwb'.1;have r1:=hw'.read kT j hj;have gk':=(hk.2 kb hkb (Ne.symm hne.2.2.2.1) hne.2.1).trans gk;have gn':=(hk.2 nb hnb (Ne.symm hne.2.2.2.2) hne.2.2.1).trans gn;have rr:=af gr';have rk:=af gk';have rn:=af gn';simp(disch:=omega) only[ak,↓aj,seval,acR,↓hw'.idx,r1,fh,rr,rk,rn];generalize hH_H2:Heap.put _ _ _=H2;have hnH2:H2.n=H'.n+1:=by rw[←hH_H2];rfl
  have gi:=congrArg (fun h0=>Heap.get h0 (H'.n)) hH_H2.symm;simp(disch:=omega) only[ak,↓aj,seval] at gi
  have kH2:Keep H'.n H' H2:=⟨by omega,fun x hx _=>by
   have gx:=congrArg (fun h0=>Heap.get h0 x) hH_H2.symm;simp(disch:=omega) only[ak,↓aj,seval] at gx;exact gx⟩
  clear hH_H2;refine oL bed at_ r (by omega) fun H3 k3=>?_;have hn3:=k3.1;have kk3:Keep H'.n H' H3:=kH2.trans (k3.lower (by omega));have hdb:=hO'.2.1;have hO3:=hO'.keep kk3;have hel:Cell.cs (⟨st[j],bed,at_,aH bed at_ r,k0+j⟩:Hd)=[IV.int .u8 st[j].y,.int .i64 st[j].n,.int .u8 bed,.int .i64 at_,.int .i64 (aH bed at_ r)]:=rfl;obtain⟨H5,e5,n5,f5,o5⟩:=Om (ex:=ex) (a:=(⟨st[j],bed,at_,aH bed at_ r,k0+j⟩:Hd)) (e:=204) (hO3.keep (.new _ (.cells false 204 5 (Cell.cs (⟨st[j],bed,at_,aH bed at_ r,k0+j⟩:Hd))))) ((adI jl _).sl true) jl 40 lo (by rw[aW,eR,hS];omega) hlo;rw[hel] at e5 f5 n5;rw[ac] at n5;simp only[fe,j2,bL,SV.iv] at e5;have g5:=(f5 rb hne.1).trans ((al _ _ _).trans (if_neg (by omega)));rw[kk3.2 rb (by omega) (by omega),gr'] at g5;simp(disch:=omega) only[ak,↓aj,seval,acR,↓e5,g5];refine hN (k - 1) _ _ (by omega) ⟨j+1,by omega,⟨?_,fun x h1 h2 h3=>?_⟩,?_,?_,rfl,rfl,rfl,rfl,rfl,rfl,rfl,rfl,rfl,rfl,rfl,?_⟩
  ·rw[ai];omega
  ·rw[ae,if_neg (Ne.symm h2),f5 x h3,al,if_neg (by omega),kk3.2 x (by omega) (by omega)];exact hk.2 x h1 h2 h3
  ·have:(l++(ba bed at_ (aH bed at_ r) k0 st).take (j+1)).length=(l++(ba bed at_ (aH bed at_ r) k0 st).take j).length+1:=by rw[ub _ _ _ _ _ _ hj,←cj,aW];rfl
   rw[ae,if_pos rfl,this]
  ·rw[ub _ _ _ _ _ _ hj,←cj];exact o5.same (by rw[ai];omega) (by rw[ae,if_neg hne.1])
  ·rfl
 ·have:j=st.length:=by omega
  subst this;rw[eW (by omega)] at gr' hO';simp(disch:=omega) only[ak,↓aj,seval,acR,hJ];exact hQ H' _ hk gr' hO' rfl rfl rfl rfl rfl rfl rfl
theorem RK{db rb kb cap:Nat}{ex:Bool}(bed r:Int){f:SV}{fs:List (List Id)}{l:List Hd}{H0 H:Heap}{lo:Nat}{Q:Out→Heap→Prop}(hlo:lo≤db)(hlr:lo≤rb)(hf:Sl2 H0 f fs)(hk:Keep H0.n H0 H)(hr0:H0.n≤rb)(hd0:H0.n≤db)
  (hlen:fs.length≤1000000) (hst:∀x∈fs,x.length≤1000000) (gr:H.get rb=some (.cells false 200 1 [.slice db 0 l.length cap ex])) (hO:Own H db 204 cap l) (gk:H.get kb=some (.cells false 3 1 [.int .i64 r]))
  (hne:rb≠db∧kb≠db∧rb≠kb) (hrb:rb < H.n) (hkb:kb < H.n) (hcap:l.length+eJ fs≤cap) (hcap':cap≤1000000)
  (hQ:∀H',KeepT rb db H H'→H'.get rb=some (.cells false 200 1 [.slice db 0 (l++(im bed r fs).flatten).length cap ex])→Own H' db 204 cap (l++(im bed r fs).flatten)→Q (.val (.tuple [])) H'):
  W E0 lo (.call 151 [.int .u8 bed,f.iv,.ptr rb 0,.ptr kb 0]) H Q:=by
 rw[avs];have hf1:=hf.keep hk;simp(disch:=omega) only[ak,↓aj,seval,arf,↓hf1.ln];refine aO (fun k fr H'=>∃i,i+k=fs.length∧KeepT rb db H H'∧H'.get rb=some (.cells false 200 1 [.slice db 0 (l++((im bed r fs).take i).flatten).length cap ex])∧Own H' db 204 cap (l++((im bed r fs).take i).flatten)∧fr.marks=[]∧fr.tm.length=39∧fr.tm.getD 0 IV.undef=.int .u8 bed∧fr.tm.getD 2 IV.undef=.ptr rb 0∧fr.tm.getD 3 IV.undef=.ptr kb 0∧fr.tm.getD 11 IV.undef=f.iv∧fr.tm.getD 12 IV.undef=.int .i64 fs.length∧fr.tm.getD 13 IV.undef=.int .i64 i) ?_ fs.length ⟨0,by omega,KeepT.refl _ _ _,by simpa using gr,by simpa using hO,rfl,rfl,rfl,rfl,rfl,rfl,rfl,rfl⟩;clear hO gr;rintro k ⟨tm,mk⟩ H' ⟨i,hik,hkt,gr,hO,rfl,htm,t0,t2,t3,t11,t12,t13⟩ L hN hJ;have hn:=hkt.1;have hn0:=hk.1;have kk:Keep H0.n H0 H':=⟨by omega,fun x h1 h2=>(hkt.2 x (by omega) (by omega) (by omega)).trans (hk.2 x h1 h2)⟩;rw[CD tm htm,t0,t2,t3,t11,t12,t13];by_cases hi:i < fs.length
 ·have hf2:=hf.keep kk;obtain⟨w,r1,s1,_⟩:=hf.elem i hi
  have hbl:f.blk < H0.n:=by
   obtain⟨vs,g1,g2,g3⟩:=hf;exact g1.blk_lt' (i:=i) (by omega)
  have r1':=kk.read f.blk (f.off+i*1) 1 hbl hbl;rw[r1] at r1';have s1':=s1.keep kk;have hfl:=pc bed r fs i;have hle:=oX fs i hi
  have hlt:eJ (fs.take (i+1))≤eJ fs:=by
   have h:=Eu (fs.take (i+1)) (fs.drop (i+1));rw[rA] at h;omega
  simp(disch:=omega) only[ak,↓aj,seval,vC,vB,vA,vz,vy,vx,vw,vv,vu,qm,sQ,A7,HN,↓hf2.idx,r1',↓s1'.ln]
  generalize hH_H2:Heap.put _ _ _=H2;have hnH2:H2.n=H'.n+1:=by rw[←hH_H2];rfl
  have gn:=congrArg (fun h0=>Heap.get h0 (H'.n)) hH_H2.symm;simp(disch:=omega) only[ak,↓aj,seval] at gn
  have kH2:Keep H'.n H' H2:=⟨by omega,fun x hx _=>by
   have gx:=congrArg (fun h0=>Heap.get h0 x) hH_H2.symm;simp(disch:=omega) only[ak,↓aj,seval] at gx;exact gx⟩
  clear hH_H2;have hdb:=hO.2.1;have g2:=(kH2.2 rb (by omega) (by omega)).trans gr;have gk2:=(kH2.2 kb (by omega) (by omega)).trans ((hkt.2 kb hkb (Ne.symm hne.2.2) hne.2.1).trans gk);refine Ot (at_:=(i:Int)+1) (k0:=kH bed i) hlo hlr (s1'.keep kH2) (hst _ (bm hi)) (by omega) (fun hx=>?_) g2 (hO.keep kH2) gk2 gn ⟨hne.1,hne.2.1,by omega,hne.2.2,by omega⟩ (by omega) (by omega) (by omega) (by rw[aW,hfl];omega) hcap' rfl rfl rfl rfl rfl rfl rfl rfl rfl rfl rfl fun H3 Pb k3 g3 o3 u u2 u3 u0 u11 u12 u13=>?_
  ·have:=s1.blk_lt hx
   omega
  ·rw[CD Pb u,u2,u3,u0,u11,u12,u13];simp(disch:=omega) only[ak,↓aj,seval,vC,vB,vA,vz,vy,vx,vw,vv,vu,qm,sQ,A7,HN]
   have e1:l++((im bed r fs).take i).flatten++ba bed ((i:Int)+1) (aH bed ((i:Int)+1) r) (kH bed i) fs[i]=l++((im bed r fs).take (i+1)).flatten:=by
    rw[Ol _ _ _ _ hi,iq,cj];simp
   rw[e1] at g3 o3;exact hN (k - 1) _ _ (by omega) ⟨i+1,by omega,(hkt.trans (KeepT.of kH2)).trans k3,g3,o3,rfl,rfl,rfl,rfl,rfl,rfl,rfl,rfl⟩
 ·have:i=fs.length:=by omega
  subst this;rw[eW (by rw[cz];exact au _)] at gr hO;simp(disch:=omega) only[ak,↓aj,seval,vC,vB,vA,vz,vy,vx,vw,vv,vu,qm,sQ,A7,HN,hJ];exact hQ H' hkt gr hO
def pF(fs bs:List (List Id))(r:Int):List Hd:=(im 0 r fs).flatten++(im 1 r bs).flatten
theorem mQ{bed at_ spot:Int}{k0:Nat}{st:List Id}{x:Hd}(h:x∈ba bed at_ spot k0 st):k0≤x.k∧x.k < k0+st.length:=by
 obtain⟨j,hj,rfl⟩:=List.mem_iff_getElem.1 h;rw[eY] at hj;simp[ba];omega
theorem FY(bed at_ spot:Int)(k0:Nat)(st:List Id):(ba bed at_ spot k0 st).Pairwise ja:=by
 rw[Ar];intro i j h1 h2 h3;simp[ba,ja];omega
theorem RG{bed r:Int}{fs:List (List Id)}(h4:∀x∈fs,x.length≤4){x:Hd}(h:x∈(im bed r fs).flatten):kH bed 0≤x.k∧x.k < kH bed fs.length:=by
 obtain⟨s,hs,hx⟩:=List.mem_flatten.1 h;obtain⟨i,hi,rfl⟩:=List.mem_iff_getElem.1 hs;rw[cz] at hi;simp only[im,Cb] at hx
 have:=mQ hx
 have:=h4 _ (bm hi)
 unfold kH at *;omega
theorem Fb(bed r:Int){fs:List (List Id)}(h4:∀x∈fs,x.length≤4):((im bed r fs).flatten).Pairwise ja:=by
 rw[List.pairwise_flatten]
 constructor
 ·intro s hs;obtain⟨i,hi,rfl⟩:=List.mem_iff_getElem.1 hs;simp only[im,Cb];exact FY _ _ _ _ _
 ·rw[Ar];intro i j h1 h2 h3 x hx y hy;rw[cz] at h1 h2;simp only[im,Cb] at hx hy;have a1:=mQ hx;have a2:=mQ hy
  have:=h4 _ (bm h1)
  unfold kH at *;unfold ja;omega
theorem N0{fs bs:List (List Id)}(r:Int)(hc:aY fs bs=0):(pF fs bs r).Pairwise ja:=by
 obtain⟨h1,h2,h3,h4,_⟩:=jv hc;unfold pF;rw[List.pairwise_append];refine⟨Fb 0 r h3,Fb 1 r h4,fun x hx y hy=>?_⟩;have a1:=RG h3 hx;have a2:=RG h4 hy;have e0:kH 0 fs.length=8*fs.length:=by unfold kH;simp
 have e1:kH 1 0=320:=by unfold kH;simp
 unfold ja;omega
theorem jq(fs bs:List (List Id))(r:Int):(pF fs bs r).length=eJ fs+eJ bs:=by
 unfold pF;rw[aW];have a:=pc 0 r fs fs.length;have b:=pc 1 r bs bs.length;rw[eW (by rw[cz];exact au _),xQ] at a b;omega
theorem lx{fs:List (List Id)}(h1:fs.length≤40)(h4:∀x∈fs,x.length≤4):eJ fs≤160:=by
 have key:∀fs:List (List Id),(∀x∈fs,x.length≤4)→eJ fs≤4*fs.length:=by
  intro fs
  induction fs with
  | nil=>intro _;simp[eJ]
  | cons a l ih=>
    intro h
    have:=ih fun x hx=>h x (by simp[hx])
    have:=h a (by simp)
    simp[eJ] at *;omega
 have:=key fs h4
 omega
theorem yp{f b:SV}{fs bs:List (List Id)}(r:Int){H:Heap}{lo:Nat}{Q:Out→Heap→Prop}(hf:Sl2 H f fs)(hb:Sl2 H b bs)(hlf:fs.length≤1000000)(hlb:bs.length≤1000000)(hl:∀l∈fs,l.length≤1000000)(hl':∀l∈bs,l.length≤1000000)(hlo:lo≤H.n)
  (he:∀H',Keep H.n H H'→bM fs bs r≠0→Q (.val (.tuple [.nilSlice,.int .i64 (bM fs bs r)])) H')
  (h:∀H' v l,Keep H.n H H'→bM fs bs r=0→Fresh H.n H' 204 v l→l.Perm (pF fs bs r)→l.Pairwise cF→Q (.val (.tuple [v.iv,.int .i64 0])) H'):W E0 lo (.call 119 [bv f b,.int .i64 r]) H Q:=by
 refine W.pure bu hlo ?_;rw[avK];simp(disch:=omega) only[ak,↓aj,seval,FJ,bv];generalize hH_H1:Heap.new _ _=H1;have hnH1:H1.n=H.n+2:=by rw[←hH_H1];rfl
 have g0:=congrArg (fun h0=>Heap.get h0 (H.n)) hH_H1.symm;simp(disch:=omega) only[ak,↓aj,seval] at g0;have g1:=congrArg (fun h0=>Heap.get h0 (H.n+1)) hH_H1.symm;simp(disch:=omega) only[ak,↓aj,seval] at g1
 have kH1:Keep H.n H H1:=⟨by omega,fun x hx _=>by
  have gx:=congrArg (fun h0=>Heap.get h0 x) hH_H1.symm;simp(disch:=omega) only[ak,↓aj,seval] at gx;exact gx⟩
 clear hH_H1;rw[show IV.agg [f.iv,b.iv]=bv f b from rfl];refine Az r (hf.keep kH1) (hb.keep kH1) hlf hlb hl hl' (by omega) fun H2 k2=>?_;have hn2:=k2.1;replace g0:=(k2.2 _ (by omega) (by omega)).trans g0;replace g1:=(k2.2 _ (by omega) (by omega)).trans g1;replace kH1:Keep H.n H H2:=kH1.trans (k2.lower (by omega));clear k2;by_cases hc:bM fs bs r=0
 case neg=>
  have e0:(bM fs bs r !=0)=true:=by simp[hc]
  simp(disch:=omega) only[ak,↓aj,seval,FJ,e0]
  exact fun hk=>he _ hk hc
 have hck:aY fs bs=0:=by
  unfold bM at hc;split at hc
  ·contradiction
  ·rename_i h;simpa using h
 obtain⟨c1,c2,c3,c4,c5,c6⟩:=jv hck;have r0:=af g0;have hcount:eJ (fs.take 40)+eJ (bs.take 40)=eJ fs+eJ bs:=by rw[eW c1,eW c2]
 have hbf:=lx c1 c3;have hbb:=lx c2 c4;simp(disch:=omega) only[ak,↓aj,seval,FJ,hc,r0];rw[show IV.agg [f.iv,b.iv]=bv f b from rfl];refine E2 (hf.keep kH1) (hb.keep kH1) hlf hlb hl hl' (by omega) fun H3 k3=>?_;have hn3:=k3.1;replace g0:=(k3.2 _ (by omega) (by omega)).trans g0;replace g1:=(k3.2 _ (by omega) (by omega)).trans g1;replace kH1:Keep H.n H H3:=kH1.trans (k3.lower (by omega));clear k3 r0;rw[hcount];have r0:=af g0;simp(disch:=omega) only[ak,↓aj,seval,FJ,Int.reducePow,r0];generalize hH_H4:Heap.put _ _ _=H4;have hnH4:H4.n=H3.n+2:=by rw[←hH_H4];rfl
 have gd:=congrArg (fun h0=>Heap.get h0 (H3.n)) hH_H4.symm;simp(disch:=omega) only[ak,↓aj,seval] at gd;have gr:=congrArg (fun h0=>Heap.get h0 (H3.n+1)) hH_H4.symm;simp(disch:=omega) only[ak,↓aj,seval] at gr
 have kH4:Keep H3.n H3 H4:=⟨by omega,fun x hx _=>by
  have gx:=congrArg (fun h0=>Heap.get h0 x) hH_H4.symm;simp(disch:=omega) only[ak,↓aj,seval] at gx;exact gx⟩
 clear hH_H4;have hOd:Own H4 H3.n 204 (eJ fs+eJ bs) ([]:List Hd):=⟨fd _,by omega,_,gd,by have h:=congrArg List.length (xK (eJ fs+eJ bs) (⟨⟨0,0⟩,0,0,0,0⟩:Hd));rw[aw,jh] at h;exact h⟩;clear gd;have kH4':=kH1.trans (kH4.lower (by omega));have e2:=kH4.2 H.n (by omega) (by omega);have e3:=kH4.2 (H.n+1) (by omega) (by omega);rw[g0] at e2;rw[g1] at e3;clear r0 g0 g1 kH4;refine RK (ex:=true) 0 r (l:=[]) (by omega) (by omega) hf kH4' (by omega) (by omega) hlf hl gr hOd e3 (by omega) (by omega) (by omega) (by show 0+eJ fs≤_;omega) (by omega) fun H5 k5 gr5 hO5=>?_;rw[ru] at gr5 hO5;have hn5:=k5.1;have e2':=(k5.2 H.n (by omega) (by omega) (by omega)).trans e2;have e3':=(k5.2 (H.n+1) (by omega) (by omega) (by omega)).trans e3;have kH5:Keep H.n H H5:=⟨by omega,fun x h1 h2=>(k5.2 x (by omega) (by omega) (by omega)).trans (kH4'.2 x h1 h2)⟩;have r0:=af e2'
 have hl5:((im 0 r fs).flatten).length=eJ fs:=by
  have a:=pc 0 r fs fs.length
  rwa [eW (by rw[cz];exact au _),xQ] at a
 simp(disch:=omega) only[ak,↓aj,seval,FJ,r0]
 refine RK (ex:=true) 1 r (l:=(im 0 r fs).flatten) (by omega) (by omega) hb kH5 (by omega) (by omega) hlb hl' gr5 hO5 e3' (by omega) (by omega) (by omega) (by omega) (by omega) fun H6 k6 gr6 hO6=>?_;rw[show(im 0 r fs).flatten++(im 1 r bs).flatten=pF fs bs r from rfl] at gr6 hO6;have hn6:=k6.1;have kH6:Keep H.n H H6:=⟨by omega,fun x h1 h2=>(k6.2 x (by omega) (by omega) (by omega)).trans (kH5.2 x h1 h2)⟩;have r6:=af gr6;have hl6:=jq fs bs r;simp(disch:=omega) only[ak,↓aj,seval,FJ,r6];refine MY (ex:=true) hO6 (by omega) (by omega) (N0 r hck) fun H7 l7 k7 hO7 p7 s7=>?_;have hn7:=k7.1;have kH7:Keep H.n H H7:=⟨by omega,fun x h1 h2=>(k7.2 x (by omega) (by omega)).trans (kH6.2 x h1 h2)⟩;have gr7:=(k7.2 (H3.n+1) (by omega) (by omega)).trans gr6;have r7:=af gr7;have hl7:l7.length=(pF fs bs r).length:=p7.length_eq;simp(disch:=omega) only[ak,↓aj,seval,FJ,r7];rw[←hl7];refine E4 (hO7.sl true) (by omega) (by omega) fun H8 b8 k8 hb8 hO8=>?_;have hn8:=k8.1;simp(disch:=omega) only[ak,↓aj,seval,FJ];exact fun hk=>h H8 (.sl b8 0 l7.length l7.length true) l7 hk hc (.inr ⟨b8,rfl,by omega,hO8⟩) p7 s7
def IN(fs bs:List (List Id))(r spot:Int)(i:Nat):List Hd:=if aH (nB i) (nA i) r=spot then ba (nB i) (nA i) spot (8*i) (mF fs bs (nB i) (nA i)) else[]
def amT(fs bs:List (List Id))(r spot:Int):List Hd:=(List.range 80).flatMap (IN fs bs r spot)
def bU(fs bs:List (List Id))(r:Int):List Hd:=(List.range 95).flatMap fun(s:Nat)=>amT fs bs r (-12+2*(s:Int))
def anv(tm:List IV)(h:tm.length=47):=(ch tm 47 h).trans (by simp only[List.range,List.range.loop,bB,bc];exact rfl)
theorem stackH_mem{bed at_ spot:Int}{k0:Nat}{st:List Id}{x:Hd}:x∈ba bed at_ spot k0 st↔∃j,∃h:j < st.length,x=⟨st[j],bed,at_,spot,k0+j⟩:=by
 constructor
 ·intro h;obtain⟨j,hj,rfl⟩:=List.mem_iff_getElem.1 h;rw[eY] at hj;exact⟨j,hj,by simp[ba]⟩
 ·rintro⟨j,hj,rfl⟩
  exact List.mem_iff_getElem.2 ⟨j,by rw[eY];exact hj,by simp[ba]⟩
theorem mY{α:Type}{R:α→α→Prop}(f:Nat→List α)(n:Nat)(h1:∀i,(f i).Pairwise R)(h2:∀i j,i < j→∀x∈f i,∀y∈f j,R x y):((List.range n).flatMap f).Pairwise R:=by
 induction n with
 | zero=>simp
 | succ n ih=>
   rw[zL,List.pairwise_append];refine⟨ih,h1 n,fun x hx y hy=>?_⟩;obtain⟨i,hi,hx⟩:=List.mem_flatMap.1 hx;exact h2 i n (List.mem_range.1 hi) x hx y hy
theorem cellL_mem{fs bs:List (List Id)}{r spot:Int}{i:Nat}{x:Hd}:x∈IN fs bs r spot i↔aH (nB i) (nA i) r=spot∧x∈ba (nB i) (nA i) spot (8*i) (mF fs bs (nB i) (nA i)):=by
 unfold IN;split
 ·rename_i h;exact⟨fun hx=>⟨h,hx⟩,fun hx=>hx.2⟩
 ·rename_i h;exact⟨fun hx=>by simp at hx,fun hx=>absurd hx.1 h⟩
theorem mP{bed at_ spot:Int}{k0:Nat}{st:List Id}{x:Hd}(h:x∈ba bed at_ spot k0 st):x.spot=spot:=by
 obtain⟨j,hj,rfl⟩:=stackH_mem.1 h;rfl
theorem MX(bed at_ spot:Int)(k0:Nat)(st:List Id):(ba bed at_ spot k0 st).Pairwise cF:=by
 rw[Ar];intro i j h1 h2 h3;simp[ba,cF];omega
theorem Ai{fs bs:List (List Id)}{r spot:Int}{x:Hd}(h:x∈amT fs bs r spot):x.spot=spot:=by
 obtain⟨i,_,hx⟩:=List.mem_flatMap.1 h;exact mP (cellL_mem.1 hx).2
theorem yA{fs bs:List (List Id)}(h4:∀x∈fs,x.length≤4)(h4':∀x∈bs,x.length≤4)(r:Int):(bU fs bs r).Pairwise cF:=by
 refine mY _ 95 (fun s=>mY _ 80 (fun i=>?_) fun i j hij x hx y hy=>?_) fun s t hst x hx y hy=>?_
 ·unfold IN;split
  ·exact MX _ _ _ _ _
  ·exact List.Pairwise.nil
 ·have hx:=(cellL_mem.1 hx).2;have hy:=(cellL_mem.1 hy).2;have a1:=mQ hx;have a2:=mQ hy
  have:=jt fs bs (nB i) (nA i) 4 h4 h4'
  have b1:=mP hx;have b2:=mP hy;unfold cF;omega
 ·have b1:=Ai hx;have b2:=Ai hy;unfold cF;omega
theorem Fd{bed r:Int}{fs:List (List Id)}{x:Hd}:x∈(im bed r fs).flatten↔∃i,∃h:i < fs.length,x∈ba bed ((i:Int)+1) (aH bed ((i:Int)+1) r) (kH bed i) fs[i]:=by
 constructor
 ·intro h;obtain⟨s,hs,hx⟩:=List.mem_flatten.1 h;obtain⟨i,hi,rfl⟩:=List.mem_iff_getElem.1 hs;rw[cz] at hi;exact⟨i,hi,by simpa [im] using hx⟩
 ·rintro⟨i,hi,hx⟩
  exact List.mem_flatten.2 ⟨_,List.mem_iff_getElem.2 ⟨i,by rw[cz];exact hi,rfl⟩,by simpa [im] using hx⟩
theorem CY(fs bs:List (List Id))(i:Nat)(hi:i < 80):mF fs bs (nB i) (nA i)=(if i < 40 then fs else bs).getD (i%40) []:=by
 unfold mF;rw[if_pos (Ei i),←ij];have e:(nA i - 1).toNat=i%40:=by unfold nA;omega
 rw[e];by_cases h:i < 40
 ·rw[if_pos h,if_neg (by unfold nB;omega)]
 ·rw[if_neg h,if_pos (by unfold nB;omega)]
theorem BQ{i:Nat}(hi:i < 80){r:Int}(hr:eQ r=true):aH (nB i) (nA i) r=if i < 40 then 4*(i:Int)+6 else 4*((i:Int) - 39+r):=by
 unfold aH;rw[if_pos ⟨Ei i,hr⟩];by_cases h:i < 40
 ·rw[if_pos h,if_pos (by unfold nB;omega)];unfold nA;omega
 ·rw[if_neg h,if_neg (by unfold nB;omega)];unfold nA;omega
theorem N1{fs bs:List (List Id)}{r:Int}(h1:fs.length≤40)(h2:bs.length≤40){x:Hd}:x∈pF fs bs r↔∃i,i < 80∧x∈ba (nB i) (nA i) (aH (nB i) (nA i) r) (8*i) (mF fs bs (nB i) (nA i)):=by
 unfold pF;rw[mV,Fd,Fd]
 constructor
 ·rintro(⟨i,hi,hx⟩ | ⟨i,hi,hx⟩)
  ·refine⟨i,by omega,?_⟩
   rw[CY fs bs i (by omega),if_pos (by omega),show i%40=i from by omega,bG hi];rw[show nB i=0 from by unfold nB;omega,show nA i=(i:Int)+1 from by unfold nA;omega];rw[show kH 0 i=8*i from by unfold kH;simp] at hx;exact hx
  ·refine⟨40+i,by omega,?_⟩
   rw[CY fs bs (40+i) (by omega),if_neg (by omega),show(40+i)%40=i from by omega,bG hi];rw[show nB (40+i)=1 from by unfold nB;omega,show nA (40+i)=(i:Int)+1 from by unfold nA;omega];rw[show kH 1 i=8*(40+i) from by unfold kH;simp] at hx;exact hx
 ·rintro⟨i,hi,hx⟩
  rw[CY fs bs i hi] at hx;by_cases h:i < 40
  ·rw[if_pos h,show i%40=i from by omega] at hx;rw[show nB i=0 from by unfold nB;omega,show nA i=(i:Int)+1 from by unfold nA;omega] at hx
   have hlt:i < fs.length:=by
    obtain⟨j,hj,_⟩:=stackH_mem.1 hx;exact Nat.lt_of_not_le fun hle=>by rw[iZ hle] at hj;simp at hj
   rw[bG hlt] at hx;exact .inl ⟨i,hlt,by rw[show kH 0 i=8*i from by unfold kH;simp];exact hx⟩
  ·rw[if_neg h] at hx;obtain⟨q,rfl⟩:∃q,i=40+q:=⟨i - 40,by omega⟩;rw[show(40+q)%40=q from by omega] at hx;rw[show nB (40+q)=1 from by unfold nB;omega,show nA (40+q)=(q:Int)+1 from by unfold nA;omega] at hx
   have hlt:q < bs.length:=by
    obtain⟨j,hj,_⟩:=stackH_mem.1 hx;exact Nat.lt_of_not_le fun hle=>by rw[iZ hle] at hj;simp at hj
   rw[bG hlt] at hx;exact .inr ⟨q,hlt,by rw[show kH 1 q=8*(40+q) from by unfold kH;simp];exact hx⟩
theorem uB{fs bs:List (List Id)}{r:Int}(hr:eQ r=true){x:Hd}:x∈bU fs bs r↔∃i,i < 80∧x∈ba (nB i) (nA i) (aH (nB i) (nA i) r) (8*i) (mF fs bs (nB i) (nA i)):=by
 have hr':=rackB_iff.1 hr;unfold bU amT
 constructor
 ·intro h;obtain⟨s,hs,h⟩:=List.mem_flatMap.1 h;obtain⟨i,hi,h⟩:=List.mem_flatMap.1 h;obtain⟨h1,h2⟩:=cellL_mem.1 h;exact⟨i,List.mem_range.1 hi,by rw[h1];exact h2⟩
 ·rintro⟨i,hi,h⟩
  have hs:=BQ hi hr
  obtain⟨s,hs1,hs2⟩:∃s:Nat,s < 95∧aH (nB i) (nA i) r= -12+2*(s:Int):=by
   by_cases h:i < 40
   ·rw[if_pos h] at hs;exact⟨2*i+9,by omega,by omega⟩
   ·rw[if_neg h] at hs;exact⟨(2*((i:Int) - 39+r)+6).toNat,by omega,by omega⟩
  refine List.mem_flatMap.2 ⟨s,List.mem_range.2 hs1,List.mem_flatMap.2 ⟨i,List.mem_range.2 hi,cellL_mem.2 ⟨hs2,?_⟩⟩⟩;rw[←hs2];exact h
theorem rH{fs bs:List (List Id)}{r:Int}(hc:aY fs bs=0)(hr:eQ r=true){l:List Hd}(hp:l.Perm (pF fs bs r))(hs:l.Pairwise cF):l=bU fs bs r:=by
 obtain⟨c1,c2,c3,c4,_⟩:=jv hc;refine ud adQ kL hs (yA c3 c4 r) fun x=>?_;rw[hp.mem_iff,N1 c1 c2,uB hr]
end Go.Iso.Gen
end
section
namespace Go.Iso
theorem Tabs.keep'{ts:List (List Int)}{H H':Heap}(h:Tabs ts H)(k:Keep H.n H H'):Tabs ts H':=h.keep k.1 fun i hi=>k.2 i (by have:=h.1;omega) (by have:=h.1;omega)
end Go.Iso
namespace Go.Iso.Gen
open Go.Iso
def auE(tm:List IV)(h:tm.length=69):=(ch tm 69 h).trans (by simp only[List.range,List.range.loop,bB,bc];exact rfl)
structure Cr where
 a:Id
 b:Id
 s:Int
 deriving Inhabited,DecidableEq
instance:Cell Cr where
 z:=5
 cs c:=[.int .u8 c.a.y,.int .i64 c.a.n,.int .u8 c.b.y,.int .i64 c.b.n,.int .i64 c.s]
 len _:=rfl
 one _:=rfl
 pos:=by omega
theorem apU(c:Cr):Cell.cs c=[.int .u8 c.a.y,.int .i64 c.a.n,.int .u8 c.b.y,.int .i64 c.b.n,.int .i64 c.s]:=rfl
theorem amw:Cell.z Cr=5:=rfl
structure Ps where
 id:Id
 front:Bool
 dir:Int
 deriving Inhabited,DecidableEq
instance:Cell Ps where
 z:=4
 cs p:=[.int .u8 p.id.y,.int .i64 p.id.n,.bool p.front,.int .u8 p.dir]
 len _:=rfl
 one _:=rfl
 pos:=by omega
theorem zc(p:Ps):Cell.cs p=[.int .u8 p.id.y,.int .i64 p.id.n,.bool p.front,.int .u8 p.dir]:=rfl
theorem mH:Cell.z Ps=4:=rfl
theorem uI{v:SV}{l:List Cr}{H:Heap}{lo:Nat}{Q:Out→Heap→Prop}(hv:Sl H v l)(hl:l.length≤1000000)(hlo:lo≤H.n)
  (h:∀H' b,Keep H.n H H'→H.n≤b→Own H' b 248 l.length l→Q (.val (SV.sl b 0 l.length l.length true).iv) H'):W E0 lo (.call 199 [v.iv]) H Q:=by
 refine W.pure bu hlo ?_;rw[au3];obtain⟨H2,e1,e2,e3,e4⟩:=fi hv (z:=5) rfl 248 H.n [IV.int .u8 0,.int .i64 0,.int .u8 0,.int .i64 0,.int .i64 0] rfl (au _);simp(disch:=omega) only[ak,↓aj,seval,awi,↓hv.ln,↓e1,Int.reducePow];exact fun hk=>h _ _ hk (au _) e4
theorem kg{v:SV}{l:List Ps}{H:Heap}{lo:Nat}{Q:Out→Heap→Prop}(hv:Sl H v l)(hl:l.length≤1000000)(hlo:lo≤H.n)
  (h:∀H' b,Keep H.n H H'→H.n≤b→Own H' b 196 l.length l→Q (.val (SV.sl b 0 l.length l.length true).iv) H'):W E0 lo (.call 194 [v.iv]) H Q:=by
 refine W.pure bu hlo ?_;rw[au6];obtain⟨H2,e1,e2,e3,e4⟩:=fi hv (z:=4) rfl 196 H.n [IV.int .u8 0,.int .i64 0,.bool false,.int .u8 0] rfl (au _);simp(disch:=omega) only[ak,↓aj,seval,awk,↓hv.ln,↓e1,Int.reducePow];exact fun hk=>h _ _ hk (au _) e4
def GU(tm:List IV)(h:tm.length=28):=(ch tm 28 h).trans (by simp only[List.range,List.range.loop,bB,bc];exact rfl)
theorem PX{blk e cap:Nat}{ex:Bool}{l:List Id}{H:Heap}{lo:Nat}{Q:Out→Heap→Prop}(hO:Own H blk e cap l)(hlo:lo≤blk)(hl:l.length≤1000000)
  (h:∀H',KeepX blk H H'→Own H' blk e cap l.reverse→Q (.val (.tuple [])) H'):W E0 lo (.call 197 [(SV.sl blk 0 l.length cap ex).iv]) H Q:=by
 rw[ap0];have hv:=hO.sl ex;have hln:=hv.ln;simp(disch:=omega) only[ak,↓aj,seval,ao3,↓hln];refine aO (fun k fr H'=>∃(i:Nat) (l':List Id),i+k=l.length∧KeepX blk H H'∧Own H' blk e cap l'∧l'.length=l.length∧(∀x,x < l.length→aG l' x=if x < i∨l.length - i≤x then aG l (l.length - 1 - x) else aG l x)∧fr.marks=[]∧fr.tm.length=28∧fr.tm.getD 0 IV.undef=(SV.sl blk 0 l.length cap ex).iv∧fr.tm.getD 2 IV.undef=.int .i64 i∧fr.tm.getD 3 IV.undef=.int .i64 ((l.length:Int) - 1 - (i:Int))) ?_ l.length ⟨0,l,by omega,KeepX.refl _ _,hO,rfl,fun x hx=>by rw[if_neg (by omega)],rfl,rfl,rfl,rfl,by show IV.int _ _=_;congr 1;omega⟩;clear hO hv hln;rintro k ⟨tm,mk⟩ H' ⟨i,l',hik,hk,hO,hll,hf,rfl,htm,t0,t2,t3⟩ L hN hJ;rw[GU tm htm,t0,t2,t3,←hll];by_cases hi:(i:Int) < (l.length:Int) - 1 - (i:Int)
 ·have hidx:=Cu hO ex 2;have ej:(l'.length:Int) - 1 - (i:Int)=((l'.length - 1 - i:Nat):Int):=by omega
  obtain⟨o1,o2,w1,w2,s2⟩:=jF hO (z:=2) rfl (i:=i) (j:=l'.length - 1 - i) (by omega) (by omega) lo hlo;have r1:=hO.nthRead (z:=2) rfl (i:=i) (by omega);have r2:=hO.nthRead (z:=2) rfl (i:=l'.length - 1 - i) (by omega);rw[ej];simp(disch:=omega) only[ak,↓aj,seval,acN,↓hidx,r1,r2,↓w1,↓w2];refine hN (k - 1) _ _ (by omega) ⟨i+1,gJ l' i (l'.length - 1 - i),by omega,(hk.trans (KeepX.put _)).trans (KeepX.put _),s2,by rw[jm,hll],fun x hx=>?_,rfl,rfl,by rw[hll];rfl,rfl,?_⟩
  ·rw[gV (by omega) (by omega)];by_cases c1:x=l'.length - 1 - i
   ·rw[if_pos c1,hf i (by omega),if_neg (by omega),if_pos (by omega)];congr 1;omega
   ·rw[if_neg c1];by_cases c2:x=i
    ·rw[if_pos c2,hf _ (by omega),if_neg (by omega),if_pos (by omega)];congr 1;omega
    ·rw[if_neg c2,hf x hx];by_cases c3:x < i∨l.length - i≤x
     ·rw[if_pos c3,if_pos (by omega)]
     ·rw[if_neg c3,if_neg (by omega)]
  ·show IV.int _ _=_
   congr 1;omega
 ·rw[hll];simp(disch:=omega) only[ak,↓aj,seval,acN,hJ]
  have:l'=l.reverse:=by
   apply xP
   ·rw[j3,hll]
   ·intro x h1 h2
    have:=hf x (by omega)
    rw[fU h1] at this;rw[this,Gc,←fU];by_cases c3:x < i∨l.length - i≤x
    ·rw[if_pos c3]
    ·rw[if_neg c3];congr 1;omega
  subst this;exact h H' hk hO
theorem BX{H:Heap}{lo:Nat}{Q:Out→Heap→Prop}(h:Q (.val (.tuple [])) H):W E0 lo (.call 197 [.nilSlice]) H Q:=by
 rw[ap0];simp(disch:=omega) only[ak,↓aj,seval,ao3];rw[iL];simp(disch:=omega) only[ak,↓aj,seval,acN];exact h
theorem BW{n0 e:Nat}{v:SV}{l:List Id}{H:Heap}{lo:Nat}{Q:Out→Heap→Prop}(hO:OwnS n0 H e v l)(hlo:lo≤n0)(hl:l.length≤1000000)
  (h:∀H',Keep n0 H H'→OwnS n0 H' e v l.reverse→Q (.val (.tuple [])) H'):W E0 lo (.call 197 [v.iv]) H Q:=by
 rcases hO with⟨rfl,rfl⟩ | ⟨b,cap,ex,rfl,h1,h2⟩
 ·exact BX (h H (Keep.refl _ _) (.inl ⟨rfl,rfl⟩))
 ·exact PX h2 (by omega) hl fun H' k o=>h H' ⟨k.1,fun x h3 h4=>k.2 x h4 (by omega)⟩ (.inr ⟨b,cap,ex,by rw[j3],h1,o⟩)
theorem PY{blk e cap:Nat}{ex:Bool}{l:List Cr}{H:Heap}{lo:Nat}{Q:Out→Heap→Prop}(hO:Own H blk e cap l)(hlo:lo≤blk)(hl:l.length≤1000000)
  (h:∀H',KeepX blk H H'→Own H' blk e cap l.reverse→Q (.val (.tuple [])) H'):W E0 lo (.call 198 [(SV.sl blk 0 l.length cap ex).iv]) H Q:=by
 rw[apZ];have hv:=hO.sl ex;have hln:=hv.ln;simp(disch:=omega) only[ak,↓aj,seval,ao2,↓hln];refine aO (fun k fr H'=>∃(i:Nat) (l':List Cr),i+k=l.length∧KeepX blk H H'∧Own H' blk e cap l'∧l'.length=l.length∧(∀x,x < l.length→aG l' x=if x < i∨l.length - i≤x then aG l (l.length - 1 - x) else aG l x)∧fr.marks=[]∧fr.tm.length=28∧fr.tm.getD 0 IV.undef=(SV.sl blk 0 l.length cap ex).iv∧fr.tm.getD 2 IV.undef=.int .i64 i∧fr.tm.getD 3 IV.undef=.int .i64 ((l.length:Int) - 1 - (i:Int))) ?_ l.length ⟨0,l,by omega,KeepX.refl _ _,hO,rfl,fun x hx=>by rw[if_neg (by omega)],rfl,rfl,rfl,rfl,by show IV.int _ _=_;congr 1;omega⟩;clear hO hv hln;rintro k ⟨tm,mk⟩ H' ⟨i,l',hik,hk,hO,hll,hf,rfl,htm,t0,t2,t3⟩ L hN hJ;rw[GU tm htm,t0,t2,t3,←hll];by_cases hi:(i:Int) < (l.length:Int) - 1 - (i:Int)
 ·have hidx:=Cu hO ex 5;have ej:(l'.length:Int) - 1 - (i:Int)=((l'.length - 1 - i:Nat):Int):=by omega
  obtain⟨o1,o2,w1,w2,s2⟩:=jF hO (z:=5) rfl (i:=i) (j:=l'.length - 1 - i) (by omega) (by omega) lo hlo;have r1:=hO.nthRead (z:=5) rfl (i:=i) (by omega);have r2:=hO.nthRead (z:=5) rfl (i:=l'.length - 1 - i) (by omega);rw[ej];simp(disch:=omega) only[ak,↓aj,seval,acM,↓hidx,r1,r2,↓w1,↓w2];refine hN (k - 1) _ _ (by omega) ⟨i+1,gJ l' i (l'.length - 1 - i),by omega,(hk.trans (KeepX.put _)).trans (KeepX.put _),s2,by rw[jm,hll],fun x hx=>?_,rfl,rfl,by rw[hll];rfl,rfl,?_⟩
  ·rw[gV (by omega) (by omega)];by_cases c1:x=l'.length - 1 - i
   ·rw[if_pos c1,hf i (by omega),if_neg (by omega),if_pos (by omega)];congr 1;omega
   ·rw[if_neg c1];by_cases c2:x=i
    ·rw[if_pos c2,hf _ (by omega),if_neg (by omega),if_pos (by omega)];congr 1;omega
    ·rw[if_neg c2,hf x hx];by_cases c3:x < i∨l.length - i≤x
     ·rw[if_pos c3,if_pos (by omega)]
     ·rw[if_neg c3,if_neg (by omega)]
  ·show IV.int _ _=_
   congr 1;omega
 ·rw[hll];simp(disch:=omega) only[ak,↓aj,seval,acM,hJ]
  have:l'=l.reverse:=by
   apply xP
   ·rw[j3,hll]
   ·intro x h1 h2
    have:=hf x (by omega)
    rw[fU h1] at this;rw[this,Gc,←fU];by_cases c3:x < i∨l.length - i≤x
    ·rw[if_pos c3]
    ·rw[if_neg c3];congr 1;omega
  subst this;exact h H' hk hO
theorem BZ{H:Heap}{lo:Nat}{Q:Out→Heap→Prop}(h:Q (.val (.tuple [])) H):W E0 lo (.call 198 [.nilSlice]) H Q:=by
 rw[apZ];simp(disch:=omega) only[ak,↓aj,seval,ao2];rw[iL];simp(disch:=omega) only[ak,↓aj,seval,acM];exact h
theorem BY{n0 e:Nat}{v:SV}{l:List Cr}{H:Heap}{lo:Nat}{Q:Out→Heap→Prop}(hO:OwnS n0 H e v l)(hlo:lo≤n0)(hl:l.length≤1000000)
  (h:∀H',Keep n0 H H'→OwnS n0 H' e v l.reverse→Q (.val (.tuple [])) H'):W E0 lo (.call 198 [v.iv]) H Q:=by
 rcases hO with⟨rfl,rfl⟩ | ⟨b,cap,ex,rfl,h1,h2⟩
 ·exact BZ (h H (Keep.refl _ _) (.inl ⟨rfl,rfl⟩))
 ·exact PY h2 (by omega) hl fun H' k o=>h H' ⟨k.1,fun x h3 h4=>k.2 x h4 (by omega)⟩ (.inr ⟨b,cap,ex,by rw[j3],h1,o⟩)
theorem PW{blk e cap:Nat}{ex:Bool}{l:List Ps}{H:Heap}{lo:Nat}{Q:Out→Heap→Prop}(hO:Own H blk e cap l)(hlo:lo≤blk)(hl:l.length≤1000000)
  (h:∀H',KeepX blk H H'→Own H' blk e cap l.reverse→Q (.val (.tuple [])) H'):W E0 lo (.call 193 [(SV.sl blk 0 l.length cap ex).iv]) H Q:=by
 rw[ap1];have hv:=hO.sl ex;have hln:=hv.ln;simp(disch:=omega) only[ak,↓aj,seval,ao4,↓hln];refine aO (fun k fr H'=>∃(i:Nat) (l':List Ps),i+k=l.length∧KeepX blk H H'∧Own H' blk e cap l'∧l'.length=l.length∧(∀x,x < l.length→aG l' x=if x < i∨l.length - i≤x then aG l (l.length - 1 - x) else aG l x)∧fr.marks=[]∧fr.tm.length=28∧fr.tm.getD 0 IV.undef=(SV.sl blk 0 l.length cap ex).iv∧fr.tm.getD 2 IV.undef=.int .i64 i∧fr.tm.getD 3 IV.undef=.int .i64 ((l.length:Int) - 1 - (i:Int))) ?_ l.length ⟨0,l,by omega,KeepX.refl _ _,hO,rfl,fun x hx=>by rw[if_neg (by omega)],rfl,rfl,rfl,rfl,by show IV.int _ _=_;congr 1;omega⟩;clear hO hv hln;rintro k ⟨tm,mk⟩ H' ⟨i,l',hik,hk,hO,hll,hf,rfl,htm,t0,t2,t3⟩ L hN hJ;rw[GU tm htm,t0,t2,t3,←hll];by_cases hi:(i:Int) < (l.length:Int) - 1 - (i:Int)
 ·have hidx:=Cu hO ex 4;have ej:(l'.length:Int) - 1 - (i:Int)=((l'.length - 1 - i:Nat):Int):=by omega
  obtain⟨o1,o2,w1,w2,s2⟩:=jF hO (z:=4) rfl (i:=i) (j:=l'.length - 1 - i) (by omega) (by omega) lo hlo;have r1:=hO.nthRead (z:=4) rfl (i:=i) (by omega);have r2:=hO.nthRead (z:=4) rfl (i:=l'.length - 1 - i) (by omega);rw[ej];simp(disch:=omega) only[ak,↓aj,seval,acO,↓hidx,r1,r2,↓w1,↓w2];refine hN (k - 1) _ _ (by omega) ⟨i+1,gJ l' i (l'.length - 1 - i),by omega,(hk.trans (KeepX.put _)).trans (KeepX.put _),s2,by rw[jm,hll],fun x hx=>?_,rfl,rfl,by rw[hll];rfl,rfl,?_⟩
  ·rw[gV (by omega) (by omega)];by_cases c1:x=l'.length - 1 - i
   ·rw[if_pos c1,hf i (by omega),if_neg (by omega),if_pos (by omega)];congr 1;omega
   ·rw[if_neg c1];by_cases c2:x=i
    ·rw[if_pos c2,hf _ (by omega),if_neg (by omega),if_pos (by omega)];congr 1;omega
    ·rw[if_neg c2,hf x hx];by_cases c3:x < i∨l.length - i≤x
     ·rw[if_pos c3,if_pos (by omega)]
     ·rw[if_neg c3,if_neg (by omega)]
  ·show IV.int _ _=_
   congr 1;omega
 ·rw[hll];simp(disch:=omega) only[ak,↓aj,seval,acO,hJ]
  have:l'=l.reverse:=by
   apply xP
   ·rw[j3,hll]
   ·intro x h1 h2
    have:=hf x (by omega)
    rw[fU h1] at this;rw[this,Gc,←fU];by_cases c3:x < i∨l.length - i≤x
    ·rw[if_pos c3]
    ·rw[if_neg c3];congr 1;omega
  subst this;exact h H' hk hO
theorem BV{H:Heap}{lo:Nat}{Q:Out→Heap→Prop}(h:Q (.val (.tuple [])) H):W E0 lo (.call 193 [.nilSlice]) H Q:=by
 rw[ap1];simp(disch:=omega) only[ak,↓aj,seval,ao4];rw[iL];simp(disch:=omega) only[ak,↓aj,seval,acO];exact h
theorem rf{n0 e:Nat}{v:SV}{l:List Ps}{H:Heap}{lo:Nat}{Q:Out→Heap→Prop}(hO:OwnS n0 H e v l)(hlo:lo≤n0)(hl:l.length≤1000000)
  (h:∀H',Keep n0 H H'→OwnS n0 H' e v l.reverse→Q (.val (.tuple [])) H'):W E0 lo (.call 193 [v.iv]) H Q:=by
 rcases hO with⟨rfl,rfl⟩ | ⟨b,cap,ex,rfl,h1,h2⟩
 ·exact BV (h H (Keep.refl _ _) (.inl ⟨rfl,rfl⟩))
 ·exact PW h2 (by omega) hl fun H' k o=>h H' ⟨k.1,fun x h3 h4=>k.2 x h4 (by omega)⟩ (.inr ⟨b,cap,ex,by rw[j3],h1,o⟩)
theorem afL{H:Heap}(h:Tabs tabs H):H.get 0=some (.cells true 0 0 [.int .i64 (-1),.int .i64 1]):=h.2 0 (Nat.zero_lt_one)
def mO(d:Int):Int:=if d=0 then -1 else 1
def jg(fs bs:List (List Id))(r d:Int):Int:=if bM fs bs r≠0 then bM fs bs r else if d≠0∧d≠1 then 1 else if eQ (r+mO d)=true then 0 else 11
theorem sH{f b:SV}{fs bs:List (List Id)}(r d:Int){H:Heap}{lo:Nat}{Q:Out→Heap→Prop}(ht:Tabs tabs H)(hf:Sl2 H f fs)(hb:Sl2 H b bs)(hlf:fs.length≤1000000)(hlb:bs.length≤1000000)(hl:∀l∈fs,l.length≤1000000)(hl':∀l∈bs,l.length≤1000000)(hlo:lo≤H.n)(hd:0≤d∧d≤255)
  (h:∀H',Keep H.n H H'→Q (.val (.int .i64 (jg fs bs r d))) H'):W E0 lo (.call 192 [bv f b,.int .i64 r,.int .u8 d]) H Q:=by
 refine gS _ hlo h fun R hR=>?_;clear h;rw[au7];simp(disch:=omega) only[ak,↓aj,seval,Do,bv];generalize hH_H1:Heap.new _ _=H1;have hnH1:H1.n=H.n+1:=by rw[←hH_H1];rfl
 have g0:=congrArg (fun h0=>Heap.get h0 (H.n)) hH_H1.symm;simp(disch:=omega) only[ak,↓aj,seval] at g0
 have kH1:Keep H.n H H1:=⟨by omega,fun x hx _=>by
  have gx:=congrArg (fun h0=>Heap.get h0 x) hH_H1.symm;simp(disch:=omega) only[ak,↓aj,seval] at gx;exact gx⟩
 clear hH_H1;rw[show IV.agg [f.iv,b.iv]=bv f b from rfl];refine Az r (hf.keep kH1) (hb.keep kH1) hlf hlb hl hl' (by omega) fun H2 k2=>?_;have hn2:=k2.1;have ht2:=(ht.keep' kH1).keep' k2;have gt:=afL ht2;have rt:=af gt;unfold jg at hR;by_cases hc:bM fs bs r=0
 case neg=>
  have e0:(bM fs bs r !=0)=true:=by simp[hc]
  rw[if_pos hc] at hR;simp(disch:=omega) only[ak,↓aj,seval,Do,e0];exact hR _
 rw[if_neg (by simp[hc])] at hR;by_cases hd0:d=0
 ·subst hd0
  have hr0: -4≤r∧r≤4:=by
   unfold bM at hc;split at hc
   ·contradiction
   ·split at hc
    ·rename_i h;exact rackB_iff.1 h
    ·omega
  rw[if_neg (by omega),show mO 0= -1 from rfl] at hR;simp(disch:=omega) only[ak,↓aj,seval,Do,hc,g0E,rt];refine pS _ ?_;by_cases hr:eQ (r+ -1)=true
  ·rw[if_pos hr] at hR;simp(disch:=omega) only[ak,↓aj,seval,Do,hr];exact hR _
  ·rw[if_neg hr] at hR;rw[Aj] at hr;simp(disch:=omega) only[ak,↓aj,seval,Do,hr];exact hR _
 ·by_cases hd1:d=1
  ·subst hd1
   have hr0: -4≤r∧r≤4:=by
    unfold bM at hc;split at hc
    ·contradiction
    ·split at hc
     ·rename_i h;exact rackB_iff.1 h
     ·omega
   rw[if_neg (by omega),show mO 1=1 from rfl] at hR;simp(disch:=omega) only[ak,↓aj,seval,Do,hc,g0E,rt];refine pS _ ?_;by_cases hr:eQ (r+1)=true
   ·rw[if_pos hr] at hR;simp(disch:=omega) only[ak,↓aj,seval,Do,hr];exact hR _
   ·rw[if_neg hr] at hR;rw[Aj] at hr;simp(disch:=omega) only[ak,↓aj,seval,Do,hr];exact hR _
  ·have b0:(d !=0)=true:=by simp[hd0]
   have b1:(d !=1)=true:=by simp[hd1]
   rw[if_pos ⟨hd0,hd1⟩] at hR;simp(disch:=omega) only[ak,↓aj,seval,Do,hc,b0,b1];exact hR _
def IJ(d:Int)(id other:Id):Cr:=if d=0 then⟨other,id,1⟩ else⟨id,other, -1⟩
def pX(tm:List IV)(h:tm.length=82):=(ch tm 82 h).trans (by simp only[List.range,List.range.loop,bB,bc];exact rfl)
theorem ade{n0 ib:Nat}{d:Int}{id:Id}{w v:SV}{fr:List Id}{acc:List Cr}{y1 y3 y6 y7 y10 y11 y26 y27 y28 y47 y48 y49:IV}{H:Heap}{lo:Nat}{Q:Out→Heap→Prop}{tm:List IV}(hlo:lo≤n0)(hn0:n0≤H.n)(hw:OwnS n0 H 138 w fr)(hfr:fr.length≤4)(hacc:acc.length≤100000)
  (hG:Gr n0 H 248 v acc) (gi:H.get ib=some (.cells false 138 2 [.int .u8 id.y,.int .i64 id.n])) (hib:ib < H.n) (hd:d=0∨d=1)
  (htm:tm.length=82) (t1:tm.getD 1 IV.undef=y1) (t2:tm.getD 2 IV.undef=.int .u8 d) (t3:tm.getD 3 IV.undef=y3) (t6:tm.getD 6 IV.undef=y6) (t7:tm.getD 7 IV.undef=y7) (t9:tm.getD 9 IV.undef=v.iv) (t10:tm.getD 10 IV.undef=y10) (t11:tm.getD 11 IV.undef=y11) (t13:tm.getD 13 IV.undef=w.iv) (t15:tm.getD 15 IV.undef=.ptr ib 0) (t26:tm.getD 26 IV.undef=y26) (t27:tm.getD 27 IV.undef=y27) (t28:tm.getD 28 IV.undef=y28) (t47:tm.getD 47 IV.undef=y47) (t48:tm.getD 48 IV.undef=y48) (t49:tm.getD 49 IV.undef=y49)
  (t53:tm.getD 53 IV.undef=w.iv) (t54:tm.getD 54 IV.undef=.int .i64 fr.length) (t55:tm.getD 55 IV.undef=.int .i64 0)
  (hQ:∀H' v' tm',KeepG n0 248 5 H H'→Gr n0 H' 248 v' (acc++fr.map (IJ d id))→tm'.length=82→tm'.getD 1 IV.undef=y1→tm'.getD 2 IV.undef=.int .u8 d→tm'.getD 3 IV.undef=y3→tm'.getD 6 IV.undef=y6→tm'.getD 7 IV.undef=y7→tm'.getD 9 IV.undef=v'.iv→tm'.getD 10 IV.undef=y10→tm'.getD 11 IV.undef=y11→tm'.getD 13 IV.undef=w.iv→tm'.getD 26 IV.undef=y26→tm'.getD 27 IV.undef=y27→tm'.getD 28 IV.undef=y28→tm'.getD 47 IV.undef=y47→tm'.getD 48 IV.undef=y48→tm'.getD 49 IV.undef=y49→Q (.ex (.jmp (.exit 4)) ⟨tm',[]⟩) H'):
  W E0 lo (.code (.loop ii) none ⟨tm,[]⟩) H Q:=by
 refine aO (fun k fm H'=>∃j v',j+k=fr.length∧KeepG n0 248 5 H H'∧Gr n0 H' 248 v' (acc++(fr.take j).map (IJ d id))∧fm.marks=[]∧fm.tm.length=82∧fm.tm.getD 1 IV.undef=y1∧fm.tm.getD 2 IV.undef=.int .u8 d∧fm.tm.getD 3 IV.undef=y3∧fm.tm.getD 6 IV.undef=y6∧fm.tm.getD 7 IV.undef=y7∧fm.tm.getD 9 IV.undef=v'.iv∧fm.tm.getD 10 IV.undef=y10∧fm.tm.getD 11 IV.undef=y11∧fm.tm.getD 13 IV.undef=w.iv∧fm.tm.getD 15 IV.undef=.ptr ib 0∧fm.tm.getD 26 IV.undef=y26∧fm.tm.getD 27 IV.undef=y27∧fm.tm.getD 28 IV.undef=y28∧fm.tm.getD 47 IV.undef=y47∧fm.tm.getD 48 IV.undef=y48∧fm.tm.getD 49 IV.undef=y49∧fm.tm.getD 53 IV.undef=w.iv∧fm.tm.getD 54 IV.undef=.int .i64 fr.length∧fm.tm.getD 55 IV.undef=.int .i64 j) ?_ fr.length ⟨0,v,by omega,KeepG.refl _ _ _ _,by simpa using hG,rfl,htm,t1,t2,t3,t6,t7,t9,t10,t11,t13,t15,t26,t27,t28,t47,t48,t49,t53,t54,t55⟩;clear htm t1 t2 t3 t6 t7 t9 t10 t11 t13 t15 t26 t27 t28 t47 t48 t49 t53 t54 t55 hG;rintro k ⟨tm,mk⟩ H' ⟨j,v',hjk,hk,hG,rfl,htm,t1,t2,t3,t6,t7,t9,t10,t11,t13,t15,t26,t27,t28,t47,t48,t49,t53,t54,t55⟩ L hN hJ;have hn:=hk.1;have hw':=(hw.keepG hk (by decide)).sl;rw[pX tm htm,t1,t2,t3,t6,t7,t9,t10,t11,t13,t15,t26,t27,t28,t47,t48,t49,t53,t54,t55];by_cases hj:j < fr.length
 ·have r1:=hw'.read kT j hj;have gi':=hk.get hib gi (fun cs e=>by injection e with _ e;cases e);have hlen:(acc++(fr.take j).map (IJ d id)).length≤100004:=by rw[aW,mD,eR];omega
  have hk1:KeepG n0 248 5 H' ((H'.new (.cells false 138 2 [.int .u8 0,.int .i64 0])).put H'.n (.cells false 138 2 [.int .u8 fr[j].y,.int .i64 fr[j].n])):=KeepG.of Keep.newPut;have e2:(fr.take (j+1)).map (IJ d id)=(fr.take j).map (IJ d id)++[IJ d id fr[j]]:=by rw[fg hj,pw];rfl
  have ri:=af gi';rcases hd with rfl | rfl
  ·obtain⟨H5,w5,e5,k5,o5⟩:=(hG.keep (Keep.newPut (o:=.cells false 138 2 [.int .u8 0,.int .i64 0]) (o':=.cells false 138 2 [.int .u8 fr[j].y,.int .i64 fr[j].n]))).pushNew (IJ 0 id fr[j]) amw 40 lo hlo (by rw[ai,ac];omega) (by omega);rw[show Cell.cs (IJ 0 id fr[j])=[.int .u8 fr[j].y,.int .i64 fr[j].n,.int .u8 id.y,.int .i64 id.n,.int .i64 1] from rfl] at e5;rw[ai,ac] at e5;simp(disch:=omega) only[ak,↓aj,seval,acQ,↓hw'.idx,r1,fh,ri,↓e5];refine hN (k - 1) _ _ (by omega) ⟨j+1,w5,by omega,(hk.trans hk1).trans k5,?_,rfl,rfl,rfl,rfl,rfl,rfl,rfl,rfl,rfl,rfl,rfl,rfl,rfl,rfl,rfl,rfl,rfl,rfl,rfl,rfl,rfl⟩;rw[e2,←cj];exact o5
  ·obtain⟨H5,w5,e5,k5,o5⟩:=(hG.keep (Keep.newPut (o:=.cells false 138 2 [.int .u8 0,.int .i64 0]) (o':=.cells false 138 2 [.int .u8 fr[j].y,.int .i64 fr[j].n]))).pushNew (IJ 1 id fr[j]) amw 40 lo hlo (by rw[ai,ac];omega) (by omega);rw[show Cell.cs (IJ 1 id fr[j])=[.int .u8 id.y,.int .i64 id.n,.int .u8 fr[j].y,.int .i64 fr[j].n,.int .i64 (-1)] from rfl] at e5;rw[ai,ac] at e5;simp(disch:=omega) only[ak,↓aj,seval,acQ,↓hw'.idx,r1,fh,ri,↓e5];refine hN (k - 1) _ _ (by omega) ⟨j+1,w5,by omega,(hk.trans hk1).trans k5,?_,rfl,rfl,rfl,rfl,rfl,rfl,rfl,rfl,rfl,rfl,rfl,rfl,rfl,rfl,rfl,rfl,rfl,rfl,rfl,rfl,rfl⟩;rw[e2,←cj];exact o5
 ·rw[eW (by omega)] at hG;simp(disch:=omega) only[ak,↓aj,seval,acQ,hJ];exact hQ H' v' _ hk hG rfl rfl rfl rfl rfl rfl rfl rfl rfl rfl rfl rfl rfl rfl rfl rfl
def pj(d:Int)(front back:List Id):List Cr:=back.flatMap fun id=>front.map (IJ d id)
theorem Ni(d:Int)(front back:List Id)(j:Nat)(hj:j < back.length):pj d front (back.take (j+1))=pj d front (back.take j)++front.map (IJ d back[j]):=by
 unfold pj;rw[fg hj,List.flatMap_append];simp
theorem DV(d:Int){front back:List Id}(h:front.length≤4)(h':back.length≤4):(pj d front back).length≤16:=by
 have key:∀back:List Id,(pj d front back).length=back.length*front.length:=by
  intro back
  induction back with
  | nil=>simp[pj]
  | cons a l ih=>
    have:pj d front (a::l)=front.map (IJ d a)++pj d front l:=rfl
    rw[this,aW,mD,ih,fe,dB];omega
 rw[key];exact dr (Nat.mul_le_mul h' h) (by decide)
theorem Ph{n0:Nat}{d:Int}{w v u:SV}{fr back:List Id}{acc:List Cr}{y1 y3 y6 y7 y10 y11 y26 y27 y28:IV}{H:Heap}{lo:Nat}{Q:Out→Heap→Prop}{tm:List IV}(hlo:lo≤n0)(hn0:n0≤H.n)(hw:OwnS n0 H 138 w fr)(hu:∀H',Keep n0 H H'→Sl H' u back)(hfr:fr.length≤4)(hbk:back.length≤4)(hacc:acc.length≤90000)
  (hG:Gr n0 H 248 v acc) (hd:d=0∨d=1) (htm:tm.length=82) (t1:tm.getD 1 IV.undef=y1) (t2:tm.getD 2 IV.undef=.int .u8 d) (t3:tm.getD 3 IV.undef=y3) (t6:tm.getD 6 IV.undef=y6) (t7:tm.getD 7 IV.undef=y7) (t9:tm.getD 9 IV.undef=v.iv) (t10:tm.getD 10 IV.undef=y10) (t11:tm.getD 11 IV.undef=y11) (t13:tm.getD 13 IV.undef=w.iv) (t26:tm.getD 26 IV.undef=y26) (t27:tm.getD 27 IV.undef=y27) (t28:tm.getD 28 IV.undef=y28) (t47:tm.getD 47 IV.undef=u.iv) (t48:tm.getD 48 IV.undef=.int .i64 back.length) (t49:tm.getD 49 IV.undef=.int .i64 0)
  (hQ:∀H' v' tm',Keep n0 H H'→Gr n0 H' 248 v' (acc++pj d fr back)→tm'.length=82→tm'.getD 1 IV.undef=y1→tm'.getD 2 IV.undef=.int .u8 d→tm'.getD 3 IV.undef=y3→tm'.getD 6 IV.undef=y6→tm'.getD 7 IV.undef=y7→tm'.getD 9 IV.undef=v'.iv→tm'.getD 26 IV.undef=y26→tm'.getD 27 IV.undef=y27→tm'.getD 28 IV.undef=y28→Q (.ex (.jmp (.exit 2)) ⟨tm',[]⟩) H'):
  W E0 lo (.code (.loop mA) none ⟨tm,[]⟩) H Q:=by
 refine aO (fun k fm H'=>∃j v',j+k=back.length∧KeepG n0 248 5 H H'∧Gr n0 H' 248 v' (acc++pj d fr (back.take j))∧fm.marks=[]∧fm.tm.length=82∧fm.tm.getD 1 IV.undef=y1∧fm.tm.getD 2 IV.undef=.int .u8 d∧fm.tm.getD 3 IV.undef=y3∧fm.tm.getD 6 IV.undef=y6∧fm.tm.getD 7 IV.undef=y7∧fm.tm.getD 9 IV.undef=v'.iv∧fm.tm.getD 10 IV.undef=y10∧fm.tm.getD 11 IV.undef=y11∧fm.tm.getD 13 IV.undef=w.iv∧fm.tm.getD 26 IV.undef=y26∧fm.tm.getD 27 IV.undef=y27∧fm.tm.getD 28 IV.undef=y28∧fm.tm.getD 47 IV.undef=u.iv∧fm.tm.getD 48 IV.undef=.int .i64 back.length∧fm.tm.getD 49 IV.undef=.int .i64 j) ?_ back.length ⟨0,v,by omega,KeepG.refl _ _ _ _,by simpa [pj] using hG,rfl,htm,t1,t2,t3,t6,t7,t9,t10,t11,t13,t26,t27,t28,t47,t48,t49⟩;clear htm t1 t2 t3 t6 t7 t9 t10 t11 t13 t26 t27 t28 t47 t48 t49 hG;rintro k ⟨tm,mk⟩ H' ⟨j,v',hjk,hk,hG,rfl,htm,t1,t2,t3,t6,t7,t9,t10,t11,t13,t26,t27,t28,t47,t48,t49⟩ L hN hJ;have hn:=hk.1;have hu':=hu H' (hk.low hn0);have hw':=hw.keepG hk (by decide);have hws:=hw'.sl;rw[pX tm htm,t1,t2,t3,t6,t7,t9,t10,t11,t13,t26,t27,t28,t47,t48,t49];by_cases hj:j < back.length
 ·have r1:=hu'.read kT j hj;have hk1:KeepG n0 248 5 H' ((H'.new (.cells false 138 2 [.int .u8 0,.int .i64 0])).put H'.n (.cells false 138 2 [.int .u8 back[j].y,.int .i64 back[j].n])):=KeepG.of Keep.newPut
  have hlen:(acc++pj d fr (back.take j)).length≤100000:=by
   rw[aW]
   have:=DV d hfr (back:=back.take j) (by rw[eR];omega)
   omega
  simp(disch:=omega) only[ak,↓aj,seval,fE,fD,fC,fB,fA,fy,fw,fu,ft,fq,cW,cV,cU,cT,cS,cR,cQ,cP,cO,cN,cM,cK,cJ,cI,mA,cH,eP,eE,cG,eD,kp,F157,↓hu'.idx,r1,fh,↓hws.ln]
  generalize hH_H2:Heap.put _ _ _=H2;have hnH2:H2.n=H'.n+1:=by rw[←hH_H2];rfl
  have gi:=congrArg (fun h0=>Heap.get h0 (H'.n)) hH_H2.symm;simp(disch:=omega) only[ak,↓aj,seval] at gi
  have kH2:Keep H'.n H' H2:=⟨by omega,fun x hx _=>by
   have gx:=congrArg (fun h0=>Heap.get h0 x) hH_H2.symm;simp(disch:=omega) only[ak,↓aj,seval] at gx;exact gx⟩
  clear hH_H2;clear hk1;refine ade (ib:=H'.n) (id:=back[j]) (d:=d) hlo (by omega) (hw'.keep kH2) hfr hlen (hG.keep kH2) gi (by omega) hd rfl rfl rfl rfl rfl rfl rfl rfl rfl rfl rfl rfl rfl rfl rfl rfl rfl rfl rfl rfl fun H5 v5 Pa k5 g5 u u1 u2 u3 u6 u7 u9 u10 u11 u13 u26 u27 u28 u47 u48 u49=>?_;rw[pX Pa u,u1,u2,u3,u6,u7,u9,u10,u11,u13,u26,u27,u28,u47,u48,u49];simp(disch:=omega) only[ak,↓aj,seval,fE,fD,fC,fB,fA,fy,fw,fu,ft,fq,cW,cV,cU,cT,cS,cR,cQ,cP,cO,cN,cM,cK,cJ,cI,mA,cH,eP,eE,cG,eD,kp,F157];refine hN (k - 1) _ _ (by omega) ⟨j+1,v5,by omega,(hk.trans (KeepG.of kH2)).trans k5,?_,rfl,rfl,rfl,rfl,rfl,rfl,rfl,rfl,rfl,rfl,rfl,rfl,rfl,rfl,rfl,rfl,rfl⟩;rw[Ni _ _ _ _ hj,←cj];exact g5
 ·rw[eW (by omega)] at hG;simp(disch:=omega) only[ak,↓aj,seval,fE,fD,fC,fB,fA,fy,fw,fu,ft,fq,cW,cV,cU,cT,cS,cR,cQ,cP,cO,cN,cM,cK,cJ,cI,mA,cH,eP,eE,cG,eD,kp,F157,hJ];exact hQ H' v' _ (hk.low hn0) hG rfl rfl rfl rfl rfl rfl rfl rfl rfl rfl
def jW(fs bs:List (List Id))(r d:Int):List Cr:=(bs.mapIdx fun(i:Nat) back=>pj d (mF fs bs 0 ((i:Int)+1+r - (if d=0 then 1 else 0))).reverse back).flatten
def lh(fs bs:List (List Id))(r d:Int):List Cr:=if d=1 then(jW fs bs r d).reverse else jW fs bs r d
def qX(fs bs:List (List Id))(r d:Int)(n:Nat):List Cr:=((bs.mapIdx fun(i:Nat) back=>pj d (mF fs bs 0 ((i:Int)+1+r - (if d=0 then 1 else 0))).reverse back).take n).flatten
theorem xA(fs bs:List (List Id))(r d:Int)(n:Nat)(h:n < bs.length):qX fs bs r d (n+1)=qX fs bs r d n++pj d (mF fs bs 0 ((n:Int)+1+r - (if d=0 then 1 else 0))).reverse bs[n]:=by
 unfold qX;rw[fg (by simpa using h),iq];simp
theorem th(fs bs:List (List Id))(r d:Int):qX fs bs r d bs.length=jW fs bs r d:=by
 unfold qX jW;rw[eW (by simp)]
theorem tf{fs bs:List (List Id)}(h:∀x∈fs,x.length≤4)(h':∀x∈bs,x.length≤4)(r d:Int)(n:Nat)(hn:n≤bs.length):(qX fs bs r d n).length≤16*n:=by
 induction n with
 | zero=>simp[qX]
 | succ n ih=>
   rw[xA _ _ _ _ _ (by omega),aW]
   have:=ih (by omega)
   have:=DV d (front:=(mF fs bs 0 ((n:Int)+1+r - (if d=0 then 1 else 0))).reverse) (back:=bs[n]) (by rw[j3];exact jt fs bs _ _ 4 h h') (h' _ (bm _))
   omega
theorem Qd{f b:SV}{fs bs:List (List Id)}(r d:Int){H:Heap}{lo:Nat}{Q:Out→Heap→Prop}(ht:Tabs tabs H)(hf:Sl2 H f fs)(hb:Sl2 H b bs)(hlf:fs.length≤1000000)(hlb:bs.length≤1000000)(hl:∀l∈fs,l.length≤1000000)(hl':∀l∈bs,l.length≤1000000)(hlo:lo≤H.n)(hd:0≤d∧d≤255)
  (he:∀H',Keep H.n H H'→jg fs bs r d≠0→Q (.val (.tuple [.nilSlice,.int .i64 (jg fs bs r d)])) H')
  (h:∀H' v,Keep H.n H H'→jg fs bs r d=0→Fresh H.n H' 248 v (lh fs bs r d)→Q (.val (.tuple [v.iv,.int .i64 0])) H'):W E0 lo (.call 157 [bv f b,.int .i64 r,.int .u8 d]) H Q:=by
 refine W.pure bu hlo ?_;rw[avm];simp(disch:=omega) only[ak,↓aj,seval,Dq,bv];generalize hH_H1:Heap.new _ _=H1;have hnH1:H1.n=H.n+1:=by rw[←hH_H1];rfl
 have g0:=congrArg (fun h0=>Heap.get h0 (H.n)) hH_H1.symm;simp(disch:=omega) only[ak,↓aj,seval] at g0
 have kH1:Keep H.n H H1:=⟨by omega,fun x hx _=>by
  have gx:=congrArg (fun h0=>Heap.get h0 x) hH_H1.symm;simp(disch:=omega) only[ak,↓aj,seval] at gx;exact gx⟩
 clear hH_H1;rw[show IV.agg [f.iv,b.iv]=bv f b from rfl];refine sH r d (ht.keep' kH1) (hf.keep kH1) (hb.keep kH1) hlf hlb hl hl' (by omega) hd fun H2 k2=>?_;have hn2:=k2.1;replace g0:=(k2.2 _ (by omega) (by omega)).trans g0;replace kH1:Keep H.n H H2:=kH1.trans (k2.lower (by omega));clear k2;by_cases hc:jg fs bs r d=0
 case neg=>
  have e0:(jg fs bs r d !=0)=true:=by simp[hc]
  simp(disch:=omega) only[ak,↓aj,seval,Dq,e0]
  exact fun hk=>he _ hk hc
 obtain⟨hck,hr,hd01,hr2⟩:aY fs bs=0∧(-4≤r∧r≤4)∧(d=0∨d=1)∧eQ (r+mO d)=true:=by
  unfold jg at hc;split at hc
  ·contradiction
  ·rename_i h1;split at hc
   ·omega
   ·rename_i h2;split at hc
    ·rename_i h3;rw[Decidable.not_not] at h1;unfold bM at h1;split at h1
     ·contradiction
     ·rename_i h4;split at h1
      ·rename_i h5;exact⟨by simpa using h4,rackB_iff.1 h5,by omega,h3⟩
      ·omega
    ·omega
 obtain⟨c1,c2,c3,c4,_⟩:=jv hck;have r0:=af g0;have hb2:=hb.keep kH1;simp(disch:=omega) only[ak,↓aj,seval,Dq,hc,r0,↓hb2.ln]
 have main:∀H9 v9 tm9,Keep H.n H H9→Gr H2.n H9 248 v9 (jW fs bs r d)→tm9.length=82→tm9.getD 2 IV.undef=.int .u8 d→tm9.getD 9 IV.undef=v9.iv→W E0 H.n (.code (.seq (.seq Dg (.cond (.tmp 77) Df .skip)) (.seq De .ret)) none ⟨tm9,[]⟩) H9 (li H.n F157.results fun o H'=>Keep H.n H H'→Q o H'):=by
  intro H9 v9 tm9 k9 g9 htm9 u2 u9;rw[pX tm9 htm9,u2,u9]
  have hlen:(jW fs bs r d).length≤1000:=by
   rw[←th]
   have:=tf c3 c4 r d bs.length (au _)
   omega
  have hn9:=k9.1;rcases hd01 with rfl | rfl
  ·have e1:lh fs bs r 0=jW fs bs r 0:=by unfold lh;rw[if_neg (by omega)]
   simp(disch:=omega) only[ak,↓aj,seval,Dq]
   refine uI g9.sl (by omega) (by omega) fun H7 b7 k7 hb7 o7=>?_;simp(disch:=omega) only[ak,↓aj,seval,Dq];exact fun hk=>h H7 (.sl b7 0 (jW fs bs r 0).length (jW fs bs r 0).length true) hk hc (.inr ⟨b7,by rw[e1],by omega,by rw[e1];exact o7⟩)
  ·have e1:lh fs bs r 1=(jW fs bs r 1).reverse:=by unfold lh;rw[if_pos rfl]
   simp(disch:=omega) only[ak,↓aj,seval,Dq]
   refine BY g9.own (by omega) (by omega) fun H8 k8 o8=>?_;have hn8:=k8.1;simp(disch:=omega) only[ak,↓aj,seval,Dq];refine uI o8.sl (by rw[j3];omega) (by omega) fun H7 b7 k7 hb7 o7=>?_;simp(disch:=omega) only[ak,↓aj,seval,Dq];exact fun hk=>h H7 (.sl b7 0 (jW fs bs r 1).reverse.length (jW fs bs r 1).reverse.length true) hk hc (.inr ⟨b7,by rw[e1],by omega,by rw[e1];exact o7⟩)
 refine aO (fun k fm H'=>∃i v',i+k=bs.length∧Keep H2.n H2 H'∧Gr H2.n H' 248 v' (qX fs bs r d i)∧fm.marks=[]∧fm.tm.length=82∧fm.tm.getD 1 IV.undef=.int .i64 r∧fm.tm.getD 2 IV.undef=.int .u8 d∧fm.tm.getD 3 IV.undef=.ptr H.n 0∧fm.tm.getD 6 IV.undef=.nilSlice∧fm.tm.getD 7 IV.undef=.int .i64 0∧fm.tm.getD 9 IV.undef=v'.iv∧fm.tm.getD 26 IV.undef=b.iv∧fm.tm.getD 27 IV.undef=.int .i64 bs.length∧fm.tm.getD 28 IV.undef=.int .i64 i) ?_ bs.length ⟨0,.nil,by omega,Keep.refl _ _,by simpa [qX] using (Gr.nil:Gr H2.n H2 248 .nil ([]:List Cr)),rfl,rfl,rfl,rfl,rfl,rfl,rfl,rfl,rfl,rfl,rfl⟩;rintro k ⟨tm,mk⟩ H' ⟨i,v',hik,hk,hG,rfl,htm,t1,t2,t3,t6,t7,t9,t26,t27,t28⟩ L hN hJ;have hn:=hk.1;have kk:Keep H.n H H':=kH1.trans (hk.lower (by omega));rw[pX tm htm,t1,t2,t3,t6,t7,t9,t26,t27,t28];by_cases hi:i < bs.length
 ·have hb3:=hb.keep kk;obtain⟨w,r1,s1,hbl⟩:=hb.elem i hi;have r1':=kk.read b.blk (b.off+i*1) 1 hbl hbl;rw[r1] at r1';have g0':=(hk.2 H.n (by omega) (by omega)).trans g0;have r0':=af g0';have hrl:=tf c3 c4 r d i (by omega);have hw4:=c4 _ (bm hi)
  have step:∀at_:Int,at_=(i:Int)+1+r - (if d=0 then 1 else 0)→∀H5 v5,Keep H'.n H' H5→Fresh H'.n H5 138 v5 (mF fs bs 0 at_)→∀(Q':Out→Heap→Prop),(∀H6,Keep H'.n H' H6→OwnS H'.n H6 138 v5 (mF fs bs 0 at_).reverse→Q' (.val (.tuple [])) H6)→W E0 H.n (.call 197 [v5.iv]) H5 Q':=by
   intro at_ _ H5 v5 k5 s5 Q' hQ';refine BW s5.own (by omega) (by have:=jt fs bs 0 at_ 4 c3 c4;omega) fun H6 k6 o6=>hQ' H6 (k5.trans (k6.lower (au _))) o6
  have go:∀(at_:Int) H6 v5 tm6,at_=(i:Int)+1+r - (if d=0 then 1 else 0)→Keep H'.n H' H6→OwnS H'.n H6 138 v5 (mF fs bs 0 at_).reverse→tm6.length=82→tm6.getD 1 IV.undef=.int .i64 r→tm6.getD 2 IV.undef=.int .u8 d→tm6.getD 3 IV.undef=.ptr H.n 0→tm6.getD 6 IV.undef=.nilSlice→tm6.getD 7 IV.undef=.int .i64 0→tm6.getD 9 IV.undef=v'.iv→tm6.getD 10 IV.undef=.int .i64 i→tm6.getD 11 IV.undef=w.iv→tm6.getD 13 IV.undef=v5.iv→tm6.getD 26 IV.undef=b.iv→tm6.getD 27 IV.undef=.int .i64 bs.length→tm6.getD 28 IV.undef=.int .i64 i→tm6.getD 47 IV.undef=w.iv→tm6.getD 48 IV.undef=.int .i64 bs[i].length→tm6.getD 49 IV.undef=.int .i64 0→W E0 H.n (.code (.loop mA) none ⟨tm6,[]⟩) H6 (vj 2 (vj 1 (mM E0 H.n none (Dh) L))):=by
   intro at_ H6 v5 tm6 hat k6 o6 htm6 u1 u2 u3 u6 u7 u9 u10 u11 u13 u26 u27 u28 u47 u48 u49;have hn6:=k6.1;refine Ph (n0:=H2.n) (w:=v5) (back:=bs[i]) (by omega) (by omega) (by rcases o6 with h | ⟨b,cap,ex,h1,h2,h3⟩;exact .inl h;exact .inr ⟨b,cap,ex,h1,by omega,h3⟩) (fun H9 k9=>(s1.keep kk).same (by have:=k9.1;omega) fun hx=>?_) (by rw[j3];exact jt fs bs 0 at_ 4 c3 c4) hw4 (by omega) (hG.keep k6) hd01 htm6 u1 u2 u3 u6 u7 u9 u10 u11 u13 u26 u27 u28 u47 u48 u49 fun H8 v8 tm8 k8 g8 w w1 w2 w3 w6 w7 w9 w26 w27 w28=>?_
   ·have:=s1.blk_lt hx
    rw[k9.2 _ (by omega) (by omega),k6.2 _ (by omega) (by omega)]
   ·rw[pX tm8 w,w1,w2,w3,w6,w7,w9,w26,w27,w28];simp(disch:=omega) only[ak,↓aj,seval,fE,fD,fC,fB,fA,fy,fw,fu,ft,fq,cW,cV,cU,cT,cS,cR,cQ,cP,cO,cN,cM,cK,cJ,ii,cI,cH,eP,eE,cG,eD,kp,F157];refine hN (k - 1) _ _ (by omega) ⟨i+1,v8,by omega,(hk.trans (k6.lower (by omega))).trans k8,?_,rfl,rfl,rfl,rfl,rfl,rfl,rfl,rfl,rfl,rfl,rfl⟩;rw[xA _ _ _ _ _ hi,←hat];exact g8
  rcases hd01 with rfl | rfl
  ·have e1:(i:Int)+1+r - (if (0:Int)=0 then 1 else 0)=(i:Int)+1+r - 1:=by rw[if_pos rfl]
   simp(disch:=omega) only[ak,↓aj,seval,fE,fD,fC,fB,fA,fy,fw,fu,ft,fq,cW,cV,cU,cT,cS,cR,cQ,cP,cO,cN,cM,cK,cJ,ii,cI,cH,eP,eE,cG,eD,kp,F157,↓hb3.idx,r1',r0']
   rw[show IV.agg [f.iv,b.iv]=bv f b from rfl];refine uR 0 ((i:Int)+1+r - 1) (hf.keep kk) hb3 hl hl' (by omega) fun H5 v5 k5 s5=>?_;simp(disch:=omega) only[ak,↓aj,seval,fE,fD,fC,fB,fA,fy,fw,fu,ft,fq,cW,cV,cU,cT,cS,cR,cQ,cP,cO,cN,cM,cK,cJ,ii,cI,cH,eP,eE,cG,eD,kp,F157];refine step _ e1.symm H5 v5 k5 s5 _ fun H6 k6 o6=>?_;have s6:=(s1.keep kk).keep k6;simp(disch:=omega) only[ak,↓aj,seval,fE,fD,fC,fB,fA,fy,fw,fu,ft,fq,cW,cV,cU,cT,cS,cR,cQ,cP,cO,cN,cM,cK,cJ,ii,cI,cH,eP,eE,cG,eD,kp,F157,↓s6.ln];exact go _ H6 v5 _ e1.symm k6 o6 rfl rfl rfl rfl rfl rfl rfl rfl rfl rfl rfl rfl rfl rfl rfl rfl
  ·have e1:(i:Int)+1+r - (if (1:Int)=0 then 1 else 0)=(i:Int)+1+r:=by rw[if_neg (by omega)];omega
   simp(disch:=omega) only[ak,↓aj,seval,fE,fD,fC,fB,fA,fy,fw,fu,ft,fq,cW,cV,cU,cT,cS,cR,cQ,cP,cO,cN,cM,cK,cJ,ii,cI,cH,eP,eE,cG,eD,kp,F157,↓hb3.idx,r1',r0']
   rw[show IV.agg [f.iv,b.iv]=bv f b from rfl];refine uR 0 ((i:Int)+1+r) (hf.keep kk) hb3 hl hl' (by omega) fun H5 v5 k5 s5=>?_;simp(disch:=omega) only[ak,↓aj,seval,fE,fD,fC,fB,fA,fy,fw,fu,ft,fq,cW,cV,cU,cT,cS,cR,cQ,cP,cO,cN,cM,cK,cJ,ii,cI,cH,eP,eE,cG,eD,kp,F157];refine step _ e1.symm H5 v5 k5 s5 _ fun H6 k6 o6=>?_;have s6:=(s1.keep kk).keep k6;simp(disch:=omega) only[ak,↓aj,seval,fE,fD,fC,fB,fA,fy,fw,fu,ft,fq,cW,cV,cU,cT,cS,cR,cQ,cP,cO,cN,cM,cK,cJ,ii,cI,cH,eP,eE,cG,eD,kp,F157,↓s6.ln];exact go _ H6 v5 _ e1.symm k6 o6 rfl rfl rfl rfl rfl rfl rfl rfl rfl rfl rfl rfl rfl rfl rfl rfl
 ·have:i=bs.length:=by omega
  subst this;rw[th] at hG;simp(disch:=omega) only[ak,↓aj,seval,fE,fD,fC,fB,fA,fy,fw,fu,ft,fq,cW,cV,cU,cT,cS,cR,cQ,cP,cO,cN,cM,cK,cJ,ii,cI,cH,eP,cG,kp,F157,hJ];rw[←iz,←iz];exact main H' v' _ kk hG rfl rfl rfl
def kI(fs bs:List (List Id))(r d p:Int):Int:=if jg fs bs r d≠0 then jg fs bs r d else if p.tmod 2=0 then 1 else 0
def zA(d:Int):Int:=if d=0 then 1 else 0
def psE(way:Int)(id:Id):Ps:=⟨id,true,way⟩
def uy(r d p:Int)(i:Nat):Prop:=p=aH 1 ((i:Int)+1) r+mO d∨p=aH 1 ((i:Int)+1) r+3*mO d
instance (r d p:Int)(i:Nat):Decidable (uy r d p i):=by unfold uy;infer_instance
def uz(r d p:Int)(i:Nat)(st:List Id):List Ps:=if uy r d p i then st.map (psE (zA d)) else[]
def j6(bs:List (List Id))(r d p:Int):List Ps:=(bs.mapIdx fun(i:Nat) st=>uz r d p i st).flatten
def j5(bs:List (List Id))(r d p:Int):List Ps:=if d=1 then(j6 bs r d p).reverse else j6 bs r d p
def m9(bs:List (List Id))(r d p:Int)(n:Nat):List Ps:=((bs.mapIdx fun(i:Nat) st=>uz r d p i st).take n).flatten
theorem pV(bs:List (List Id))(r d p:Int)(n:Nat)(h:n < bs.length):m9 bs r d p (n+1)=m9 bs r d p n++uz r d p n bs[n]:=by
 unfold m9;rw[fg (by simpa using h),iq];simp
theorem tK(bs:List (List Id))(r d p:Int):m9 bs r d p bs.length=j6 bs r d p:=by
 unfold m9 j6;rw[eW (by simp)]
theorem tJ{bs:List (List Id)}(h':∀x∈bs,x.length≤4)(r d p:Int)(n:Nat)(hn:n≤bs.length):(m9 bs r d p n).length≤4*n:=by
 induction n with
 | zero=>simp[m9]
 | succ n ih=>
   rw[pV _ _ _ _ _ (by omega),aW]
   have:=ih (by omega)
   have:(uz r d p n bs[n]).length≤4:=by
    unfold uz;split
    ·rw[mD];exact h' _ (bm _)
    ·simp
   omega
theorem adN{n0:Nat}{way:Int}{v u:SV}{st:List Id}{acc:List Ps}{y1 y2 y3 y4 y8 y9 y31 y32 y33:IV}{H:Heap}{lo:Nat}{Q:Out→Heap→Prop}{tm:List IV}(hlo:lo≤n0)(hn0:n0≤H.n)(hu:∀H',Keep n0 H H'→Sl H' u st)(hst:st.length≤4)(hacc:acc.length≤100000)
  (hG:Gr n0 H 196 v acc) (htm:tm.length=80) (t1:tm.getD 1 IV.undef=y1) (t2:tm.getD 2 IV.undef=y2) (t3:tm.getD 3 IV.undef=y3) (t4:tm.getD 4 IV.undef=y4) (t8:tm.getD 8 IV.undef=y8) (t9:tm.getD 9 IV.undef=y9) (t11:tm.getD 11 IV.undef=.int .u8 way) (t12:tm.getD 12 IV.undef=v.iv) (t31:tm.getD 31 IV.undef=y31) (t32:tm.getD 32 IV.undef=y32) (t33:tm.getD 33 IV.undef=y33) (t60:tm.getD 60 IV.undef=u.iv) (t61:tm.getD 61 IV.undef=.int .i64 st.length) (t62:tm.getD 62 IV.undef=.int .i64 0)
  (hQ:∀H' v' tm',Keep n0 H H'→Gr n0 H' 196 v' (acc++st.map (psE way))→tm'.length=80→tm'.getD 1 IV.undef=y1→tm'.getD 2 IV.undef=y2→tm'.getD 3 IV.undef=y3→tm'.getD 4 IV.undef=y4→tm'.getD 8 IV.undef=y8→tm'.getD 9 IV.undef=y9→tm'.getD 11 IV.undef=.int .u8 way→tm'.getD 12 IV.undef=v'.iv→tm'.getD 31 IV.undef=y31→tm'.getD 32 IV.undef=y32→tm'.getD 33 IV.undef=y33→Q (.ex (.jmp (.exit 2)) ⟨tm',[]⟩) H'):
  W E0 lo (.code (.loop wv) none ⟨tm,[]⟩) H Q:=by
 refine aO (fun k fm H'=>∃j v',j+k=st.length∧KeepG n0 196 4 H H'∧Gr n0 H' 196 v' (acc++(st.take j).map (psE way))∧fm.marks=[]∧fm.tm.length=80∧fm.tm.getD 1 IV.undef=y1∧fm.tm.getD 2 IV.undef=y2∧fm.tm.getD 3 IV.undef=y3∧fm.tm.getD 4 IV.undef=y4∧fm.tm.getD 8 IV.undef=y8∧fm.tm.getD 9 IV.undef=y9∧fm.tm.getD 11 IV.undef=.int .u8 way∧fm.tm.getD 12 IV.undef=v'.iv∧fm.tm.getD 31 IV.undef=y31∧fm.tm.getD 32 IV.undef=y32∧fm.tm.getD 33 IV.undef=y33∧fm.tm.getD 60 IV.undef=u.iv∧fm.tm.getD 61 IV.undef=.int .i64 st.length∧fm.tm.getD 62 IV.undef=.int .i64 j) ?_ st.length ⟨0,v,by omega,KeepG.refl _ _ _ _,by simpa using hG,rfl,htm,t1,t2,t3,t4,t8,t9,t11,t12,t31,t32,t33,t60,t61,t62⟩;clear htm t1 t2 t3 t4 t8 t9 t11 t12 t31 t32 t33 t60 t61 t62 hG;rintro k ⟨tm,mk⟩ H' ⟨j,v',hjk,hk,hG,rfl,htm,t1,t2,t3,t4,t8,t9,t11,t12,t31,t32,t33,t60,t61,t62⟩ L hN hJ;have hn:=hk.1;have hu':=hu H' (hk.low hn0);rw[CC tm htm,t1,t2,t3,t4,t8,t9,t11,t12,t31,t32,t33,t60,t61,t62];by_cases hj:j < st.length
 ·have r1:=hu'.read kT j hj;have hlen:(acc++(st.take j).map (psE way)).length≤100004:=by rw[aW,mD,eR];omega
  have hk1:KeepG n0 196 4 H' ((H'.new (.cells false 138 2 [.int .u8 0,.int .i64 0])).put H'.n (.cells false 138 2 [.int .u8 st[j].y,.int .i64 st[j].n])):=KeepG.of Keep.newPut;have e2:(st.take (j+1)).map (psE way)=(st.take j).map (psE way)++[psE way st[j]]:=by rw[fg hj,pw];rfl
  obtain⟨H5,w5,e5,k5,o5⟩:=(hG.keep (Keep.newPut (o:=.cells false 138 2 [.int .u8 0,.int .i64 0]) (o':=.cells false 138 2 [.int .u8 st[j].y,.int .i64 st[j].n]))).pushNew (psE way st[j]) mH 24 lo hlo (by rw[ai,ac];omega) (by omega);rw[show Cell.cs (psE way st[j])=[.int .u8 st[j].y,.int .i64 st[j].n,.bool true,.int .u8 way] from rfl] at e5;rw[ai,ac] at e5;simp(disch:=omega) only[ak,↓aj,seval,ams,↓hu'.idx,r1,fh,↓e5];refine hN (k - 1) _ _ (by omega) ⟨j+1,w5,by omega,(hk.trans hk1).trans k5,?_,rfl,rfl,rfl,rfl,rfl,rfl,rfl,rfl,rfl,rfl,rfl,rfl,rfl,rfl,rfl,rfl⟩;rw[e2,←cj];exact o5
 ·rw[eW (by omega)] at hG;simp(disch:=omega) only[ak,↓aj,seval,ams,hJ];exact hQ H' v' _ (hk.low hn0) hG rfl rfl rfl rfl rfl rfl rfl rfl rfl rfl rfl rfl
theorem NF{f b:SV}{fs bs:List (List Id)}(r d p:Int){H:Heap}{lo:Nat}{Q:Out→Heap→Prop}(ht:Tabs tabs H)(hf:Sl2 H f fs)(hb:Sl2 H b bs)(hlf:fs.length≤1000000)(hlb:bs.length≤1000000)(hl:∀l∈fs,l.length≤1000000)(hl':∀l∈bs,l.length≤1000000)(hlo:lo≤H.n)(hd:0≤d∧d≤255)
  (he:∀H',Keep H.n H H'→kI fs bs r d p≠0→Q (.val (.tuple [.nilSlice,.int .i64 (kI fs bs r d p)])) H')
  (h:∀H' v,Keep H.n H H'→kI fs bs r d p=0→Fresh H.n H' 196 v (j5 bs r d p)→Q (.val (.tuple [v.iv,.int .i64 0])) H'):W E0 lo (.call 155 [bv f b,.int .i64 r,.int .u8 d,.int .i64 p]) H Q:=by
 refine W.pure bu hlo ?_;rw[avo];simp(disch:=omega) only[ak,↓aj,seval,Dr,bv];generalize hH_H1:Heap.new _ _=H1;have hnH1:H1.n=H.n+1:=by rw[←hH_H1];rfl
 have g0:=congrArg (fun h0=>Heap.get h0 (H.n)) hH_H1.symm;simp(disch:=omega) only[ak,↓aj,seval] at g0
 have kH1:Keep H.n H H1:=⟨by omega,fun x hx _=>by
  have gx:=congrArg (fun h0=>Heap.get h0 x) hH_H1.symm;simp(disch:=omega) only[ak,↓aj,seval] at gx;exact gx⟩
 clear hH_H1;rw[show IV.agg [f.iv,b.iv]=bv f b from rfl];refine sH r d (ht.keep' kH1) (hf.keep kH1) (hb.keep kH1) hlf hlb hl hl' (by omega) hd fun H2 k2=>?_;have hn2:=k2.1;replace g0:=(k2.2 _ (by omega) (by omega)).trans g0;replace kH1:Keep H.n H H2:=kH1.trans (k2.lower (by omega));clear k2;unfold kI at he h;by_cases hc:jg fs bs r d=0
 case neg=>
  have e0:(jg fs bs r d !=0)=true:=by simp[hc]
  rw[if_pos hc] at he;simp(disch:=omega) only[ak,↓aj,seval,Dr,e0];exact fun hk=>he _ hk hc
 rw[if_neg (by simp[hc])] at he h;by_cases hp:p.tmod 2=0
 ·rw[if_pos hp] at he;simp(disch:=omega) only[ak,↓aj,seval,Dr,hc,hp];exact fun hk=>he _ hk (by omega)
 rw[if_neg hp] at h;have hp':(p.tmod 2==0)=false:=by simp[hp]
 obtain⟨hck,hr,hd01⟩:aY fs bs=0∧(-4≤r∧r≤4)∧(d=0∨d=1):=by
  unfold jg at hc;split at hc
  ·contradiction
  ·rename_i h1;split at hc
   ·omega
   ·rename_i h2;rw[Decidable.not_not] at h1;unfold bM at h1;split at h1
    ·contradiction
    ·rename_i h4;split at h1
     ·rename_i h5;exact⟨by simpa using h4,rackB_iff.1 h5,by omega⟩
     ·omega
 obtain⟨c1,c2,c3,c4,_⟩:=jv hck;have r0:=af g0;have hb2:=hb.keep kH1
 have main:∀H9 v9 tm9,Keep H.n H H9→Gr H2.n H9 196 v9 (j6 bs r d p)→tm9.length=80→tm9.getD 11 IV.undef=.int .u8 (zA d)→tm9.getD 12 IV.undef=v9.iv→W E0 H.n (.code (.seq (.seq wu (.cond (.tmp 75) wq .skip)) (.seq wp .ret)) none ⟨tm9,[]⟩) H9 (li H.n F155.results fun o H'=>Keep H.n H H'→Q o H'):=by
  intro H9 v9 tm9 k9 g9 htm9 u2 u9;rw[CC tm9 htm9,u2,u9]
  have hlen:(j6 bs r d p).length≤1000:=by
   rw[←tK]
   have:=tJ c4 r d p bs.length (au _)
   omega
  have hn9:=k9.1;rcases hd01 with rfl | rfl
  ·have e1:j5 bs r 0 p=j6 bs r 0 p:=by unfold j5;rw[if_neg (by omega)]
   rw[show zA 0=1 from rfl];simp(disch:=omega) only[ak,↓aj,seval,Dr];refine kg g9.sl (by omega) (by omega) fun H7 b7 k7 hb7 o7=>?_;simp(disch:=omega) only[ak,↓aj,seval,Dr];exact fun hk=>h H7 (.sl b7 0 (j6 bs r 0 p).length (j6 bs r 0 p).length true) hk rfl (.inr ⟨b7,by rw[e1],by omega,by rw[e1];exact o7⟩)
  ·have e1:j5 bs r 1 p=(j6 bs r 1 p).reverse:=by unfold j5;rw[if_pos rfl]
   rw[show zA 1=0 from rfl];simp(disch:=omega) only[ak,↓aj,seval,Dr];refine rf g9.own (by omega) (by omega) fun H8 k8 o8=>?_;have hn8:=k8.1;simp(disch:=omega) only[ak,↓aj,seval,Dr];refine kg o8.sl (by rw[j3];omega) (by omega) fun H7 b7 k7 hb7 o7=>?_;simp(disch:=omega) only[ak,↓aj,seval,Dr];exact fun hk=>h H7 (.sl b7 0 (j6 bs r 1 p).reverse.length (j6 bs r 1 p).reverse.length true) hk rfl (.inr ⟨b7,by rw[e1],by omega,by rw[e1];exact o7⟩)
 have loop:∀(tm2:List IV) (v':SV) (i:Nat),v'=.nil→i=0→tm2.length=80→tm2.getD 1 IV.undef=.int .i64 r→tm2.getD 2 IV.undef=.int .u8 d→tm2.getD 3 IV.undef=.int .i64 p→tm2.getD 4 IV.undef=.ptr H.n 0→tm2.getD 8 IV.undef=.nilSlice→tm2.getD 9 IV.undef=.int .i64 0→tm2.getD 11 IV.undef=.int .u8 (zA d)→tm2.getD 12 IV.undef=v'.iv→tm2.getD 31 IV.undef=b.iv→tm2.getD 32 IV.undef=.int .i64 bs.length→tm2.getD 33 IV.undef=.int .i64 i→W E0 H.n (.code (.loop fS) none ⟨tm2,[]⟩) H2 (vj 0 (mM E0 H.n none (.seq (.seq wu (.cond (.tmp 75) wq .skip)) (.seq wp .ret)) (li H.n F155.results fun o H'=>Keep H.n H H'→Q o H'))):=by
  intro tm2 v' i hv' hi0 htm t1 t2 t3 t4 t8 t9 t11 t12 t31 t32 t33;subst hv' hi0;refine aO (fun k fm H'=>∃(i:Nat) (v':SV),i+k=bs.length∧Keep H2.n H2 H'∧Gr H2.n H' 196 v' (m9 bs r d p i)∧fm.marks=[]∧fm.tm.length=80∧fm.tm.getD 1 IV.undef=.int .i64 r∧fm.tm.getD 2 IV.undef=.int .u8 d∧fm.tm.getD 3 IV.undef=.int .i64 p∧fm.tm.getD 4 IV.undef=.ptr H.n 0∧fm.tm.getD 8 IV.undef=.nilSlice∧fm.tm.getD 9 IV.undef=.int .i64 0∧fm.tm.getD 11 IV.undef=.int .u8 (zA d)∧fm.tm.getD 12 IV.undef=v'.iv∧fm.tm.getD 31 IV.undef=b.iv∧fm.tm.getD 32 IV.undef=.int .i64 bs.length∧fm.tm.getD 33 IV.undef=.int .i64 i) ?_ bs.length ⟨0,.nil,by omega,Keep.refl _ _,by simpa [m9] using (Gr.nil:Gr H2.n H2 196 .nil ([]:List Ps)),rfl,htm,t1,t2,t3,t4,t8,t9,t11,t12,t31,t32,t33⟩;clear htm t1 t2 t3 t4 t8 t9 t11 t12 t31 t32 t33;rintro k ⟨tm,mk⟩ H' ⟨i,v',hik,hk,hG,rfl,htm,t1,t2,t3,t4,t8,t9,t11,t12,t31,t32,t33⟩ L hN hJ;have hn:=hk.1;have kk:Keep H.n H H':=kH1.trans (hk.lower (by omega));rw[CC tm htm,t1,t2,t3,t4,t8,t9,t11,t12,t31,t32,t33];by_cases hi:i < bs.length
  ·have hb3:=hb.keep kk;obtain⟨w,r1,s1,hbl⟩:=hb.elem i hi;have r1':=kk.read b.blk (b.off+i*1) 1 hbl hbl;rw[r1] at r1';have hrl:=tJ c4 r d p i (by omega);have hw4:=c4 _ (bm hi);simp(disch:=omega) only[ak,↓aj,seval,fQ,fP,fN,fM,fK,fJ,fI,fH,fG,fF,dp,dn,dm,dl,dj,di,dh,dg,dc,cZ,cY,fS,gI,cX,gH,kq,F155,↓hb3.idx,r1'];refine oL 1 ((i:Int)+1) r (by omega) fun H3 k3=>?_;have hn3:=k3.1;have kk3:Keep H.n H H3:=kk.trans (k3.lower (by omega));have gt:=afL (ht.keep' kk3);have rt:=af gt;have s3:=s1.keep kk3
   have hsb: -12≤aH 1 ((i:Int)+1) r∧aH 1 ((i:Int)+1) r≤176:=by
    unfold aH;split
    ·rename_i h;have:=eK h.1;rw[if_neg (by omega)];omega
    ·omega
   have hd0: -1≤mO d∧mO d≤1:=by unfold mO;split<;>omega
   have inner:∀tm9:List IV,uy r d p i→tm9.length=80→tm9.getD 1 IV.undef=.int .i64 r→tm9.getD 2 IV.undef=.int .u8 d→tm9.getD 3 IV.undef=.int .i64 p→tm9.getD 4 IV.undef=.ptr H.n 0→tm9.getD 8 IV.undef=.nilSlice→tm9.getD 9 IV.undef=.int .i64 0→tm9.getD 11 IV.undef=.int .u8 (zA d)→tm9.getD 12 IV.undef=v'.iv→tm9.getD 31 IV.undef=b.iv→tm9.getD 32 IV.undef=.int .i64 bs.length→tm9.getD 33 IV.undef=.int .i64 i→tm9.getD 60 IV.undef=w.iv→tm9.getD 61 IV.undef=.int .i64 bs[i].length→tm9.getD 62 IV.undef=.int .i64 0→W E0 H.n (.code (.loop wv) none ⟨tm9,[]⟩) H3 (vj 2 (vj 1 (mM E0 H.n none Di L))):=by
    intro tm9 hm htm9 u1 u2 u3 u4 u8 u9 u11 u12 u31 u32 u33 u60 u61 u62;refine adN (n0:=H2.n) (st:=bs[i]) (by omega) (by omega) (fun H9 k9=>(s1.keep kk3).same (by have:=k9.1;omega) fun hx=>k9.2 _ (by have:=s1.blk_lt hx;omega) (by have:=s1.blk_lt hx;omega)) hw4 (by omega) (hG.keep k3) htm9 u1 u2 u3 u4 u8 u9 u11 u12 u31 u32 u33 u60 u61 u62 fun H8 v8 tm8 k8 g8 w w1 w2 w3 w4 w8 w9 w11 w12 w31 w32 w33=>?_;rw[CC tm8 w,w1,w2,w3,w4,w8,w9,w11,w12,w31,w32,w33];simp(disch:=omega) only[ak,↓aj,seval,fQ,fP,fN,fM,fK,fJ,fI,fH,fG,fF,dp,dn,dm,dl,dj,di,dh,dg,dc,cZ,cY,fS,gI,cX,gH,kq,F155];refine hN (k - 1) _ _ (by omega) ⟨i+1,v8,by omega,(hk.trans (k3.lower (by omega))).trans k8,?_,rfl,rfl,rfl,rfl,rfl,rfl,rfl,rfl,rfl,rfl,rfl,rfl,rfl⟩;rw[pV _ _ _ _ _ hi];unfold uz;rw[if_pos hm];exact g8
   have skip:¬uy r d p i→m9 bs r d p (i+1)=m9 bs r d p i:=fun hm=>by
    rw[pV _ _ _ _ _ hi];unfold uz;rw[if_neg hm,ip]
   rcases hd01 with rfl | rfl
   ·by_cases m1:p=aH 1 ((i:Int)+1) r+ -1
    ·have b1:(p !=aH 1 ((i:Int)+1) r+ -1)=false:=by simp[m1]
     simp(disch:=omega) only[ak,↓aj,seval,fQ,fP,fN,fM,fK,fJ,fI,fH,fG,fF,dp,dn,dm,dl,dj,di,dh,dg,dc,cZ,cY,fS,gI,cX,gH,kq,F155,g0E,rt,b1,↓s3.ln]
     exact inner _ (.inl m1) rfl rfl rfl rfl rfl rfl rfl rfl rfl rfl rfl rfl rfl rfl rfl
    ·have b1:(p !=aH 1 ((i:Int)+1) r+ -1)=true:=by simp[m1]
     by_cases m2:p=aH 1 ((i:Int)+1) r+ -3
     ·have b2:(p !=aH 1 ((i:Int)+1) r+ -3)=false:=by simp[m2]
      simp(disch:=omega) only[ak,↓aj,seval,fQ,fP,fN,fM,fK,fJ,fI,fH,fG,fF,dp,dn,dm,dl,dj,di,dh,dg,dc,cZ,cY,fS,gI,cX,gH,kq,F155,g0E,rt,b1,b2,Int.reduceMul,↓s3.ln]
      exact inner _ (.inr m2) rfl rfl rfl rfl rfl rfl rfl rfl rfl rfl rfl rfl rfl rfl rfl
     ·have b2:(p !=aH 1 ((i:Int)+1) r+ -3)=true:=by simp[m2]
      simp(disch:=omega) only[ak,↓aj,seval,fQ,fP,fN,fM,fK,fJ,fI,fH,fG,fF,dp,dn,dm,dl,dj,di,dh,dg,dc,cZ,cY,fS,gI,cX,gH,kq,F155,g0E,rt,b1,b2,Int.reduceMul]
      refine hN (k - 1) _ _ (by omega) ⟨i+1,v',by omega,hk.trans (k3.lower (by omega)),?_,rfl,rfl,rfl,rfl,rfl,rfl,rfl,rfl,rfl,rfl,rfl,rfl,rfl⟩;rw[skip (by unfold uy;rw[show mO 0= -1 from rfl];omega)];exact hG.keep k3
   ·by_cases m1:p=aH 1 ((i:Int)+1) r+1
    ·have b1:(p !=aH 1 ((i:Int)+1) r+1)=false:=by simp[m1]
     simp(disch:=omega) only[ak,↓aj,seval,fQ,fP,fN,fM,fK,fJ,fI,fH,fG,fF,dp,dn,dm,dl,dj,di,dh,dg,dc,cZ,cY,fS,gI,cX,gH,kq,F155,g0E,rt,b1,↓s3.ln]
     exact inner _ (.inl m1) rfl rfl rfl rfl rfl rfl rfl rfl rfl rfl rfl rfl rfl rfl rfl
    ·have b1:(p !=aH 1 ((i:Int)+1) r+1)=true:=by simp[m1]
     by_cases m2:p=aH 1 ((i:Int)+1) r+3
     ·have b2:(p !=aH 1 ((i:Int)+1) r+3)=false:=by simp[m2]
      simp(disch:=omega) only[ak,↓aj,seval,fQ,fP,fN,fM,fK,fJ,fI,fH,fG,fF,dp,dn,dm,dl,dj,di,dh,dg,dc,cZ,cY,fS,gI,cX,gH,kq,F155,g0E,rt,b1,b2,Int.reduceMul,↓s3.ln]
      exact inner _ (.inr m2) rfl rfl rfl rfl rfl rfl rfl rfl rfl rfl rfl rfl rfl rfl rfl
     ·have b2:(p !=aH 1 ((i:Int)+1) r+3)=true:=by simp[m2]
      simp(disch:=omega) only[ak,↓aj,seval,fQ,fP,fN,fM,fK,fJ,fI,fH,fG,fF,dp,dn,dm,dl,dj,di,dh,dg,dc,cZ,cY,fS,gI,cX,gH,kq,F155,g0E,rt,b1,b2,Int.reduceMul]
      refine hN (k - 1) _ _ (by omega) ⟨i+1,v',by omega,hk.trans (k3.lower (by omega)),?_,rfl,rfl,rfl,rfl,rfl,rfl,rfl,rfl,rfl,rfl,rfl,rfl,rfl⟩;rw[skip (by unfold uy;rw[show mO 1=1 from rfl];omega)];exact hG.keep k3
  ·have:i=bs.length:=by omega
   subst this;rw[tK] at hG;simp(disch:=omega) only[ak,↓aj,seval,fQ,fP,fN,fM,fK,fJ,fI,fH,fG,fF,dp,dn,dm,dl,dj,di,dh,dg,dc,cZ,cY,fS,cX,kq,F155,hJ];rw[←iz,←iz];exact main H' v' _ kk hG rfl rfl rfl
 rcases hd01 with rfl | rfl
 ·simp(disch:=omega) only[ak,↓aj,seval,fQ,fP,fN,fM,fK,fJ,fI,fH,fG,fF,dp,dn,dm,dl,dj,di,dh,dg,dc,cZ,cY,cX,kq,F155,hc,hp',r0,↓hb2.ln]
  exact loop _ .nil 0 rfl rfl rfl rfl rfl rfl rfl rfl rfl rfl rfl rfl rfl rfl
 ·simp(disch:=omega) only[ak,↓aj,seval,fQ,fP,fN,fM,fK,fJ,fI,fH,fG,fF,dp,dn,dm,dl,dj,di,dh,dg,dc,cZ,cY,cX,kq,F155,hc,hp',r0,↓hb2.ln]
  exact loop _ .nil 0 rfl rfl rfl rfl rfl rfl rfl rfl rfl rfl rfl rfl rfl rfl
def inB(low high:Int)(h:Hd):Bool:=decide (h.spot>low)&&decide (h.spot < high)
def psB(dir:Int)(h:Hd):Ps:=⟨h.id,h.bed==1,dir⟩
def mt(l:List Hd)(low high dir:Int):List Ps:=(l.filter (inB low high)).map (psB dir)
def sI(l:List Hd)(a b:Int):List Ps:=if b>a then mt l a b 1 else(mt l b a 0).reverse
theorem Ok(l:List Hd)(low high dir:Int)(j:Nat)(hj:j < l.length):mt (l.take (j+1)) low high dir=mt (l.take j) low high dir++(if inB low high l[j]=true then[psB dir l[j]] else[]):=by
 unfold mt;rw[fg hj,List.filter_append,pw];congr 1;by_cases h:inB low high l[j]=true
 ·rw[if_pos h];simp[h]
 ·rw[if_neg h];simp[h]
theorem nS(l:List Hd)(low high dir:Int):(mt l low high dir).length≤l.length:=by
 unfold mt;rw[mD];exact List.length_filter_le _ _
def GR(tm:List IV)(h:tm.length=54):=(ch tm 54 h).trans (by simp only[List.range,List.range.loop,bB,bc];exact rfl)
theorem Fa{n0:Nat}{low high dir:Int}{v u:SV}{l:List Hd}{y1 y2 y6:IV}{H:Heap}{lo:Nat}{Q:Out→Heap→Prop}{tm:List IV}(hlo:lo≤n0)(hn0:n0=H.n)(hu:Sl H u l)(hl:l.length≤1000000)
  (hv:v=.nil) (htm:tm.length=54) (t1:tm.getD 1 IV.undef=y1) (t2:tm.getD 2 IV.undef=y2) (t6:tm.getD 6 IV.undef=y6) (t7:tm.getD 7 IV.undef=.int .i64 low) (t8:tm.getD 8 IV.undef=.int .i64 high) (t9:tm.getD 9 IV.undef=.int .u8 dir) (t10:tm.getD 10 IV.undef=v.iv) (t20:tm.getD 20 IV.undef=u.iv) (t21:tm.getD 21 IV.undef=.int .i64 l.length) (t22:tm.getD 22 IV.undef=.int .i64 0)
  (hQ:∀H' v' tm',Keep n0 H H'→Gr n0 H' 196 v' (mt l low high dir)→tm'.length=54→tm'.getD 9 IV.undef=.int .u8 dir→tm'.getD 10 IV.undef=v'.iv→Q (.ex (.jmp (.exit 0)) ⟨tm',[]⟩) H'):
  W E0 lo (.code (.loop Dd) none ⟨tm,[]⟩) H Q:=by
 refine aO (fun k fm H'=>∃j v',j+k=l.length∧KeepG n0 196 4 H H'∧Gr n0 H' 196 v' (mt (l.take j) low high dir)∧fm.marks=[]∧fm.tm.length=54∧fm.tm.getD 1 IV.undef=y1∧fm.tm.getD 2 IV.undef=y2∧fm.tm.getD 6 IV.undef=y6∧fm.tm.getD 7 IV.undef=.int .i64 low∧fm.tm.getD 8 IV.undef=.int .i64 high∧fm.tm.getD 9 IV.undef=.int .u8 dir∧fm.tm.getD 10 IV.undef=v'.iv∧fm.tm.getD 20 IV.undef=u.iv∧fm.tm.getD 21 IV.undef=.int .i64 l.length∧fm.tm.getD 22 IV.undef=.int .i64 j) ?_ l.length ⟨0,v,by omega,KeepG.refl _ _ _ _,by rw[hv];simpa [mt] using (Gr.nil:Gr n0 H 196 .nil ([]:List Ps)),rfl,htm,t1,t2,t6,t7,t8,t9,t10,t20,t21,t22⟩;clear htm t1 t2 t6 t7 t8 t9 t10 t20 t21 t22;rintro k ⟨tm,mk⟩ H' ⟨j,v',hjk,hk,hG,rfl,htm,t1,t2,t6,t7,t8,t9,t10,t20,t21,t22⟩ L hN hJ;have hn:=hk.1;have hu':Sl H' u l:=hu.keep (hn0▸hk.low (by omega));rw[GR tm htm,t1,t2,t6,t7,t8,t9,t10,t20,t21,t22];by_cases hj:j < l.length
 ·have r1:=hu'.read jl j hj;have hlen:=nS (l.take j) low high dir;rw[eR] at hlen;have hk1:KeepG n0 196 4 H' ((H'.new (.cells false 204 5 [.int .u8 0,.int .i64 0,.int .u8 0,.int .i64 0,.int .i64 0])).put H'.n (.cells false 204 5 [.int .u8 l[j].id.y,.int .i64 l[j].id.n,.int .u8 l[j].bed,.int .i64 l[j].at_,.int .i64 l[j].spot])):=KeepG.of Keep.newPut;have hG1:=hG.keep (Keep.newPut (o:=.cells false 204 5 [.int .u8 0,.int .i64 0,.int .u8 0,.int .i64 0,.int .i64 0]) (o':=.cells false 204 5 [.int .u8 l[j].id.y,.int .i64 l[j].id.n,.int .u8 l[j].bed,.int .i64 l[j].at_,.int .i64 l[j].spot]));have e2:=Ok l low high dir j hj;by_cases c1:l[j].spot>low
  ·by_cases c2:l[j].spot < high
   ·have hin:inB low high l[j]=true:=by unfold inB;simp[c1,c2]
    rw[if_pos hin] at e2;obtain⟨H5,w5,e5,k5,o5⟩:=hG1.pushNew (psB dir l[j]) mH 24 lo hlo (by rw[ai,ac];omega) (by omega);rw[show Cell.cs (psB dir l[j])=[.int .u8 l[j].id.y,.int .i64 l[j].id.n,.bool (l[j].bed==1),.int .u8 dir] from rfl] at e5;rw[ai,ac] at e5;simp(disch:=omega) only[ak,↓aj,seval,MJ,↓hu'.idx,r1,AT,↓e5];refine hN (k - 1) _ _ (by omega) ⟨j+1,w5,by omega,(hk.trans hk1).trans k5,?_,rfl,rfl,rfl,rfl,rfl,rfl,rfl,rfl,rfl,rfl,rfl,rfl⟩;rw[e2];exact o5
   ·have hin:¬inB low high l[j]=true:=by unfold inB;simp;omega
    rw[if_neg hin,ip] at e2;simp(disch:=omega) only[ak,↓aj,seval,MJ,↓hu'.idx,r1,AT];refine hN (k - 1) _ _ (by omega) ⟨j+1,v',by omega,hk.trans hk1,?_,rfl,rfl,rfl,rfl,rfl,rfl,rfl,rfl,rfl,rfl,rfl,rfl⟩;rw[e2];exact hG1
  ·have hin:¬inB low high l[j]=true:=by unfold inB;simp;omega
   rw[if_neg hin,ip] at e2;simp(disch:=omega) only[ak,↓aj,seval,MJ,↓hu'.idx,r1,AT];refine hN (k - 1) _ _ (by omega) ⟨j+1,v',by omega,hk.trans hk1,?_,rfl,rfl,rfl,rfl,rfl,rfl,rfl,rfl,rfl,rfl,rfl,rfl⟩;rw[e2];exact hG1
 ·rw[eW (by omega)] at hG;simp(disch:=omega) only[ak,↓aj,seval,MJ,hJ];exact hQ H' v' _ (hk.low (by omega)) hG rfl rfl rfl
theorem Hg{u:SV}{l:List Hd}(a b:Int){H:Heap}{lo:Nat}{Q:Out→Heap→Prop}(hu:Sl H u l)(hl:l.length≤1000000)(hlo:lo≤H.n)
  (h:∀H' v,Keep H.n H H'→Fresh H.n H' 196 v (sI l a b)→Q (.val v.iv) H'):W E0 lo (.call 159 [u.iv,.int .i64 a,.int .i64 b]) H Q:=by
 refine W.pure bu hlo ?_;rw[avk];by_cases hba:b>a
 ·have e1:sI l a b=mt l a b 1:=by unfold sI;rw[if_pos hba]
  have hlen:=nS l a b 1;simp(disch:=omega) only[ak,↓aj,seval,FF,↓hu.ln];refine Fa (v:=.nil) (au _) rfl hu hl rfl rfl rfl rfl rfl rfl rfl rfl rfl rfl rfl rfl fun H2 v2 tm2 k2 g2 w w9 w10=>?_;have hn2:=k2.1;rw[GR tm2 w,w9,w10];simp(disch:=omega) only[ak,↓aj,seval,FF];refine kg g2.sl (by omega) (by omega) fun H7 b7 k7 hb7 o7=>?_;simp(disch:=omega) only[ak,↓aj,seval,FF];exact fun hk=>h H7 (.sl b7 0 (mt l a b 1).length (mt l a b 1).length true) hk (.inr ⟨b7,by rw[e1],by omega,by rw[e1];exact o7⟩)
 ·have e1:sI l a b=(mt l b a 0).reverse:=by unfold sI;rw[if_neg hba]
  have hlen:=nS l b a 0;simp(disch:=omega) only[ak,↓aj,seval,FF,↓hu.ln];refine Fa (v:=.nil) (au _) rfl hu hl rfl rfl rfl rfl rfl rfl rfl rfl rfl rfl rfl rfl fun H2 v2 tm2 k2 g2 w w9 w10=>?_;have hn2:=k2.1;rw[GR tm2 w,w9,w10];simp(disch:=omega) only[ak,↓aj,seval,FF];refine rf g2.own (by omega) (by omega) fun H8 k8 o8=>?_;have hn8:=k8.1;simp(disch:=omega) only[ak,↓aj,seval,FF];refine kg o8.sl (by rw[j3];omega) (by omega) fun H7 b7 k7 hb7 o7=>?_;simp(disch:=omega) only[ak,↓aj,seval,FF];exact fun hk=>h H7 (.sl b7 0 (mt l b a 0).reverse.length (mt l b a 0).reverse.length true) hk (.inr ⟨b7,by rw[e1],by omega,by rw[e1];exact o7⟩)
def auC(tm:List IV)(h:tm.length=94):=(ch tm 94 h).trans (by simp only[List.range,List.range.loop,bB,bc];exact rfl)
def apQ(p:Ps):Ps:=⟨p.id,p.front,if p.dir=1 then 0 else 1⟩
def axV(l:List Ps):List Ps:=(l.map apQ).reverse
def auK(tm:List IV)(h:tm.length=31):=(ch tm 31 h).trans (by simp only[List.range,List.range.loop,bB,bc];exact rfl)
def crF(c:Cr):Cr:=⟨c.b,c.a, -c.s⟩
theorem zY{fs bs:List (List Id)}(h1:bs.length≤40)(h:∀x∈fs,x.length≤4)(h':∀x∈bs,x.length≤4)(r d:Int):(lh fs bs r d).length≤640:=by
 have:=tf h h' r d bs.length (au _)
 rw[th] at this;unfold lh;split
 ·rw[j3];omega
 ·omega
theorem tm8(a:Nat):(a:Int).tmod 8=((a%8:Nat):Int):=O8 a 8
def arx(tm:List IV)(h:tm.length=146):=(ch tm 146 h).trans (by simp only[List.range,List.range.loop,bB,bc];exact rfl)
def auR(p:Int)(x y:Hd):Bool:=decide (y.id=x.id)&&(decide (x.spot < p) !=decide (y.spot < p))
def asB(p way:Int)(behind:List Hd)(x:Hd):List Ps:=(behind.filter (auR p x)).map fun _=>psE way x.id
def arw(tm:List IV)(h:tm.length=180):=(ch tm 180 h).trans (by simp only[List.range,List.range.loop,bB,bc];exact rfl)
def ayR(fs bs:List (List Id)):List (List Id):=fs++List.replicate (40 - fs.length) []++bs
def asF(r' p:Int)(x:Hd):Bool:=decide (x.spot < p) !=decide (aH x.bed x.at_ r' < p)
def asz(way:Int)(l:List Hd):List Hd:=if way=0 then l.reverse else l
def awF(p way:Int)(before behind:List Hd):List Ps:=(asz way before).flatMap (asB p way behind)
def axd(bs:List (List Id))(r d p:Int):List Hd:=(bs.mapIdx fun(i:Nat) st=>if uy r d p i then ba 1 ((i:Int)+1) (aH 1 ((i:Int)+1) r) (8*(40+i)) st else[]).flatten
def Adj(c:Cr)(l l':List Hd):Prop:=∃P x y S,l=P++x::y::S∧l'=P++y::x::S∧x.id=c.a∧y.id=c.b∧x.bed≠y.bed∧c.s=(if x.bed=0 then 1 else -1)
def aqV:List Cr→List Hd→List Hd→Prop
 | [],l,l'=>l=l'
 | c::cs,l,l'=>∃m,Adj c l m∧aqV cs m l'
def asv(fs bs:List (List Id))(r q:Int):List Hd:=ba 1 (q - r) (4*q) (8*(39+(q - r))).toNat (mF fs bs 1 (q - r))
def asu(fs bs:List (List Id))(q:Int):List Hd:=ba 0 q (4*q+2) (8*(q - 1)).toNat (mF fs bs 0 q)
def axb(fs bs:List (List Id))(r:Int):List Hd:=(List.range 48).flatMap fun(u:Nat)=>asv fs bs r ((u:Int) - 3)++asu fs bs ((u:Int) - 3)
def arv(tm:List IV)(h:tm.length=201):=(ch tm 201 h).trans (by simp only[List.range,List.range.loop,bB,bc];exact rfl)
def auP(y:Int):UInt8:=UInt8.ofNat (IntKind.u8.wrap (48+y)).toNat
def auO(n:Int):UInt8:=UInt8.ofNat (IntKind.u8.wrap (48+IntKind.u8.wrap (n.tmod 10))).toNat
def elS(p:Ps):List UInt8:=auP p.id.y::46::auO p.id.n::((if p.front=true then[43] else[])++(if p.dir=0 then[60,32] else[62,32]))
def awJ(l:List Ps):List UInt8:=l.flatMap elS
def auH(tm:List IV)(h:tm.length=49):=(ch tm 49 h).trans (by simp only[List.range,List.range.loop,bB,bc];exact rfl)
def ki(q p:Ps):Bool:=(q.dir !=p.dir)&&(q.id.y==p.id.y&&(q.id.n==p.id.n&&q.front==p.front))
theorem AY(q p:Ps){H:Heap}{lo:Nat}{Q:Out→Heap→Prop}(hq:q.dir=0∨q.dir=1)(hp:p.dir=0∨p.dir=1)(hlo:lo≤H.n)
  (h:∀H',Keep H.n H H'→Q (.val (.bool (ki q p))) H'):W E0 lo (.call 115 [.agg [.int .u8 q.id.y,.int .i64 q.id.n,.bool q.front,.int .u8 q.dir],.agg [.int .u8 p.id.y,.int .i64 p.id.n,.bool p.front,.int .u8 p.dir]]) H Q:=by
 refine gS _ hlo h fun R hR=>?_;rw[avO];rcases q with⟨⟨qy,qn⟩,qf,qd⟩;rcases p with⟨⟨py,pn⟩,pf,pd⟩;simp only at hq hp;rcases hq with rfl | rfl<;>rcases hp with rfl | rfl
 all_goals
  simp(disch:=omega) only[ak,↓aj,seval,awC,ap3,arg]
  exact hR _
theorem aeC{H:Heap}{b e cap:Nat}{s:List Ps}{q:Ps}(h:Own H b e cap (s++[q])):Own H b e cap s:=by
 obtain⟨h1,h2,r,h3,h4⟩:=h;rw[aW,List.length_singleton] at h1 h4;refine⟨by omega,h2,Cell.cs q++r,?_,?_⟩
 ·rw[h3,cy,cj];simp[aD]
 ·rw[aW,h4,mH]
  show 4+_=_
  omega
def eS(st:List Ps)(p:Ps):List Ps:=match st.getLast? with
 | some q=>if ki q p then st.dropLast else st++[p]
 | none=>st++[p]
theorem oS(p:Ps):eS [] p=[p]:=rfl
theorem lr(s:List Ps)(q p:Ps):eS (s++[q]) p=if ki q p then s else s++[q]++[p]:=by
 unfold eS;rw[List.getLast?_concat];simp only[List.dropLast_concat]
def aw9(l:List Ps):List Ps:=l.foldl eS []
theorem Nn(st:List Ps)(p q:Ps)(h:q∈eS st p):q∈st∨q=p:=by
 rcases Cf st with rfl | ⟨s,x,rfl⟩
 ·rw[oS] at h;exact .inr (by simpa using h)
 ·rw[Ce] at h⊢;rw[lr] at h;split at h
  ·exact .inl (by simp[h])
  ·rw[mV] at h;rcases h with h | h
   ·exact .inl h
   ·exact .inr (by simpa using h)
theorem DZ(l:List Ps):∀(st:List Ps) (q:Ps),q∈l.foldl eS st→q∈st∨q∈l:=by
 induction l with
 | nil=>intro st q h;exact .inl h
 | cons a l ih=>
   intro st q h;rcases ih _ _ h with h | h
   ·rcases Nn _ _ _ h with h | rfl
    ·exact .inl h
    ·exact .inr (by simp)
   ·exact .inr (by simp[h])
theorem No(st:List Ps)(p:Ps):(eS st p).length≤st.length+1:=by
 rcases Cf st with rfl | ⟨s,x,rfl⟩
 ·rw[oS];simp
 ·rw[Ce,lr];split
  ·simp;omega
  ·simp
theorem D0(l:List Ps):∀st:List Ps,(l.foldl eS st).length≤st.length+l.length:=by
 induction l with
 | nil=>intro st;simp
 | cons a l ih=>
   intro st;have h1:=ih (eS st a);have h2:=No st a;rw[xY,fe];omega
theorem D8{H:Heap}{b e cap lo:Nat}{st:List Ps}(ho:Own H b e cap st)(p:Ps)(hr:st.length+1≤cap)(hlo:lo≤b):
  ∃H4,ev1 (.append e 4 24) [.slice b 0 st.length cap true,.slice H.n 0 1 1 true] lo (H.new (.cells false e 4 (Cell.cs p)))=some (.slice b 0 (st.length+1) cap true,H4)∧(∀n0,n0≤b→Keep n0 H H4)∧Own H4 b e cap (st++[p]):=by
 have ho1:=ho.keep (.new _ (.cells false e 4 (Cell.cs p)));obtain⟨H4,e1,n1,k1,o1⟩:=ge (ex:=true) (m:=[p]) (v:=.sl H.n 0 1 1 true) ho1 ((rG mH p).sl true) mH 24 lo hr hlo;exact⟨H4,e1,fun n0 hn0=>(Keep.new _ _).trans ⟨by omega,fun x h1 h2=>k1 x (by omega)⟩,o1⟩
theorem zd{v:SV}{l:List Ps}{H:Heap}{lo:Nat}{Q:Out→Heap→Prop}(hv:Sl H v l)(hl:l.length≤1000000)(hlo:lo≤H.n)
  (h:∀H' b,Keep H.n H H'→H.n≤b→Own H' b 196 l.length l→Q (.val (SV.sl b 0 l.length l.length true).iv) H'):W E0 lo (.call 196 [v.iv]) H Q:=by
 refine W.pure bu hlo ?_;rw[au4];obtain⟨H2,e1,e2,e3,e4⟩:=fi hv (z:=4) rfl 196 H.n [IV.int .u8 0,.int .i64 0,.bool false,.int .u8 0] rfl (au _);simp(disch:=omega) only[ak,↓aj,seval,awj,↓hv.ln,↓e1,Int.reducePow];exact fun hk=>h _ _ hk (au _) e4
def awS(p:Ps):Ps:=⟨p.id,p.front,1 - p.dir⟩
theorem RB(l:List Hd)(a b:Int):∀p∈sI l a b,p.dir=if b>a then 1 else 0:=by
 have key:∀(l:List Hd) (x y d:Int),∀p∈mt l x y d,p.dir=d:=fun l x y d p hp=>by
  unfold mt at hp;obtain⟨h,_,rfl⟩:=List.mem_map.1 hp;rfl
 intro p hp;unfold sI at hp;split at hp
 ·rename_i h;rw[if_pos h];exact key _ _ _ _ _ hp
 ·rename_i h;rw[if_neg h];exact key _ _ _ _ _ (List.mem_reverse.1 hp)
theorem RA(l:List Hd)(a b:Int):(sI l a b).length≤l.length:=by
 unfold sI;split
 ·exact nS _ _ _ _
 ·rw[j3];exact nS _ _ _ _
def axc(a b:Int)(l:List Hd):List Hd:=if b>a then l else l.reverse
end Go.Iso.Gen
end
