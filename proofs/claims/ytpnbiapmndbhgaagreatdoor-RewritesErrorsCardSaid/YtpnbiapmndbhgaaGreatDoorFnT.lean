/-
  orders of loops.
-/
import Derived.Test.YtpnbiapmndbhgaaGreatDoorFnS
set_option linter.unusedSimpArgs false
set_option linter.unusedVariables false
set_option maxHeartbeats 4000000
set_option maxRecDepth 10000
set_option linter.defProp false
section
namespace Go.Iso
def KeepX(mb:Nat)(H H':Heap):Prop:=H.n≤H'.n∧∀x,x < H.n→x≠mb→H'.get x=H.get x
theorem KeepX.refl(mb:Nat)(H:Heap):KeepX mb H H:=⟨Nat.le_refl _,fun _ _ _=>rfl⟩
theorem KeepX.trans{mb:Nat}{a b c:Heap}(h:KeepX mb a b)(k:KeepX mb b c):KeepX mb a c:=⟨Nat.le_trans h.1 k.1,fun x h1 h2=>(k.2 x (Nat.lt_of_lt_of_le h1 h.1) h2).trans (h.2 x h1 h2)⟩
theorem KeepX.of{mb:Nat}{H H':Heap}(k:Keep H.n H H'):KeepX mb H H':=⟨k.1,fun x h _=>k.2 x h h⟩
theorem KeepX.put{mb:Nat}{H:Heap}(o:IObj):KeepX mb H (H.put mb o):=⟨Nat.le_refl _,fun x _ h=>by rw[aa,if_neg (Ne.symm h)]⟩
end Go.Iso
namespace Go.Iso.Gen
open Go.Iso Go.Proofs
structure Hd where
 id:Id
 bed:Int
 at_:Int
 spot:Int
 k:Nat
 deriving Inhabited
instance:Cell Hd where
 z:=5
 cs h:=[.int .u8 h.id.y,.int .i64 h.id.n,.int .u8 h.bed,.int .i64 h.at_,.int .i64 h.spot]
 len _:=rfl
 one _:=rfl
 pos:=by omega
theorem yc(h:Hd):Cell.cs h=[.int .u8 h.id.y,.int .i64 h.id.n,.int .u8 h.bed,.int .i64 h.at_,.int .i64 h.spot]:=rfl
theorem iX:Cell.z Hd=5:=rfl
def ch(x y:Hd):Prop:=x.spot < y.spot∨(x.spot=y.spot∧x.k < y.k)
theorem Ng(a:Hd):¬ch a a:=by unfold ch;omega
theorem kD(a b c:Hd)(h:ch a b)(k:ch b c):ch a c:=by unfold ch at *;omega
def iP(x y:Hd):Prop:=x.k < y.k
def iL(a b:Int):Int:=if a < b then -1 else if a>b then 1 else 0
theorem Rg(a b:Int){H:Heap}{lo:Nat}{Q:Out→Heap→Prop}(h:Q (.val (.int .i64 (iL a b))) H):W E0 lo (.call 136 [.int .i64 a,.int .i64 b]) H Q:=by
 rw[SS];unfold iL at h;by_cases h1:a < b
 ·rw[if_pos h1] at h;simp(disch:=omega) only[ai,↓ah,seval,HF,HE,Ho];exact h
 ·rw[if_neg h1] at h;by_cases h2:a>b
  ·rw[if_pos h2] at h;simp(disch:=omega) only[ai,↓ah,seval,HF,HE,Ho];exact h
  ·rw[if_neg h2] at h;simp(disch:=omega) only[ai,↓ah,seval,HF,HE,Ho];exact h
theorem uf(x y:Hd){H:Heap}{lo:Nat}{Q:Out→Heap→Prop}(hlo:lo≤H.n)(h:∀H',Keep H.n H H'→Q (.val (.int .i64 (iL x.spot y.spot))) H'):W E0 lo (.call 153 [.agg (Cell.cs x),.agg (Cell.cs y)]) H Q:=by
 refine gu _ hlo h fun R hR=>?_;rw[XJ];simp(disch:=omega) only[ai,↓ah,seval,Tv,yc];refine Rg _ _ ?_;simp(disch:=omega) only[ai,↓ah,seval,Tv];exact hR _
end Go.Iso.Gen
end
section
namespace Go.Iso
theorem Own.store{α:Type}[Cell α]{H:Heap}{b e cap:Nat}{l:List α}(h:Own H b e cap l){z:Nat}(hz:Cell.z α=z)(i:Nat)(hi:i < l.length)(a:α)(lo:Nat)(hlo:lo≤b):∃ob,ev1 (.store z) [.ptr b (i*z),.agg (Cell.cs a)] lo H=some (IV.undef,H.put b ob)∧Own (H.put b ob) b e cap (l.set i a):=by
 obtain⟨cs,w,s⟩:=h.set hz i hi a lo hlo;refine⟨_,?_,s⟩;simp only[ev1,IV.cells,w,Option.map_some];rw[if_pos (by rw[Cell.len];exact hz)]
theorem jz{α:Type}[Cell α][Inhabited α]{H:Heap}{b e cap:Nat}{l:List α}(h:Own H b e cap l){z:Nat}(hz:Cell.z α=z){i j:Nat}(hi:i < l.length)(hj:j < l.length)(lo:Nat)(hlo:lo≤b):
  ∃o1 o2,ev1 (.store z) [.ptr b (i*z),.agg (Cell.cs (aC l j))] lo H=some (IV.undef,H.put b o1)∧ev1 (.store z) [.ptr b (j*z),.agg (Cell.cs (aC l i))] lo (H.put b o1)=some (IV.undef,(H.put b o1).put b o2)∧Own ((H.put b o1).put b o2) b e cap (gj l i j):=by
 obtain⟨o1,w1,s1⟩:=h.store hz i hi (aC l j) lo hlo;obtain⟨o2,w2,s2⟩:=s1.store hz j (by simpa using hj) (aC l i) lo hlo;exact⟨_,_,w1,w2,s2⟩
theorem Own.nthRead{α:Type}[Cell α][Inhabited α]{H:Heap}{b e cap:Nat}{l:List α}(h:Own H b e cap l){z:Nat}(hz:Cell.z α=z){i:Nat}(hi:i < l.length):H.read b (i*z) z=some (Cell.cs (aC l i)):=by
 have:=(h.sl true).read hz i hi
 rw[fe hi];simpa [SV.blk,SV.off] using this
end Go.Iso
namespace Go.Iso.Gen
open Go.Iso Go.Proofs
def Q3(tm:List IV)(h:tm.length=38):=(bL tm 38 h).trans (by simp only[List.range,List.range.loop,List.map_cons,List.map_nil];exact rfl)
theorem lL{blk e cap:Nat}{ex:Bool}{l:List Hd}{g:IV}(a b n:Nat){H:Heap}{lo:Nat}{Q:Out→Heap→Prop}(hO:Own H blk e cap l)(hlo:lo≤blk)(hl:l.length≤1000000)(hab:a+n≤b)(hb:b+n≤l.length)
  (h:∀H' l',KeepX blk H H'→Own H' blk e cap l'→Mix a (b+n) l l'→(∀x,aC l' x=gl (aC l) a b n x)→Q (.val (.tuple [])) H'):W E0 lo (.call 220 [(SV.sl blk 0 l.length cap ex).iv,.int .i64 a,.int .i64 b,.int .i64 n,g]) H Q:=by
 rw[Xf];simp(disch:=omega) only[ai,↓ah,seval,To];refine aM (fun k fr H'=>∃(i:Nat) (l':List Hd),i+k=n∧KeepX blk H H'∧Own H' blk e cap l'∧Mix a (b+n) l l'∧(∀x,aC l' x=gl (aC l) a b i x)∧fr.marks=[]∧fr.tm.length=38∧fr.tm.getD 0 IV.undef=(SV.sl blk 0 l.length cap ex).iv∧fr.tm.getD 1 IV.undef=.int .i64 a∧fr.tm.getD 2 IV.undef=.int .i64 b∧fr.tm.getD 3 IV.undef=.int .i64 n∧fr.tm.getD 10 IV.undef=.int .i64 i) ?_ n ⟨0,l,by omega,KeepX.refl _ _,hO,Mix.refl _ _ _,fun x=>(Da _ _ _ _).symm,rfl,rfl,rfl,rfl,rfl,rfl,rfl⟩;rintro k ⟨tm,mk⟩ H' ⟨i,l',hik,hk,hO',hM,hf,rfl,htm,t0,t1,t2,t3,t10⟩ L hN hJ;rw[Q3 tm htm,t0,t1,t2,t3,t10];by_cases hi:i < n
 ·have hl':=hM.len;have hv:=hO'.sl ex;rw[hl'] at hv;have hv':Sl H' (SV.sl blk 0 l.length cap ex) l':=hv;obtain⟨o1,o2,w1,w2,s2⟩:=jz hO' iX (i:=a+i) (j:=b+i) (by omega) (by omega) lo hlo;have r1:=hO'.nthRead iX (i:=a+i) (by omega);have r2:=hO'.nthRead iX (i:=b+i) (by omega);have ea:((a:Int)+(i:Int)).toNat=a+i:=by omega
  have eb:((b:Int)+(i:Int)).toNat=b+i:=by omega
  have hidx:∀(x:Int) (lo:Nat) (H9:Heap),0≤x→x < l.length→ev1 (.idxSl 5) [.slice blk 0 l.length cap ex,.int .i64 x] lo H9=some (.ptr blk (x.toNat*5),H9):=fun x lo H9 h0 h1=>by
   have:=hv'.idx 5 x lo H9 h0 (by omega)
   simpa [SV.blk,SV.off,SV.iv] using this
  simp(disch:=omega) only[ai,↓ah,seval,PO,↓hidx,ea,eb,r1,r2,↓w1,↓w2]
  have hM':Mix a (b+n) l' (gj l' (a+i) (b+i)):=rp (by omega) (by omega) (by omega);refine hN (k - 1) _ _ (by omega) ⟨i+1,gj l' (a+i) (b+i),by omega,(hk.trans (KeepX.put _)).trans (KeepX.put _),s2,hM.trans hM',fun x=>?_,rfl,rfl,rfl,rfl,rfl,rfl,rfl⟩;refine Db (g:=aC (gj l' (a+i) (b+i))) (by omega) (fun y=>?_) x;rw[gz (by omega) (by omega),hf,hf,hf]
 ·simp(disch:=omega) only[ai,↓ah,seval,PO,hJ]
  have:i=n:=by omega
  subst this;exact h H' l' hk hO' hM hf
def QZ(tm:List IV)(h:tm.length=58):=(bL tm 58 h).trans (by simp only[List.range,List.range.loop,List.map_cons,List.map_nil];exact rfl)
theorem Gj{blk e cap:Nat}{ex:Bool}{l:List Hd}{g:IV}(a m b:Nat){H:Heap}{lo:Nat}{Q:Out→Heap→Prop}(hO:Own H blk e cap l)(hlo:lo≤blk)(hl:l.length≤1000000)(ham:a < m)(hmb:m < b)(hb:b≤l.length)
  (h:∀H' l',KeepX blk H H'→Own H' blk e cap l'→Mix a b l l'→(∀x,aC l' x=lP (aC l) a m b x)→Q (.val (.tuple [])) H'):W E0 lo (.call 219 [(SV.sl blk 0 l.length cap ex).iv,.int .i64 a,.int .i64 m,.int .i64 b,g]) H Q:=by
 rw[Xg];simp(disch:=omega) only[ai,↓ah,seval,Tp];have e1:(m:Int) - (a:Int)=((m - a:Nat):Int):=by omega
 have e2:(b:Int) - (m:Int)=((b - m:Nat):Int):=by omega
 refine aM (fun k fr H'=>∃(i j:Nat) (l':List Hd),i+j=k∧0 < i∧0 < j∧i≤m - a∧j≤b - m∧KeepX blk H H'∧Own H' blk e cap l'∧Mix a b l l'∧(∀x,lP (aC l') (m - i) m (m+j) x=lP (aC l) a m b x)∧fr.marks=[]∧fr.tm.length=58∧fr.tm.getD 0 IV.undef=(SV.sl blk 0 l.length cap ex).iv∧fr.tm.getD 2 IV.undef=.int .i64 m∧fr.tm.getD 4 IV.undef=g∧fr.tm.getD 10 IV.undef=.int .i64 i∧fr.tm.getD 11 IV.undef=.int .i64 j) ?_ ((m - a)+(b - m)) ⟨m - a,b - m,l,rfl,by omega,by omega,by omega,by omega,KeepX.refl _ _,hO,Mix.refl _ _ _,fun x=>by rw[show m - (m - a)=a from by omega,show m+(b - m)=b from by omega],rfl,rfl,rfl,rfl,rfl,congrArg _ e1,congrArg _ e2⟩;clear e1 e2;rintro k ⟨tm,mk⟩ H' ⟨i,j,l',hik,hi0,hj0,hi,hj,hk,hO',hM,hf,rfl,htm,t0,t2,t4,t10,t11⟩ L hN hJ;rw[QZ tm htm,t0,t2,t4,t10,t11];have hl':=hM.len;have e1:(m:Int) - (i:Int)=((m - i:Nat):Int):=by omega
 rcases Nat.lt_trichotomy i j with hij | hij | hij
 ·have e2:(m:Int)+(j:Int)=((m+j:Nat):Int):=by omega
  have e3:((m+j:Nat):Int) - (i:Int)=((m+j - i:Nat):Int):=by omega
  have e4:(j:Int) - (i:Int)=((j - i:Nat):Int):=by omega
  simp(disch:=omega) only[ai,↓ah,seval,yw,e1,e2,e3]
  rw[←hl'];refine lL (m - i) (m+j - i) i hO' hlo (by omega) (by omega) (by omega) fun H2 l2 k2 o2 m2 f2=>?_;simp(disch:=omega) only[ai,↓ah,seval,yw,e4];refine hN _ _ _ (by omega) ⟨i,j - i,l2,rfl,by omega,by omega,by omega,by omega,hk.trans k2,o2,hM.trans (m2.wide (by omega) (by omega)),fun x=>?_,rfl,rfl,by rw[hl'];rfl,rfl,rfl,rfl,rfl⟩;rw[Gk (by omega) hi0 hij f2,hf]
 ·subst hij;simp(disch:=omega) only[ai,↓ah,seval,yw,hJ,e1];rw[←hl'];refine lL (m - i) m i hO' hlo (by omega) (by omega) (by omega) fun H2 l2 k2 o2 m2 f2=>?_;simp(disch:=omega) only[ai,↓ah,seval,yw];exact h H2 l2 (hk.trans k2) o2 (hM.trans (m2.wide (by omega) (by omega))) fun x=>by rw[Jk (by omega) f2,hf]
 ·have e4:(i:Int) - (j:Int)=((i - j:Nat):Int):=by omega
  simp(disch:=omega) only[ai,↓ah,seval,yw,e1]
  rw[←hl'];refine lL (m - i) m j hO' hlo (by omega) (by omega) (by omega) fun H2 l2 k2 o2 m2 f2=>?_;simp(disch:=omega) only[ai,↓ah,seval,yw,e4];refine hN _ _ _ (by omega) ⟨i - j,j,l2,rfl,by omega,by omega,by omega,by omega,hk.trans k2,o2,hM.trans (m2.wide (by omega) (by omega)),fun x=>?_,rfl,rfl,by rw[hl'];rfl,rfl,rfl,rfl,rfl⟩;rw[Jl (by omega) hj0 hij f2,hf]
theorem uo{a b:Int}(h:a < b):(iL a b < 0)=True:=by unfold iL;rw[if_pos h];simp
theorem up{a b:Int}(h:b≤a):(iL a b < 0)=False:=by unfold iL;rw[if_neg (by omega)];split<;>simp
theorem zT{α:Type}[Cell α]{H:Heap}{blk e cap:Nat}{l:List α}(h:Own H blk e cap l)(ex:Bool)(z:Nat):∀(x:Int) (lo:Nat) (H9:Heap),0≤x→x < l.length→ev1 (.idxSl z) [.slice blk 0 l.length cap ex,.int .i64 x] lo H9=some (.ptr blk (x.toNat*z),H9):=fun x lo H9 h0 h1=>by
 have:=(h.sl ex).idx z x lo H9 h0 h1
 simpa [SV.blk,SV.off,SV.iv] using this
structure Ins(a i j:Nat)(y:Hd)(l:List Hd):Prop where
 at_:aC l j=y
 srt:∀p q,a≤p→p < q→q≤i→p≠j→q≠j→ch (aC l p) (aC l q)
 gt:∀q,j < q→q≤i→ch y (aC l q)
 ord:∀p,a≤p→p≤i→p≠j→iP (aC l p) y
theorem Ins.move{a i j:Nat}{y:Hd}{l:List Hd}(h:Ins a i j y l)(hj:a < j)(hi:j≤i)(hl:i < l.length)(hlt:ch y (aC l (j - 1))):Ins a i (j - 1) y (gj l j (j - 1)):=by
 have hs:∀x,aC (gj l j (j - 1)) x=if x=j - 1 then aC l j else if x=j then aC l (j - 1) else aC l x:=gz (by omega) (by omega);refine⟨?_,fun p q h1 h2 h3 h4 h5=>?_,fun q h1 h2=>?_,fun p h1 h2 h3=>?_⟩
 ·rw[hs,if_pos rfl];exact h.at_
 ·rw[hs,hs,if_neg h4,if_neg h5];by_cases c1:p=j
  ·subst c1;rw[if_pos rfl,if_neg (by omega)];exact h.srt _ _ (by omega) (by omega) h3 (by omega) (by omega)
  ·rw[if_neg c1];by_cases c2:q=j
   ·subst c2;rw[if_pos rfl];exact h.srt _ _ h1 (by omega) (by omega) c1 (by omega)
   ·rw[if_neg c2];exact h.srt _ _ h1 h2 h3 c1 c2
 ·rw[hs,if_neg (by omega)];by_cases c:q=j
  ·rw[if_pos c];exact hlt
  ·rw[if_neg c];exact h.gt q (by omega) h2
 ·rw[hs,if_neg h3];by_cases c:p=j
  ·rw[if_pos c];exact h.ord _ (by omega) (by omega) (by omega)
  ·rw[if_neg c];exact h.ord p h1 h2 c
theorem Ins.done{a i j:Nat}{y:Hd}{l:List Hd}(h:Ins a i j y l)(hj:a≤j)(hi:j≤i)(hlt:j=a∨ch (aC l (j - 1)) y):Srt ch l a (i+1):=by
 intro p q h1 h2 h3;by_cases c1:p=j
 ·subst c1;rw[h.at_];exact h.gt q h2 (by omega)
 ·by_cases c2:q=j
  ·subst c2;rw[h.at_];rcases hlt with e | hlt
   ·omega
   ·by_cases c3:p=q - 1
    ·subst c3;exact hlt
    ·exact kD _ _ _ (h.srt _ _ h1 (by omega) (by omega) c1 (by omega)) hlt
  ·exact h.srt _ _ h1 h2 (by omega) c1 c2
def DS(tm:List IV)(h:tm.length=53):=(bL tm 53 h).trans (by simp only[List.range,List.range.loop,List.map_cons,List.map_nil];exact rfl)
theorem GZ{blk e cap:Nat}{ex:Bool}{l:List Hd}{a i:Nat}{y2 y8:IV}{y:Hd}{H:Heap}{lo:Nat}{Q:Out→Heap→Prop}{tm:List IV}(hO:Own H blk e cap l)(hlo:lo≤blk)(hl:l.length≤1000000)(hai:a≤i)(hi:i < l.length)(hI:Ins a i i y l)
  (htm:tm.length=53) (t0:tm.getD 0 IV.undef=(SV.sl blk 0 l.length cap ex).iv) (t1:tm.getD 1 IV.undef=.int .i64 a) (t2:tm.getD 2 IV.undef=y2) (t3:tm.getD 3 IV.undef=.fn 153 [] []) (t8:tm.getD 8 IV.undef=y8) (t9:tm.getD 9 IV.undef=.int .i64 i)
  (hQ:∀H' l' tm',KeepX blk H H'→Own H' blk e cap l'→Mix a (i+1) l l'→Srt ch l' a (i+1)→tm'.length=53→tm'.getD 0 IV.undef=(SV.sl blk 0 l.length cap ex).iv→tm'.getD 1 IV.undef=.int .i64 a→tm'.getD 2 IV.undef=y2→tm'.getD 3 IV.undef=.fn 153 [] []→tm'.getD 8 IV.undef=y8→Q (.ex (.jmp (.exit 2)) ⟨tm',[]⟩) H'):
  W E0 lo (.code (.loop (GU Tryz.f211 585)) none ⟨tm,[]⟩) H Q:=by
 refine aM (fun k fr H'=>∃(l':List Hd),a≤k∧k≤i∧KeepX blk H H'∧Own H' blk e cap l'∧Mix a (i+1) l l'∧Ins a i k y l'∧fr.marks=[]∧fr.tm.length=53∧fr.tm.getD 0 IV.undef=(SV.sl blk 0 l.length cap ex).iv∧fr.tm.getD 1 IV.undef=.int .i64 a∧fr.tm.getD 2 IV.undef=y2∧fr.tm.getD 3 IV.undef=.fn 153 [] []∧fr.tm.getD 8 IV.undef=y8∧fr.tm.getD 9 IV.undef=.int .i64 k) ?_ i ⟨l,hai,Nat.le_refl _,KeepX.refl _ _,hO,Mix.refl _ _ _,hI,rfl,htm,t0,t1,t2,t3,t8,t9⟩;clear htm t0 t1 t2 t3 t8 t9 hO hI;rintro k ⟨tm,mk⟩ H' ⟨l',hak,hki,hk,hO',hM,hI,rfl,htm,t0,t1,t2,t3,t8,t9⟩ L hN hJ;have hl':=hM.len;rw[DS tm htm,t0,t1,t2,t3,t8,t9,←hl'];have hbl:=hO'.2.1;by_cases hja:a < k
 ·have hidx:=zT hO' ex 5;have e1:((k:Int) - 1).toNat=k - 1:=by omega
  have r1:=hO'.nthRead iX (i:=k) (by omega);have r2:=hO'.nthRead iX (i:=k - 1) (by omega);simp(disch:=omega) only[ai,↓ah,seval,FJ,↓hidx,e1,r1,r2];refine uf _ _ (by omega) fun H2 k2=>?_;have hO2:=hO'.keep k2;have kk2:=hk.trans (KeepX.of k2);have hord:=hI.ord (k - 1) (by omega) (by omega) (by omega);rw[←hI.at_] at hord;by_cases hc:(aC l' k).spot < (aC l' (k - 1)).spot
  ·obtain⟨o1,o2,w1,w2,s2⟩:=jz hO2 iX (i:=k) (j:=k - 1) (by omega) (by omega) lo hlo;have q1:=hO2.nthRead iX (i:=k) (by omega);have q2:=hO2.nthRead iX (i:=k - 1) (by omega);have hc':=uo hc;simp(disch:=omega) only[ai,↓ah,seval,FJ,hc',↓hidx,e1,q1,q2,↓w1,↓w2];refine hN (k - 1) _ _ (by omega) ⟨gj l' k (k - 1),by omega,by omega,(kk2.trans (KeepX.put _)).trans (KeepX.put _),s2,hM.trans (rp (by omega) (by omega) (by omega)),hI.move hja hki (by omega) (by rw[←hI.at_];exact .inl hc),rfl,rfl,by rw[hl'];rfl,rfl,rfl,rfl,rfl,?_⟩
   show IV.int _ _=_
   congr 1;omega
  ·have hc':=up (a:=(aC l' k).spot) (b:=(aC l' (k - 1)).spot) (by omega);simp(disch:=omega) only[ai,↓ah,seval,FJ,hc',hJ];refine hQ H2 l' _ kk2 hO2 hM (hI.done hak hki (.inr ?_)) rfl (by rw[hl'];rfl) rfl rfl rfl rfl;rw[←hI.at_];unfold iP at hord;unfold ch;omega
 ·have:k=a:=by omega
  subst this;simp(disch:=omega) only[ai,↓ah,seval,FJ,hJ];exact hQ H' l' _ hk hO' hM (hI.done hak hki (.inl rfl)) rfl (by rw[hl'];rfl) rfl rfl rfl rfl
theorem qC{blk e cap:Nat}{ex:Bool}{l:List Hd}(a b:Nat){H:Heap}{lo:Nat}{Q:Out→Heap→Prop}(hO:Own H blk e cap l)(hlo:lo≤blk)(hl:l.length≤1000000)(hab:a≤b)(hb:b≤l.length)(hord:Srt iP l a b)
  (h:∀H' l',KeepX blk H H'→Own H' blk e cap l'→Mix a b l l'→Srt ch l' a b→Q (.val (.tuple [])) H'):W E0 lo (.call 211 [(SV.sl blk 0 l.length cap ex).iv,.int .i64 a,.int .i64 b,.fn 153 [] []]) H Q:=by
 rw[Xk];simp(disch:=omega) only[ai,↓ah,seval,Ts];refine aM (fun k fr H'=>∃(i:Nat) (l':List Hd),a+1≤i∧i≤max b (a+1)∧i+k=max b (a+1)∧KeepX blk H H'∧Own H' blk e cap l'∧Mix a b l l'∧(∀x,i≤x→aC l' x=aC l x)∧(∀x,a≤x→x < i→∃y,a≤y∧y < i∧aC l' x=aC l y)∧Srt ch l' a i∧fr.marks=[]∧fr.tm.length=53∧fr.tm.getD 0 IV.undef=(SV.sl blk 0 l.length cap ex).iv∧fr.tm.getD 1 IV.undef=.int .i64 a∧fr.tm.getD 2 IV.undef=.int .i64 b∧fr.tm.getD 3 IV.undef=.fn 153 [] []∧fr.tm.getD 8 IV.undef=.int .i64 i) ?_ (max b (a+1) - (a+1)) ⟨a+1,l,by omega,by omega,by omega,KeepX.refl _ _,hO,Mix.refl _ _ _,fun _ _=>rfl,fun x h1 h2=>⟨x,h1,h2,rfl⟩,fun i j h1 h2 h3=>by omega,rfl,rfl,rfl,rfl,rfl,rfl,rfl⟩;rintro k ⟨tm,mk⟩ H' ⟨i,l',hai,him,hik,hk,hO',hM,hout,himg,hS,rfl,htm,t0,t1,t2,t3,t8⟩ L hN hJ;rw[DS tm htm,t0,t1,t2,t3,t8];have hl':=hM.len;by_cases hib:i < b
 ·simp(disch:=omega) only[ai,↓ah,seval,tH,tG,tF,tE,tD,tC,tB,(bj Tryz.f211 9),(ax Tryz.f211 1),El]
  have hI:Ins a i i (aC l' i) l':=by
   refine⟨rfl,fun p q h1 h2 h3 h4 h5=>hS p q h1 h2 (by omega),fun q h1 h2=>by omega,fun p h1 h2 h3=>?_⟩
   obtain⟨y,y1,y2,y3⟩:=himg p h1 (by omega);rw[y3,hout i (Nat.le_refl _)];exact hord y i y1 (by omega) hib
  refine GZ (ex:=ex) hO' hlo (by omega) (by omega) (by omega) hI rfl (by rw[hl'];rfl) rfl rfl rfl rfl rfl fun H2 l2 tm2 k2 o2 m2 s2 htm2 u0 u1 u2 u3 u8=>?_;rw[DS tm2 htm2,u0,u1,u2,u3,u8];simp(disch:=omega) only[ai,↓ah,seval,tH,tG,tF,tE,tD,tC,tB,(bj Tryz.f211 9),(ax Tryz.f211 1),El];refine hN (k - 1) _ _ (by omega) ⟨i+1,l2,by omega,by omega,by omega,hk.trans k2,o2,hM.trans (m2.wide (Nat.le_refl _) (by omega)),fun x hx=>(m2.out x (by omega)).trans (hout x (by omega)),fun x h1 h2=>?_,s2,rfl,rfl,by rw[←hl'];rfl,rfl,rfl,rfl,rfl⟩;obtain⟨y,y1,y2,y3⟩:=m2.img x h1 h2;by_cases hy:y < i
  ·obtain⟨z,z1,z2,z3⟩:=himg y y1 hy;exact⟨z,z1,by omega,y3.trans z3⟩
  ·exact⟨y,y1,y2,y3.trans (hout y (by omega))⟩
 ·simp(disch:=omega) only[ai,↓ah,seval,tH,tG,tF,tE,tD,tC,tB,(bj Tryz.f211 9),(ax Tryz.f211 1),El,hJ]
  exact h H' l' hk hO' hM (hS.part (Nat.le_refl _) (by omega))
end Go.Iso.Gen
end
section
namespace Go.Iso
theorem FS{a:Int}(h:0≤a∧a≤9223372036854775807):IntKind.u64.wrap a=a:=by
 unfold IntKind.wrap;simp only[IntKind.signed,IntKind.bits];simp;omega
theorem oT(x:Int)(h:0≤x)(lo:Nat)(H:Heap):ev1 (.bin .shr) [.int .u64 x,.int .u64 1] lo H=some (.int .u64 (x / 2),H):=by
 simp only[ev1,nX];rw[if_neg (by omega)];simp only[Option.map_some];congr 3
 show x.fdiv (2^(Min.min (1:Int).toNat 64))=x / 2
 rw[show Min.min (1:Int).toNat 64=1 from rfl,Int.pow_one,Int.fdiv_eq_ediv_of_nonneg _ (by omega)]
end Go.Iso
namespace Go.Iso.Gen
open Go.Iso Go.Proofs
def iz(tm:List IV)(h:tm.length=220):=(bL tm 220 h).trans (by simp only[List.range,List.range.loop,List.map_cons,List.map_nil];exact rfl)
theorem I1{blk e cap:Nat}{ex:Bool}{l:List Hd}{a m b:Nat}{H:Heap}{lo:Nat}{Q:Out→Heap→Prop}{tm:List IV}(hO:Own H blk e cap l)(hl:l.length≤1000000)(ham:a < m)(hmb:m < b)(hb:b≤l.length)(hlh:lo≤H.n)
  (hS:Srt ch l m b) (hord:∀j,m≤j→j < b→iP (aC l a) (aC l j))
  (htm:tm.length=220) (t0:tm.getD 0 IV.undef=(SV.sl blk 0 l.length cap ex).iv) (t1:tm.getD 1 IV.undef=.int .i64 a) (t4:tm.getD 4 IV.undef=.fn 153 [] []) (ti:tm.getD 10 IV.undef=.int .i64 (m:Nat)) (tj:tm.getD 11 IV.undef=.int .i64 (b:Nat))
  (hQ:∀H' tm' i,Keep H.n H H'→m≤i→i≤b→(∀q,m≤q→q < i→ch (aC l q) (aC l a))→(∀q,i≤q→q < b→ch (aC l a) (aC l q))→tm'.length=220→tm'.getD 0 IV.undef=(SV.sl blk 0 l.length cap ex).iv→tm'.getD 1 IV.undef=.int .i64 a→tm'.getD 4 IV.undef=.fn 153 [] []→tm'.getD 10 IV.undef=.int .i64 (i:Nat)→Q (.ex (.jmp (.exit 0)) ⟨tm',[]⟩) H'):
  W E0 lo (.code (.loop (sK Tryz.f212 282)) none ⟨tm,[]⟩) H Q:=by
 refine aM (fun k fr H'=>∃i j,i+k=j∧m≤i∧j≤b∧Keep H.n H H'∧(∀q,m≤q→q < i→ch (aC l q) (aC l a))∧(∀q,j≤q→q < b→ch (aC l a) (aC l q))∧fr.marks=[]∧fr.tm.length=220∧fr.tm.getD 0 IV.undef=(SV.sl blk 0 l.length cap ex).iv∧fr.tm.getD 1 IV.undef=.int .i64 a∧fr.tm.getD 4 IV.undef=.fn 153 [] []∧fr.tm.getD 10 IV.undef=.int .i64 (i:Nat)∧fr.tm.getD 11 IV.undef=.int .i64 (j:Nat)) ?_ (b - m) ⟨m,b,by omega,Nat.le_refl _,Nat.le_refl _,Keep.refl _ _,fun q h1 h2=>by omega,fun q h1 h2=>by omega,rfl,htm,t0,t1,t4,ti,tj⟩;clear htm t0 t1 t4 ti tj;rintro k ⟨tm,mk⟩ H' ⟨i,j,hij,hmi,hjb,hk,hL,hR,rfl,htm,t0,t1,t4,ti,tj⟩ L hN hJ;rw[iz tm htm,t0,t1,t4,ti,tj];have hn:=hk.1;by_cases hlt:i < j
 ·have hO':=hO.keep hk;have hidx:=zT hO' ex 5;have eh:((i:Int)+(j:Int)) / 2=(((i+j) / 2:Nat):Int):=by omega
  have r1:=hO'.nthRead iX (i:=(i+j) / 2) (by omega);have r2:=hO'.nthRead iX (i:=a) (by omega);simp(disch:=omega) only[ai,↓ah,seval,iW,↓hidx,FS,↓oT,eh,r1,r2,Int.toNat_natCast];refine uf _ _ (by omega) fun H2 k2=>?_;have kk2:Keep H.n H H2:=hk.trans (k2.lower hn);by_cases hc:(aC l ((i+j) / 2)).spot < (aC l (a)).spot
  ·have hc':=uo hc;have hlt':ch (aC l ((i+j) / 2)) (aC l (a)):=.inl hc;simp(disch:=omega) only[ai,↓ah,seval,iW,hc']
   refine hN (j - ((i+j) / 2+1)) _ _ (by omega) ⟨(i+j) / 2+1,j,by omega,by omega,hjb,kk2,fun q h1 h2=>by
    by_cases c:q < (i+j) / 2
    ·exact kD _ _ _ (hS q _ (by omega) c (by omega)) hlt'
    ·rw[show q=(i+j) / 2 from by omega];exact hlt',hR,rfl,rfl,rfl,rfl,rfl,?_,rfl⟩
   show IV.int _ _=_
   congr 1
  ·have hc':=up (a:=(aC l ((i+j) / 2)).spot) (b:=(aC l (a)).spot) (by omega)
   have hlt':ch (aC l (a)) (aC l ((i+j) / 2)):=by
    have ho:=hord ((i+j) / 2) (by omega) (by omega);unfold iP at ho;unfold ch;omega
   simp(disch:=omega) only[ai,↓ah,seval,iW,hc']
   exact hN ((i+j) / 2 - i) _ _ (by omega) ⟨i,(i+j) / 2,by omega,hmi,by omega,kk2,hL,fun q h1 h2=>by
    by_cases c:(i+j) / 2 < q
    ·exact kD _ _ _ hlt' (hS _ q (by omega) c (by omega))
    ·rw[show q=(i+j) / 2 from by omega];exact hlt',rfl,rfl,rfl,rfl,rfl,rfl,rfl⟩
 ·have:i=j:=by omega
  subst this;simp(disch:=omega) only[ai,↓ah,seval,iW,hJ];exact hQ H' _ i hk hmi hjb hL hR rfl rfl rfl rfl rfl
theorem I0{blk e cap:Nat}{ex:Bool}{l:List Hd}{a m b:Nat}{H:Heap}{lo:Nat}{Q:Out→Heap→Prop}{tm:List IV}(hO:Own H blk e cap l)(hl:l.length≤1000000)(ham:a < m)(hmb:m < b)(hb:b≤l.length)(hlh:lo≤H.n)
  (hS:Srt ch l a m) (hord:∀j,a≤j→j < m→iP (aC l j) (aC l m))
  (htm:tm.length=220) (t0:tm.getD 0 IV.undef=(SV.sl blk 0 l.length cap ex).iv) (t2:tm.getD 2 IV.undef=.int .i64 m) (t4:tm.getD 4 IV.undef=.fn 153 [] []) (ti:tm.getD 14 IV.undef=.int .i64 (a:Nat)) (tj:tm.getD 15 IV.undef=.int .i64 (m:Nat))
  (hQ:∀H' tm' i,Keep H.n H H'→a≤i→i≤m→(∀q,a≤q→q < i→ch (aC l q) (aC l m))→(∀q,i≤q→q < m→ch (aC l m) (aC l q))→tm'.length=220→tm'.getD 0 IV.undef=(SV.sl blk 0 l.length cap ex).iv→tm'.getD 2 IV.undef=.int .i64 m→tm'.getD 4 IV.undef=.fn 153 [] []→tm'.getD 14 IV.undef=.int .i64 (i:Nat)→Q (.ex (.jmp (.exit 4)) ⟨tm',[]⟩) H'):
  W E0 lo (.code (.loop (sK Tryz.f212 565)) none ⟨tm,[]⟩) H Q:=by
 refine aM (fun k fr H'=>∃i j,i+k=j∧a≤i∧j≤m∧Keep H.n H H'∧(∀q,a≤q→q < i→ch (aC l q) (aC l m))∧(∀q,j≤q→q < m→ch (aC l m) (aC l q))∧fr.marks=[]∧fr.tm.length=220∧fr.tm.getD 0 IV.undef=(SV.sl blk 0 l.length cap ex).iv∧fr.tm.getD 2 IV.undef=.int .i64 m∧fr.tm.getD 4 IV.undef=.fn 153 [] []∧fr.tm.getD 14 IV.undef=.int .i64 (i:Nat)∧fr.tm.getD 15 IV.undef=.int .i64 (j:Nat)) ?_ (m - a) ⟨a,m,by omega,Nat.le_refl _,Nat.le_refl _,Keep.refl _ _,fun q h1 h2=>by omega,fun q h1 h2=>by omega,rfl,htm,t0,t2,t4,ti,tj⟩;clear htm t0 t2 t4 ti tj;rintro k ⟨tm,mk⟩ H' ⟨i,j,hij,hmi,hjb,hk,hL,hR,rfl,htm,t0,t2,t4,ti,tj⟩ L hN hJ;rw[iz tm htm,t0,t2,t4,ti,tj];have hn:=hk.1;by_cases hlt:i < j
 ·have hO':=hO.keep hk;have hidx:=zT hO' ex 5;have eh:((i:Int)+(j:Int)) / 2=(((i+j) / 2:Nat):Int):=by omega
  have r1:=hO'.nthRead iX (i:=m) (by omega);have r2:=hO'.nthRead iX (i:=(i+j) / 2) (by omega);simp(disch:=omega) only[ai,↓ah,seval,iW,↓hidx,FS,↓oT,eh,r1,r2,Int.toNat_natCast];refine uf _ _ (by omega) fun H2 k2=>?_;have kk2:Keep H.n H H2:=hk.trans (k2.lower hn);by_cases hc:(aC l (m)).spot < (aC l ((i+j) / 2)).spot
  ·have hc':=uo hc;have hlt':ch (aC l (m)) (aC l ((i+j) / 2)):=.inl hc;simp(disch:=omega) only[ai,↓ah,seval,iW,hc']
   exact hN ((i+j) / 2 - i) _ _ (by omega) ⟨i,(i+j) / 2,by omega,hmi,by omega,kk2,hL,fun q h1 h2=>by
    by_cases c:(i+j) / 2 < q
    ·exact kD _ _ _ hlt' (hS _ q (by omega) c (by omega))
    ·rw[show q=(i+j) / 2 from by omega];exact hlt',rfl,rfl,rfl,rfl,rfl,rfl,rfl⟩
  ·have hc':=up (a:=(aC l (m)).spot) (b:=(aC l ((i+j) / 2)).spot) (by omega)
   have hlt':ch (aC l ((i+j) / 2)) (aC l (m)):=by
    have ho:=hord ((i+j) / 2) (by omega) (by omega);unfold iP at ho;unfold ch;omega
   simp(disch:=omega) only[ai,↓ah,seval,iW,hc']
   refine hN (j - ((i+j) / 2+1)) _ _ (by omega) ⟨(i+j) / 2+1,j,by omega,by omega,hjb,kk2,fun q h1 h2=>by
    by_cases c:q < (i+j) / 2
    ·exact kD _ _ _ (hS q _ (by omega) c (by omega)) hlt'
    ·rw[show q=(i+j) / 2 from by omega];exact hlt',hR,rfl,rfl,rfl,rfl,rfl,?_,rfl⟩
   show IV.int _ _=_
   congr 1
 ·have:i=j:=by omega
  subst this;simp(disch:=omega) only[ai,↓ah,seval,iW,hJ];exact hQ H' _ i hk hmi hjb hL hR rfl rfl rfl rfl rfl
theorem IZ{blk e cap:Nat}{ex:Bool}{l:List Hd}{a m b mid s0 r0 p:Nat}{H:Heap}{y19:IV}{lo:Nat}{Q:Out→Heap→Prop}{tm:List IV}(hO:Own H blk e cap l)(hl:l.length≤1000000)(ham:a < m)(hmb:m < b)(hb:b≤l.length)(hlh:lo≤H.n)
  (hsr:s0≤r0) (hord:∀i j,a≤i→i < m→m≤j→j < b→iP (aC l i) (aC l j)) (hrng:∀c,s0≤c→c < r0→a≤c∧c < m∧c≤p∧m≤p - c∧p - c < b)
  (htm:tm.length=220) (t0:tm.getD 0 IV.undef=(SV.sl blk 0 l.length cap ex).iv) (t1:tm.getD 1 IV.undef=.int .i64 a) (t2:tm.getD 2 IV.undef=.int .i64 m) (t3:tm.getD 3 IV.undef=.int .i64 b) (t4:tm.getD 4 IV.undef=.fn 153 [] []) (t18:tm.getD 18 IV.undef=.int .i64 mid) (t19:tm.getD 19 IV.undef=y19) (t22:tm.getD 22 IV.undef=.int .i64 p) (ti:tm.getD 20 IV.undef=.int .i64 (s0:Nat)) (tj:tm.getD 21 IV.undef=.int .i64 (r0:Nat))
  (hQ:∀H' tm' i,Keep H.n H H'→s0≤i→i≤r0→(i=s0∨ch (aC l (i - 1)) (aC l (p - (i - 1))))→(i=r0∨ch (aC l (p - i)) (aC l i))→tm'.length=220→tm'.getD 0 IV.undef=(SV.sl blk 0 l.length cap ex).iv→tm'.getD 1 IV.undef=.int .i64 a→tm'.getD 2 IV.undef=.int .i64 m→tm'.getD 3 IV.undef=.int .i64 b→tm'.getD 4 IV.undef=.fn 153 [] []→tm'.getD 18 IV.undef=.int .i64 mid→tm'.getD 19 IV.undef=y19→tm'.getD 22 IV.undef=.int .i64 p→tm'.getD 20 IV.undef=.int .i64 (i:Nat)→Q (.ex (.jmp (.exit 8)) ⟨tm',[]⟩) H'):
  W E0 lo (.code (.loop (sK Tryz.f212 1151)) none ⟨tm,[]⟩) H Q:=by
 refine aM (fun k fr H'=>∃i j,i+k=j∧s0≤i∧j≤r0∧Keep H.n H H'∧(i=s0∨ch (aC l (i - 1)) (aC l (p - (i - 1))))∧(j=r0∨ch (aC l (p - j)) (aC l j))∧fr.marks=[]∧fr.tm.length=220∧fr.tm.getD 0 IV.undef=(SV.sl blk 0 l.length cap ex).iv∧fr.tm.getD 1 IV.undef=.int .i64 a∧fr.tm.getD 2 IV.undef=.int .i64 m∧fr.tm.getD 3 IV.undef=.int .i64 b∧fr.tm.getD 4 IV.undef=.fn 153 [] []∧fr.tm.getD 18 IV.undef=.int .i64 mid∧fr.tm.getD 19 IV.undef=y19∧fr.tm.getD 22 IV.undef=.int .i64 p∧fr.tm.getD 20 IV.undef=.int .i64 (i:Nat)∧fr.tm.getD 21 IV.undef=.int .i64 (j:Nat)) ?_ (r0 - s0) ⟨s0,r0,by omega,Nat.le_refl _,Nat.le_refl _,Keep.refl _ _,.inl rfl,.inl rfl,rfl,htm,t0,t1,t2,t3,t4,t18,t19,t22,ti,tj⟩;clear htm t0 t1 t2 t3 t4 t18 t19 t22 ti tj;rintro k ⟨tm,mk⟩ H' ⟨i,j,hij,hmi,hjb,hk,hL,hR,rfl,htm,t0,t1,t2,t3,t4,t18,t19,t22,ti,tj⟩ L hN hJ;rw[iz tm htm,t0,t1,t2,t3,t4,t18,t19,t22,ti,tj];have hn:=hk.1;by_cases hlt:i < j
 ·have hO':=hO.keep hk;have hidx:=zT hO' ex 5;have eh:((i:Int)+(j:Int)) / 2=(((i+j) / 2:Nat):Int):=by omega
  have hr:=hrng ((i+j) / 2) (by omega) (by omega);have ep:(p:Int) - (((i+j) / 2:Nat):Int)=((p - (i+j) / 2:Nat):Int):=by omega
  have r1:=hO'.nthRead iX (i:=p - (i+j) / 2) (by omega);have r2:=hO'.nthRead iX (i:=(i+j) / 2) (by omega);simp(disch:=omega) only[ai,↓ah,seval,iW,↓hidx,FS,↓oT,eh,ep,r1,r2,Int.toNat_natCast];refine uf _ _ (by omega) fun H2 k2=>?_;have kk2:Keep H.n H H2:=hk.trans (k2.lower hn);by_cases hc:(aC l (p - (i+j) / 2)).spot < (aC l ((i+j) / 2)).spot
  ·have hc':=uo hc;have hlt':ch (aC l (p - (i+j) / 2)) (aC l ((i+j) / 2)):=.inl hc;simp(disch:=omega) only[ai,↓ah,seval,iW,hc'];exact hN ((i+j) / 2 - i) _ _ (by omega) ⟨i,(i+j) / 2,by omega,hmi,by omega,kk2,hL,(.inr hlt'),rfl,rfl,rfl,rfl,rfl,rfl,rfl,rfl,rfl,rfl,rfl,rfl⟩
  ·have hc':=up (a:=(aC l (p - (i+j) / 2)).spot) (b:=(aC l ((i+j) / 2)).spot) (by omega)
   have hlt':ch (aC l ((i+j) / 2)) (aC l (p - (i+j) / 2)):=by
    have ho:=hord _ _ hr.1 hr.2.1 hr.2.2.2.1 hr.2.2.2.2;unfold iP at ho;unfold ch;omega
   simp(disch:=omega) only[ai,↓ah,seval,iW,hc']
   refine hN (j - ((i+j) / 2+1)) _ _ (by omega) ⟨(i+j) / 2+1,j,by omega,by omega,hjb,kk2,(.inr (by simpa using hlt')),hR,rfl,rfl,rfl,rfl,rfl,rfl,rfl,rfl,rfl,rfl,?_,rfl⟩
   show IV.int _ _=_
   congr 1
 ·have:i=j:=by omega
  subst this;simp(disch:=omega) only[ai,↓ah,seval,iW,hJ];exact hQ H' _ i hk hmi hjb hL hR rfl rfl rfl rfl rfl rfl rfl rfl rfl rfl
theorem MC{blk e cap:Nat}{ex:Bool}{l:List Hd}{a b i:Nat}{H:Heap}{lo:Nat}{Q:Out→Heap→Prop}{tm:List IV}(hO:Own H blk e cap l)(hlo:lo≤blk)(hl:l.length≤1000000)(hai:a < i)(hib:i≤b)(hb:b≤l.length)
  (htm:tm.length=220) (t0:tm.getD 0 IV.undef=(SV.sl blk 0 l.length cap ex).iv) (t10:tm.getD 10 IV.undef=.int .i64 i) (t13:tm.getD 13 IV.undef=.int .i64 a)
  (hQ:∀H' l' tm',KeepX blk H H'→Own H' blk e cap l'→Mix a b l l'→(∀q,aC l' q=if a≤q∧q < i - 1 then aC l (q+1) else if q=i - 1 then aC l a else aC l q)→Q (.ex (.jmp (.exit 2)) ⟨tm',[]⟩) H'):
  W E0 lo (.code (.loop (sK Tryz.f212 1210)) none ⟨tm,[]⟩) H Q:=by
 refine aM (fun k fr H'=>∃p l',a≤p∧p+k=i - 1∧KeepX blk H H'∧Own H' blk e cap l'∧Mix a b l l'∧(∀q,aC l' q=if a≤q∧q < p then aC l (q+1) else if q=p then aC l a else aC l q)∧fr.marks=[]∧fr.tm.length=220∧fr.tm.getD 0 IV.undef=(SV.sl blk 0 l.length cap ex).iv∧fr.tm.getD 10 IV.undef=.int .i64 i∧fr.tm.getD 13 IV.undef=.int .i64 p) ?_ (i - 1 - a) ⟨a,l,Nat.le_refl _,by omega,KeepX.refl _ _,hO,Mix.refl _ _ _,fun q=>by rw[if_neg (by omega)];split<;>simp_all,rfl,htm,t0,t10,t13⟩;clear htm t0 t10 t13;rintro k ⟨tm,mk⟩ H' ⟨p,l',hap,hpk,hk,hO',hM,hf,rfl,htm,t0,t10,t13⟩ L hN hJ;have hl':=hM.len;rw[iz tm htm,t0,t10,t13,←hl'];by_cases hlt:p < i - 1
 ·have hidx:=zT hO' ex 5;have e1:(p:Int)+1=((p+1:Nat):Int):=by omega
  obtain⟨o1,o2,w1,w2,s2⟩:=jz hO' iX (i:=p) (j:=p+1) (by omega) (by omega) lo hlo;have r1:=hO'.nthRead iX (i:=p) (by omega);have r2:=hO'.nthRead iX (i:=p+1) (by omega);simp(disch:=omega) only[ai,↓ah,seval,iW,↓hidx,e1,r1,r2,↓w1,↓w2];refine hN (k - 1) _ _ (by omega) ⟨p+1,gj l' p (p+1),by omega,by omega,(hk.trans (KeepX.put _)).trans (KeepX.put _),s2,hM.trans (rp (by omega) (by omega) (by omega)),fun q=>?_,rfl,rfl,by rw[hl'];rfl,rfl,rfl⟩;rw[gz (by omega) (by omega),hf p,hf (p+1),hf q];by_cases c1:q=p+1
  ·subst c1;rw[if_pos rfl,if_neg (by omega),if_pos rfl,if_neg (by omega),if_pos rfl]
  ·rw[if_neg c1];by_cases c2:q=p
   ·subst c2;rw[if_pos rfl,if_neg (by omega),if_neg (by omega),if_pos (by omega)]
   ·rw[if_neg c2];by_cases c3:a≤q∧q < p
    ·rw[if_pos c3,if_pos (by omega)]
    ·rw[if_neg c3,if_neg c2,if_neg (by omega),if_neg c1]
 ·have:p=i - 1:=by omega
  subst this;simp(disch:=omega) only[ai,↓ah,seval,iW,hJ];exact hQ H' l' _ hk hO' hM hf
theorem MB{blk e cap:Nat}{ex:Bool}{l:List Hd}{a m i:Nat}{H:Heap}{lo:Nat}{Q:Out→Heap→Prop}{tm:List IV}(hO:Own H blk e cap l)(hlo:lo≤blk)(hl:l.length≤1000000)(hai:a≤i)(him:i≤m)(hb:m < l.length)
  (htm:tm.length=220) (t0:tm.getD 0 IV.undef=(SV.sl blk 0 l.length cap ex).iv) (t14:tm.getD 14 IV.undef=.int .i64 i) (t17:tm.getD 17 IV.undef=.int .i64 m)
  (hQ:∀H' l' tm',KeepX blk H H'→Own H' blk e cap l'→Mix a (m+1) l l'→(∀q,aC l' q=if i < q∧q≤m then aC l (q - 1) else if q=i then aC l m else aC l q)→Q (.ex (.jmp (.exit 6)) ⟨tm',[]⟩) H'):
  W E0 lo (.code (.loop (sK Tryz.f212 2421)) none ⟨tm,[]⟩) H Q:=by
 refine aM (fun k fr H'=>∃p l',p=i+k∧p≤m∧KeepX blk H H'∧Own H' blk e cap l'∧Mix a (m+1) l l'∧(∀q,aC l' q=if p < q∧q≤m then aC l (q - 1) else if q=p then aC l m else aC l q)∧fr.marks=[]∧fr.tm.length=220∧fr.tm.getD 0 IV.undef=(SV.sl blk 0 l.length cap ex).iv∧fr.tm.getD 14 IV.undef=.int .i64 i∧fr.tm.getD 17 IV.undef=.int .i64 p) ?_ (m - i) ⟨m,l,by omega,Nat.le_refl _,KeepX.refl _ _,hO,Mix.refl _ _ _,fun q=>by rw[if_neg (by omega)];split<;>simp_all,rfl,htm,t0,t14,t17⟩;clear htm t0 t14 t17;rintro k ⟨tm,mk⟩ H' ⟨p,l',hpk,hpm,hk,hO',hM,hf,rfl,htm,t0,t14,t17⟩ L hN hJ;have hl':=hM.len;rw[iz tm htm,t0,t14,t17,←hl'];by_cases hlt:i < p
 ·have hidx:=zT hO' ex 5;have e1:((p:Int) - 1).toNat=p - 1:=by omega
  obtain⟨o1,o2,w1,w2,s2⟩:=jz hO' iX (i:=p) (j:=p - 1) (by omega) (by omega) lo hlo;have r1:=hO'.nthRead iX (i:=p) (by omega);have r2:=hO'.nthRead iX (i:=p - 1) (by omega);simp(disch:=omega) only[ai,↓ah,seval,iW,↓hidx,e1,r1,r2,↓w1,↓w2];refine hN (k - 1) _ _ (by omega) ⟨p - 1,gj l' p (p - 1),by omega,by omega,(hk.trans (KeepX.put _)).trans (KeepX.put _),s2,hM.trans (rp (by omega) (by omega) (by omega)),fun q=>?_,rfl,rfl,by rw[hl'];rfl,rfl,?_⟩
  ·rw[gz (by omega) (by omega),hf p,hf (p - 1),hf q];by_cases c1:q=p - 1
   ·subst c1;rw[if_pos rfl,if_neg (by omega),if_pos rfl,if_neg (by omega),if_pos rfl]
   ·rw[if_neg c1];by_cases c2:q=p
    ·subst c2;rw[if_pos rfl,if_neg (by omega),if_neg (by omega),if_pos (by omega)]
    ·rw[if_neg c2];by_cases c3:p < q∧q≤m
     ·rw[if_pos c3,if_pos (by omega)]
     ·rw[if_neg c3,if_neg c2,if_neg (by omega),if_neg c1]
  ·show IV.int _ _=_
   congr 1;omega
 ·have:p=i:=by omega
  subst this;simp(disch:=omega) only[ai,↓ah,seval,iW,hJ];exact hQ H' l' _ hk hO' hM hf
def FC(blk e cap:Nat)(ex:Bool)(d:Nat):Prop:=∀(l:List Hd) (a m b:Nat) (H:Heap) (lo:Nat) (Q:Out→Heap→Prop),b - a≤d→Own H blk e cap l→lo≤blk→l.length≤1000000→a < m→m < b→b≤l.length→Srt ch l a m→Srt ch l m b→(∀i j,a≤i→i < m→m≤j→j < b→iP (aC l i) (aC l j))→
 (∀H' l',KeepX blk H H'→Own H' blk e cap l'→Mix a b l l'→Srt ch l' a b→Q (.val (.tuple [])) H')→W E0 lo (.call 212 [(SV.sl blk 0 l.length cap ex).iv,.int .i64 a,.int .i64 m,.int .i64 b,.fn 153 [] []]) H Q
theorem FU{blk e cap:Nat}{ex:Bool}{d:Nat}(ih:FC blk e cap ex d){l:List Hd}{a mid en b:Nat}{H:Heap}{lo:Nat}{Q:Out→Heap→Prop}{tm:List IV}(hO:Own H blk e cap l)(hlo:lo≤blk)(hl:l.length≤1000000)(ham:a < mid)(hme:mid≤en)(heb:en≤b)(hb:b≤l.length)(hd:b - mid≤d)
  (s1:Srt ch l mid en) (s2:Srt ch l en b) (ho:∀i j,mid≤i→i < en→en≤j→j < b→iP (aC l i) (aC l j))
  (htm:tm.length=220) (t0:tm.getD 0 IV.undef=(SV.sl blk 0 l.length cap ex).iv) (t3:tm.getD 3 IV.undef=.int .i64 b) (t4:tm.getD 4 IV.undef=.fn 153 [] []) (t18:tm.getD 18 IV.undef=.int .i64 mid) (t24:tm.getD 24 IV.undef=.int .i64 en)
  (hQ:∀H' l',KeepX blk H H'→Own H' blk e cap l'→Mix mid b l l'→Srt ch l' mid b→Q (.val (.tuple [])) H'):
  W E0 lo (.code (.seq (gv Tryz.f212 6143) (.cond (.tmp 213) (gv Tryz.f212 12287) .skip)) none ⟨tm,[]⟩) H (lQ lo [] Q):=by
 rw[iz tm htm,t0,t3,t4,t18,t24];by_cases c1:mid < en
 ·by_cases c2:en < b
  ·simp(disch:=omega) only[ai,↓ah,seval,wQ]
   refine ih l mid en b H lo _ hd hO hlo hl c1 c2 hb s1 s2 ho fun H' l' k o m s=>?_;simp(disch:=omega) only[ai,↓ah,seval,wQ];exact hQ H' l' k o m s
  ·have:en=b:=by omega
   subst this;simp(disch:=omega) only[ai,↓ah,seval,wQ];exact hQ H l (KeepX.refl _ _) hO (Mix.refl _ _ _) s1
 ·have:mid=en:=by omega
  subst this;simp(disch:=omega) only[ai,↓ah,seval,wQ];exact hQ H l (KeepX.refl _ _) hO (Mix.refl _ _ _) s2
theorem FV{blk e cap:Nat}{ex:Bool}{d:Nat}(ih:FC blk e cap ex d){l:List Hd}{a mid start en b:Nat}{H:Heap}{lo:Nat}{Q:Out→Heap→Prop}{tm:List IV}(hO:Own H blk e cap l)(hlo:lo≤blk)(hl:l.length≤1000000)(ham:a < mid)(has:a≤start)(hsm:start≤mid)(hme:mid≤en)(heb:en≤b)(hb:b≤l.length)(hmb:mid < b)(hd:b - mid≤d)(hd':mid - a≤d)
  (s1:Srt ch l a start) (s2:Srt ch l start mid) (s3:Srt ch l mid en) (s4:Srt ch l en b) (ho1:∀i j,a≤i→i < start→start≤j→j < mid→iP (aC l i) (aC l j)) (ho:∀i j,mid≤i→i < en→en≤j→j < b→iP (aC l i) (aC l j))
  (hx:∀x y,a≤x→x < mid→mid≤y→y < b→ch (aC l x) (aC l y))
  (htm:tm.length=220) (t0:tm.getD 0 IV.undef=(SV.sl blk 0 l.length cap ex).iv) (t1:tm.getD 1 IV.undef=.int .i64 a) (t3:tm.getD 3 IV.undef=.int .i64 b) (t4:tm.getD 4 IV.undef=.fn 153 [] []) (t18:tm.getD 18 IV.undef=.int .i64 mid) (t20:tm.getD 20 IV.undef=.int .i64 start) (t24:tm.getD 24 IV.undef=.int .i64 en)
  (hQ:∀H' l',KeepX blk H H'→Own H' blk e cap l'→Mix a b l l'→Srt ch l' a b→Q (.val (.tuple [])) H'):
  W E0 lo (.code (.seq (.seq (gv Tryz.f212 5119) (.cond (.tmp 199) (gv Tryz.f212 11263) .skip)) (.seq (gv Tryz.f212 6143) (.cond (.tmp 213) (gv Tryz.f212 12287) .skip))) none ⟨tm,[]⟩) H (lQ lo [] Q):=by
 have fin:∀H2 l2 tm2,KeepX blk H H2→Own H2 blk e cap l2→Mix a mid l l2→Srt ch l2 a mid→tm2.length=220→tm2.getD 0 IV.undef=(SV.sl blk 0 l2.length cap ex).iv→tm2.getD 3 IV.undef=.int .i64 b→tm2.getD 4 IV.undef=.fn 153 [] []→tm2.getD 18 IV.undef=.int .i64 mid→tm2.getD 24 IV.undef=.int .i64 en→
   W E0 lo (.code (.seq (gv Tryz.f212 6143) (.cond (.tmp 213) (gv Tryz.f212 12287) .skip)) none ⟨tm2,[]⟩) H2 (lQ lo [] Q):=by
  intro H2 l2 tm2 k2 o2 m2 q2 u u0 u3 u4 u18 u24;have hl2:=m2.len;refine FU ih o2 hlo (by omega) ham hme heb (by omega) hd (s3.out m2 (by omega)) (s4.out m2 (by omega)) (fun i j h1 h2 h3 h4=>?_) u u0 u3 u4 u18 u24 fun H3 l3 k3 o3 m3 q3=>?_
  ·rw[m2.out i (by omega),m2.out j (by omega)];exact ho i j h1 h2 h3 h4
  ·exact hQ H3 l3 (k2.trans k3) o3 ((m2.wide (Nat.le_refl _) (by omega)).trans (m3.wide (by omega) (Nat.le_refl _))) (Lh m2 m3 q2 q3 hx)
 rw[iz tm htm,t0,t1,t3,t4,t18,t20,t24];by_cases c1:a < start
 ·by_cases c2:start < mid
  ·simp(disch:=omega) only[ai,↓ah,seval,ge,gb,fZ,fY,fX,fU,fT,fS,fR,dN,dM,dL,dK,dJ,dI,dH,dG,dF,dE,dD,dC,dB,dA,dz,dy,dx,dw,dv,du,dt,dr,dq,dp,dn,dm,dl,dj,di,fW,dh,dg,jq,dc,cZ,(ax Tryz.f212 1),rq]
   refine ih l a start mid H lo _ hd' hO hlo hl c1 c2 (by omega) s1 s2 ho1 fun H' l' k o m s=>?_;simp(disch:=omega) only[ai,↓ah,seval,ge,gb,fZ,fY,fX,fU,fT,fS,fR,dN,dM,dL,dK,dJ,dI,dH,dG,dF,dE,dD,dC,dB,dA,dz,dy,dx,dw,dv,du,dt,dr,dq,dp,dn,dm,dl,dj,di,fW,dh,dg,jq,dc,cZ,(ax Tryz.f212 1),rq];rw[←gS];exact fin H' l' _ k o m s rfl (by rw[m.len];rfl) rfl rfl rfl rfl
  ·have:start=mid:=by omega
   subst this;simp(disch:=omega) only[ai,↓ah,seval,ge,gb,fZ,fY,fX,fU,fT,fS,fR,dN,dM,dL,dK,dJ,dI,dH,dG,dF,dE,dD,dC,dB,dA,dz,dy,dx,dw,dv,du,dt,dr,dq,dp,dn,dm,dl,dj,di,fW,dh,dg,jq,dc,cZ,(ax Tryz.f212 1),rq];rw[←gS];exact fin H l _ (KeepX.refl _ _) hO (Mix.refl _ _ _) s1 rfl rfl rfl rfl rfl rfl
 ·have:a=start:=by omega
  subst this;simp(disch:=omega) only[ai,↓ah,seval,ge,gb,fZ,fY,fX,fU,fT,fS,fR,dN,dM,dL,dK,dJ,dI,dH,dG,dF,dE,dD,dC,dB,dA,dz,dy,dx,dw,dv,du,dt,dr,dq,dp,dn,dm,dl,dj,di,fW,dh,dg,jq,dc,cZ,(ax Tryz.f212 1),rq];rw[←gS];exact fin H l _ (KeepX.refl _ _) hO (Mix.refl _ _ _) s2 rfl rfl rfl rfl rfl rfl
theorem IB{blk e cap:Nat}{ex:Bool}{d:Nat}(ih:FC blk e cap ex d){l:List Hd}{a m b mid start:Nat}{H:Heap}{lo:Nat}{Q:Out→Heap→Prop}{tm:List IV}(hO:Own H blk e cap l)(hlo:lo≤blk)(hl:l.length≤1000000)(ham:a < m)(hmb:m < b)(hb:b≤l.length)(hmid:mid=(a+b) / 2)(hd:b - a≤d+1)(h2:a+2≤b)
  (has:a≤start) (hsm:start≤mid) (hsm':start≤m) (hen:mid+m - start≤b)
  (sL:Srt ch l a m) (sR:Srt ch l m b) (hord:∀i j,a≤i→i < m→m≤j→j < b→iP (aC l i) (aC l j))
  (pA:∀i j,a≤i→i < start→mid+m - start≤j→j < b→ch (aC l i) (aC l j)) (pB:∀i j,m≤i→i < mid+m - start→start≤j→j < m→ch (aC l i) (aC l j))
  (htm:tm.length=220) (t0:tm.getD 0 IV.undef=(SV.sl blk 0 l.length cap ex).iv) (t1:tm.getD 1 IV.undef=.int .i64 a) (t2:tm.getD 2 IV.undef=.int .i64 m) (t3:tm.getD 3 IV.undef=.int .i64 b) (t4:tm.getD 4 IV.undef=.fn 153 [] []) (t18:tm.getD 18 IV.undef=.int .i64 mid) (t19:tm.getD 19 IV.undef=.int .i64 ((mid+m:Nat):Int)) (t20:tm.getD 20 IV.undef=.int .i64 start)
  (hQ:∀H' l',KeepX blk H H'→Own H' blk e cap l'→Mix a b l l'→Srt ch l' a b→Q (.val (.tuple [])) H'):
  W E0 lo (.code (.seq (gv Tryz.f212 767) (.seq (.seq (gv Tryz.f212 2559) (.cond (.tmp 185) (gv Tryz.f212 5631) .skip)) (.seq (.seq (gv Tryz.f212 5119) (.cond (.tmp 199) (gv Tryz.f212 11263) .skip)) (.seq (gv Tryz.f212 6143) (.cond (.tmp 213) (gv Tryz.f212 12287) .skip))))) none ⟨tm,[]⟩) H (lQ lo [] Q):=by
 obtain⟨en,hen'⟩:∃en,en=mid+m - start:=⟨_,rfl⟩
 rw[←hen'] at hen pA pB;have ee:((mid+m:Nat):Int) - (start:Int)=(en:Int):=by omega
 have fin:∀H2 l2 tm2,KeepX blk H H2→Own H2 blk e cap l2→Mix a b l l2→(∀x,aC l2 x=lP (aC l) start m en x)→tm2.length=220→tm2.getD 0 IV.undef=(SV.sl blk 0 l2.length cap ex).iv→tm2.getD 1 IV.undef=.int .i64 a→tm2.getD 3 IV.undef=.int .i64 b→tm2.getD 4 IV.undef=.fn 153 [] []→tm2.getD 18 IV.undef=.int .i64 mid→tm2.getD 20 IV.undef=.int .i64 start→tm2.getD 24 IV.undef=.int .i64 en→
   W E0 lo (.code (.seq (.seq (gv Tryz.f212 5119) (.cond (.tmp 199) (gv Tryz.f212 11263) .skip)) (.seq (gv Tryz.f212 6143) (.cond (.tmp 213) (gv Tryz.f212 12287) .skip))) none ⟨tm2,[]⟩) H2 (lQ lo [] Q):=by
  intro H2 l2 tm2 k2 o2 m2 f2 u u0 u1 u3 u4 u18 u20 u24;have hl2:=m2.len;obtain⟨⟨q1,q2,q3,q4⟩,q5,q6,q7⟩:=Mv (lt:=ch) (ord:=iP) (mid:=mid) has hsm hsm' (by omega) (by omega) hen (by omega) sL sR hord pA pB f2;exact FV ih o2 hlo (by omega) (by omega) has hsm (by omega) hen (by omega) (by omega) (by omega) (by omega) q1 q2 q3 q4 q5 q6 q7 u u0 u1 u3 u4 u18 u20 u24 fun H3 l3 k3 o3 m3 s3=>hQ H3 l3 (k2.trans k3) o3 (m2.trans m3) s3
 rw[iz tm htm,t0,t1,t2,t3,t4,t18,t19,t20];by_cases c1:start < m
 ·by_cases c2:m < en
  ·simp(disch:=omega) only[ai,↓ah,seval,ge,gb,fZ,fY,fX,fU,fT,fS,fR,dN,dM,dL,dK,dJ,dI,dH,dG,dF,dE,dD,dC,dB,dA,dz,dy,dx,dw,dv,du,dt,dr,dq,dp,dn,dm,dl,dj,di,fW,dh,dg,dc,jp,cZ,(ax Tryz.f212 1),rq,ee]
   refine Gj start m en hO hlo hl c1 c2 (by omega) fun H' l' k o mx f=>?_;simp(disch:=omega) only[ai,↓ah,seval,ge,gb,fZ,fY,fX,fU,fT,fS,fR,dN,dM,dL,dK,dJ,dI,dH,dG,dF,dE,dD,dC,dB,dA,dz,dy,dx,dw,dv,du,dt,dr,dq,dp,dn,dm,dl,dj,di,fW,dh,dg,dc,jp,cZ,(ax Tryz.f212 1),rq];rw[←gS,←gS];exact fin H' l' _ k o (mx.wide has hen) f rfl (by rw[mx.len];rfl) rfl rfl rfl rfl rfl rfl
  ·simp(disch:=omega) only[ai,↓ah,seval,ge,gb,fZ,fY,fX,fU,fT,fS,fR,dN,dM,dL,dK,dJ,dI,dH,dG,dF,dE,dD,dC,dB,dA,dz,dy,dx,dw,dv,du,dt,dr,dq,dp,dn,dm,dl,dj,di,fW,dh,dg,dc,jp,cZ,(ax Tryz.f212 1),rq,ee]
   rw[←gS,←gS];exact fin H l _ (KeepX.refl _ _) hO (Mix.refl _ _ _) (fun x=>(Bg (aC l) (by omega) (by omega) (.inr (by omega)) x).symm) rfl rfl rfl rfl rfl rfl rfl rfl
 ·simp(disch:=omega) only[ai,↓ah,seval,ge,gb,fZ,fY,fX,fU,fT,fS,fR,dN,dM,dL,dK,dJ,dI,dH,dG,dF,dE,dD,dC,dB,dA,dz,dy,dx,dw,dv,du,dt,dr,dq,dp,dn,dm,dl,dj,di,fW,dh,dg,dc,jp,cZ,(ax Tryz.f212 1),rq,ee]
  rw[←gS,←gS];exact fin H l _ (KeepX.refl _ _) hO (Mix.refl _ _ _) (fun x=>(Bg (aC l) (by omega) (by omega) (.inl (by omega)) x).symm) rfl rfl rfl rfl rfl rfl rfl rfl
theorem ID{blk e cap:Nat}{ex:Bool}:∀d,FC blk e cap ex d:=by
 intro d
 induction d with
 | zero=>intro l a m b H lo Q h;intros;omega
 | succ d ih=>
   intro l a m b H lo Q hd hO hlo hl ham hmb hb sL sR hord h;rw[Xj];have hbn:=hO.2.1;by_cases c1:m - a=1
   ·have ec:(m:Int) - (a:Int)=1:=by omega
    simp(disch:=omega) only[ai,↓ah,seval,wQ,ec]
    refine I1 hO hl ham hmb hb (by omega) sR (fun j h1 h2=>hord a j (Nat.le_refl _) ham h1 h2) rfl rfl rfl rfl rfl rfl fun H2 tm2 i k2 hi1 hi2 hL hR u u0 u1 u4 u10=>?_;have hO2:=hO.keep k2;rw[iz tm2 u,u0,u1,u10];simp(disch:=omega) only[ai,↓ah,seval,wQ];refine MC (ex:=ex) (a:=a) (b:=b) hO2 hlo hl (by omega) hi2 hb rfl rfl rfl rfl fun H3 l3 Ix k3 o3 m3 f3=>?_;simp(disch:=omega) only[ai,↓ah,seval,wQ];refine h H3 l3 ((KeepX.of k2).trans k3) o3 m3 fun p q h1 h2 h3=>?_;rw[f3 p,f3 q];by_cases d1:q < i - 1
    ·rw[if_pos (by omega),if_pos (by omega)];exact sR _ _ (by omega) (by omega) (by omega)
    ·by_cases d2:q=i - 1
     ·rw[if_pos (by omega),if_neg (by omega),if_pos d2];exact hL _ (by omega) (by omega)
     ·rw[if_neg (show ¬(a≤q∧q < i - 1) by omega),if_neg d2];by_cases d3:p < i - 1
      ·rw[if_pos (by omega)];exact sR _ _ (by omega) (by omega) h3
      ·by_cases d4:p=i - 1
       ·rw[if_neg (by omega),if_pos d4];exact hR q (by omega) h3
       ·rw[if_neg (by omega),if_neg d4];exact sR _ _ (by omega) h2 h3
   ·have ec:((m:Int) - (a:Int)==1)=false:=by simp;omega
    by_cases c2:b - m=1
    ·have ed:(b:Int) - (m:Int)=1:=by omega
     simp(disch:=omega) only[ai,↓ah,seval,wQ,ec,ed]
     refine I0 hO hl ham hmb hb (by omega) sL (fun j h1 h2=>hord j m h1 h2 (Nat.le_refl _) hmb) rfl rfl rfl rfl rfl rfl fun H2 tm2 i k2 hi1 hi2 hL hR u u0 u2 u4 u14=>?_;have hO2:=hO.keep k2;rw[iz tm2 u,u0,u2,u14];simp(disch:=omega) only[ai,↓ah,seval,wQ];refine MB (ex:=ex) (a:=a) hO2 hlo hl hi1 hi2 (by omega) rfl rfl rfl rfl fun H3 l3 Ix k3 o3 m3 f3=>?_;simp(disch:=omega) only[ai,↓ah,seval,wQ];refine h H3 l3 ((KeepX.of k2).trans k3) o3 (m3.wide (Nat.le_refl _) (by omega)) fun p q h1 h2 h3=>?_;rw[f3 p,f3 q];by_cases d1:p < i
     ·rw[if_neg (show ¬(i < p∧p≤m) by omega),if_neg (show ¬p=i by omega)];by_cases d2:q < i
      ·rw[if_neg (by omega),if_neg (by omega)];exact sL p q h1 h2 (by omega)
      ·by_cases d3:q=i
       ·rw[if_neg (by omega),if_pos d3];exact hL p h1 d1
       ·rw[if_pos (by omega)];exact sL p _ h1 (by omega) (by omega)
     ·rw[if_pos (show i < q∧q≤m by omega)];by_cases d3:p=i
      ·rw[if_neg (by omega),if_pos d3];exact hR _ (by omega) (by omega)
      ·rw[if_pos (by omega)];exact sL _ _ (by omega) (by omega) (by omega)
    ·have ed:((b:Int) - (m:Int)==1)=false:=by simp;omega
     have eh:((a:Int)+(b:Int)) / 2=(((a+b) / 2:Nat):Int):=by omega
     have en:(((a+b) / 2:Nat):Int)+(m:Int)=(((a+b) / 2+m:Nat):Int):=by omega
     have ep:(((a+b) / 2+m:Nat):Int) - 1=(((a+b) / 2+m - 1:Nat):Int):=by omega
     obtain⟨mid,hmid⟩:∃mid,mid=(a+b) / 2:=⟨_,rfl⟩
     rw[←hmid] at eh en ep
     have tail:∀s0 r0,a≤s0→s0≤r0→r0≤mid→r0≤m→mid+m - s0≤b→(s0=a∨mid+m - s0=b)→(r0=m∨mid+m - r0=m)→(∀c,s0≤c→c < r0→a≤c∧c < m∧c≤mid+m - 1∧m≤mid+m - 1 - c∧mid+m - 1 - c < b)→
       ∀tm2,tm2.length=220→tm2.getD 0 IV.undef=(SV.sl blk 0 l.length cap ex).iv→tm2.getD 1 IV.undef=.int .i64 a→tm2.getD 2 IV.undef=.int .i64 m→tm2.getD 3 IV.undef=.int .i64 b→tm2.getD 4 IV.undef=.fn 153 [] []→tm2.getD 18 IV.undef=.int .i64 mid→tm2.getD 19 IV.undef=.int .i64 ((mid+m:Nat):Int)→tm2.getD 22 IV.undef=.int .i64 ((mid+m - 1:Nat):Int)→tm2.getD 20 IV.undef=.int .i64 (s0:Nat)→tm2.getD 21 IV.undef=.int .i64 (r0:Nat)→
       W E0 lo (.code (.loop (sK Tryz.f212 1151)) none ⟨tm2,[]⟩) H (pM 8 (kW E0 lo none (.seq (gv Tryz.f212 767) (.seq (.seq (gv Tryz.f212 2559) (.cond (.tmp 185) (gv Tryz.f212 5631) .skip)) (.seq (.seq (gv Tryz.f212 5119) (.cond (.tmp 199) (gv Tryz.f212 11263) .skip)) (.seq (gv Tryz.f212 6143) (.cond (.tmp 213) (gv Tryz.f212 12287) .skip))))) (lQ lo [] Q))):=by
      intro s0 r0 g1 g2 g3 g4 g5 g6 g7 g8 tm2 u u0 u1 u2 u3 u4 u18 u19 u22 u20 u21;refine IZ (p:=mid+m - 1) hO hl ham hmb hb (by omega) g2 hord g8 u u0 u1 u2 u3 u4 u18 u19 u22 u20 u21 fun H2 Ix i k2 hi1 hi2 hL hR w w0 w1 w2 w3 w4 w18 w19 w22 w20=>?_;have hO2:=hO.keep k2
      show W _ _ _ _ _
      refine IB ih hO2 hlo hl ham hmb hb hmid hd (by omega) (by omega) (by omega) (by omega) (by omega) sL sR hord (fun x y h1 h2 h3 h4=>?_) (fun x y h1 h2 h3 h4=>?_) w w0 w1 w2 w3 w4 w18 w19 w20 fun H3 l3 k3 o3 m3 s3=>h H3 l3 ((KeepX.of k2).trans k3) o3 m3 s3
      ·rcases hL with e | hL
       ·omega
       ·have hr:=g8 (i - 1) (by omega) (by omega);have e1:mid+m - 1 - (i - 1)=mid+m - i:=by omega
        rw[e1] at hL hr
        have q1:x=i - 1∨ch (aC l x) (aC l (i - 1)):=by
         by_cases e:x=i - 1
         ·exact .inl e
         ·exact .inr (sL _ _ h1 (by omega) (by omega))
        have q2:ch (aC l x) (aC l (mid+m - i)):=by
         rcases q1 with e | q1
         ·rw[e];exact hL
         ·exact kD _ _ _ q1 hL
        by_cases e:y=mid+m - i
        ·rw[e];exact q2
        ·exact kD _ _ _ q2 (sR _ _ (by omega) (by omega) h4)
      ·rcases hR with e | hR
       ·omega
       ·have hr:=g8 i (by omega) (by omega);have e1:mid+m - 1 - i=mid+m - i - 1:=by omega
        rw[e1] at hR hr
        have q2:ch (aC l x) (aC l i):=by
         by_cases e:x=mid+m - i - 1
         ·rw[e];exact hR
         ·exact kD _ _ _ (sR _ _ h1 (by omega) (by omega)) hR
        by_cases e:y=i
        ·rw[e];exact q2
        ·exact kD _ _ _ q2 (sL _ _ (by omega) (by omega) h4)
     by_cases c3:m>mid
     ·have es:((mid+m:Nat):Int) - (b:Int)=((mid+m - b:Nat):Int):=by omega
      simp(disch:=omega) only[ai,↓ah,seval,ge,gb,fZ,fY,fX,fU,fT,fS,fR,dN,dM,dL,dK,dJ,dI,dH,dG,dF,dE,dD,dC,dB,dA,dz,dy,dx,dw,dv,du,dt,dr,dq,dp,dn,dm,dl,dj,di,dh,dg,jq,dc,jp,cZ,(ax Tryz.f212 1),rq,ec,ed,FS,↓oT,eh,en,ep,es]
      exact tail (mid+m - b) mid (by omega) (by omega) (by omega) (by omega) (by omega) (.inr (by omega)) (.inr (by omega)) (fun c h1 h2=>by omega) _ rfl rfl rfl rfl rfl rfl rfl rfl rfl rfl rfl
     ·simp(disch:=omega) only[ai,↓ah,seval,ge,gb,fZ,fY,fX,fU,fT,fS,fR,dN,dM,dL,dK,dJ,dI,dH,dG,dF,dE,dD,dC,dB,dA,dz,dy,dx,dw,dv,du,dt,dr,dq,dp,dn,dm,dl,dj,di,dh,dg,jq,dc,jp,cZ,(ax Tryz.f212 1),rq,ec,ed,FS,↓oT,eh,en,ep]
      exact tail a m (by omega) (by omega) (by omega) (by omega) (by omega) (.inl rfl) (.inl rfl) (fun c h1 h2=>by omega) _ rfl rfl rfl rfl rfl rfl rfl rfl rfl rfl rfl
def Cross(s:Nat)(l:List Hd):Prop:=∀i j q,i < q*s→q*s≤j→j < l.length→iP (aC l i) (aC l j)
theorem Cross.mix{s a b q0:Nat}{l l':List Hd}(h:Cross s l)(k:Mix a b l l')(ha:q0*s≤a)(hb:b≤(q0+1)*s)(hbl:b≤l.length):Cross s l':=by
 intro i j q h1 h2 h3;rw[k.len] at h3;have key:∀q,q*s < (q0+1)*s→q*s≤q0*s:=fun q h=>Nat.mul_le_mul_right _ (Nat.lt_succ_iff.1 (Nat.lt_of_mul_lt_mul_right h));have key':∀q,q0*s < q*s→(q0+1)*s≤q*s:=fun q h=>Nat.mul_le_mul_right _ (Nat.lt_of_mul_lt_mul_right h)
 have img:∀x,∃y,aC l' x=aC l y∧((x=y)∨(a≤x∧x < b∧a≤y∧y < b)):=fun x=>by
  by_cases c:a≤x∧x < b
  ·obtain⟨y,y1,y2,y3⟩:=k.img x c.1 c.2;exact⟨y,y3,.inr ⟨c.1,c.2,y1,y2⟩⟩
  ·exact⟨x,k.out x (by omega),.inl rfl⟩
 obtain⟨y,y1,y2⟩:=img i;obtain⟨z,z1,z2⟩:=img j;rw[y1,z1];refine h y z q ?_ ?_ ?_
 ·rcases y2 with rfl | ⟨g1,g2,g3,g4⟩
  ·exact h1
  ·have:=key' q (by omega)
   omega
 ·rcases z2 with rfl | ⟨g1,g2,g3,g4⟩
  ·exact h2
  ·have:=key q (by omega)
   omega
 ·omega
theorem Cross.two{s:Nat}{l:List Hd}(h:Cross s l):Cross (2*s) l:=fun i j q h1 h2 h3=>h i j (q*2) (by rw[Nat.mul_assoc];exact h1) (by rw[Nat.mul_assoc];exact h2) h3
theorem Cross.init{l:List Hd}(h:l.Pairwise iP)(s:Nat):Cross s l:=fun i j q h1 h2 h3=>iS h 0 l.length (Nat.le_refl _) i j (Nat.zero_le _) (by omega) h3
def AllB(s n:Nat)(l:List Hd):Prop:=∀q,q*s < n→Srt ch l (q*s) (min ((q+1)*s) n)
theorem AllB.of{s n q1:Nat}{l:List Hd}(h:∀q,q < q1→Srt ch l (q*s) ((q+1)*s))(h1:Srt ch l (q1*s) n)(hn:n≤(q1+1)*s):AllB s n l:=by
 intro q hq;have hle:q≤q1:=Nat.lt_succ_iff.1 (Nat.lt_of_mul_lt_mul_right (Nat.lt_of_lt_of_le hq hn));by_cases e:q=q1
 ·subst e;exact h1.part (Nat.le_refl _) (by omega)
 ·exact(h q (by omega)).part (Nat.le_refl _) (by omega)
def we(tm:List IV)(h:tm.length=63):=(bL tm 63 h).trans (by simp only[List.range,List.range.loop,List.map_cons,List.map_nil];exact rfl)
theorem P6{blk e cap:Nat}{ex:Bool}{l:List Hd}{H:Heap}{lo:Nat}{Q:Out→Heap→Prop}{tm:List IV}(hO:Own H blk e cap l)(hlo:lo≤blk)(hl:l.length≤1000000)(hord:l.Pairwise iP)
  (htm:tm.length=63) (t0:tm.getD 0 IV.undef=(SV.sl blk 0 l.length cap ex).iv) (t1:tm.getD 1 IV.undef=.int .i64 l.length) (t2:tm.getD 2 IV.undef=.fn 153 [] []) (t6:tm.getD 6 IV.undef=.int .i64 20) (t7:tm.getD 7 IV.undef=.int .i64 0) (t8:tm.getD 8 IV.undef=.int .i64 20)
  (hQ:∀H' l' tm' q1,KeepX blk H H'→Own H' blk e cap l'→Mix 0 l.length l l'→Cross 20 l'→(∀x,q1*20≤x→aC l' x=aC l x)→(∀q,q < q1→Srt ch l' (q*20) ((q+1)*20))→q1*20≤l.length→l.length≤(q1+1)*20→tm'.length=63→tm'.getD 0 IV.undef=(SV.sl blk 0 l.length cap ex).iv→tm'.getD 1 IV.undef=.int .i64 l.length→tm'.getD 2 IV.undef=.fn 153 [] []→tm'.getD 6 IV.undef=.int .i64 20→tm'.getD 7 IV.undef=.int .i64 ((q1*20:Nat):Int)→Q (.ex (.jmp (.exit 0)) ⟨tm',[]⟩) H'):
  W E0 lo (.code (.loop (sK Tryz.f191 35)) none ⟨tm,[]⟩) H Q:=by
 refine aM (fun k fr H'=>∃q1 l',q1*20+k=l.length∧KeepX blk H H'∧Own H' blk e cap l'∧Mix 0 l.length l l'∧Cross 20 l'∧(∀x,q1*20≤x→aC l' x=aC l x)∧(∀q,q < q1→Srt ch l' (q*20) ((q+1)*20))∧fr.marks=[]∧fr.tm.length=63∧fr.tm.getD 0 IV.undef=(SV.sl blk 0 l.length cap ex).iv∧fr.tm.getD 1 IV.undef=.int .i64 l.length∧fr.tm.getD 2 IV.undef=.fn 153 [] []∧fr.tm.getD 6 IV.undef=.int .i64 20∧fr.tm.getD 7 IV.undef=.int .i64 ((q1*20:Nat):Int)∧fr.tm.getD 8 IV.undef=.int .i64 ((q1*20+20:Nat):Int)) ?_ l.length ⟨0,l,by omega,KeepX.refl _ _,hO,Mix.refl _ _ _,Cross.init hord _,fun _ _=>rfl,fun q h=>by omega,rfl,htm,t0,t1,t2,t6,t7,t8⟩;clear htm t0 t1 t2 t6 t7 t8;rintro k ⟨tm,mk⟩ H' ⟨q1,l',hq,hk,hO',hM,hC,hout,hB,rfl,htm,t0,t1,t2,t6,t7,t8⟩ L hN hJ;have hl':=hM.len;rw[we tm htm,t0,t1,t2,t6,t7,t8,←hl'];by_cases hlt:q1*20+20≤l.length
 ·simp(disch:=omega) only[ai,↓ah,seval,yx]
  refine qC (q1*20) (q1*20+20) hO' hlo (by omega) (by omega) (by omega) (fun i j h1 h2 h3=>?_) fun H2 l2 k2 o2 m2 s2=>?_
  ·rw[hout i h1,hout j (by omega)];exact iS hord 0 l.length (Nat.le_refl _) i j (Nat.zero_le _) h2 (by omega)
  ·simp(disch:=omega) only[ai,↓ah,seval,yx]
   refine hN (k - 20) _ _ (by omega) ⟨q1+1,l2,by omega,hk.trans k2,o2,hM.trans (m2.wide (Nat.zero_le _) (by omega)),hC.mix m2 (Nat.le_refl _) (by omega) (by omega),fun x hx=>by rw[m2.out x (by omega)];exact hout x (by omega),fun q hq=>?_,rfl,rfl,by rw[hl'];rfl,by rw[hl'];rfl,rfl,rfl,?_,?_⟩
   ·by_cases c:q=q1
    ·subst c;rw[show(q+1)*20=q*20+20 from by omega];exact s2
    ·exact(hB q (by omega)).out m2 (by omega)
   ·show IV.int _ _=_
    congr 1;omega
   ·show IV.int _ _=_
    congr 1;omega
 ·simp(disch:=omega) only[ai,↓ah,seval,yx,hJ]
  exact hQ H' l' _ q1 hk hO' hM hC hout hB (by omega) (by omega) rfl (by rw[hl'];rfl) (by rw[hl'];rfl) rfl rfl rfl
theorem IJ{blk e cap:Nat}{ex:Bool}{l:List Hd}{s:Nat}{H:Heap}{lo:Nat}{Q:Out→Heap→Prop}{tm:List IV}(hO:Own H blk e cap l)(hlo:lo≤blk)(hl:l.length≤1000000)(hs:0 < s)(hsn:s < l.length)(hA:AllB s l.length l)(hC:Cross s l)
  (htm:tm.length=63) (t0:tm.getD 0 IV.undef=(SV.sl blk 0 l.length cap ex).iv) (t1:tm.getD 1 IV.undef=.int .i64 l.length) (t2:tm.getD 2 IV.undef=.fn 153 [] []) (t6:tm.getD 6 IV.undef=.int .i64 s) (t7:tm.getD 7 IV.undef=.int .i64 0) (t8:tm.getD 8 IV.undef=.int .i64 (2*(s:Int)))
  (hQ:∀H' l' tm' q1,KeepX blk H H'→Own H' blk e cap l'→Mix 0 l.length l l'→Cross (2*s) l'→(∀x,q1*(2*s)≤x→aC l' x=aC l x)→(∀q,q < q1→Srt ch l' (q*(2*s)) ((q+1)*(2*s)))→q1*(2*s)≤l.length→l.length≤(q1+1)*(2*s)→tm'.length=63→tm'.getD 0 IV.undef=(SV.sl blk 0 l.length cap ex).iv→tm'.getD 1 IV.undef=.int .i64 l.length→tm'.getD 2 IV.undef=.fn 153 [] []→tm'.getD 6 IV.undef=.int .i64 s→tm'.getD 7 IV.undef=.int .i64 ((q1*(2*s):Nat):Int)→Q (.ex (.jmp (.exit 4)) ⟨tm',[]⟩) H'):
  W E0 lo (.code (.loop (GU Tryz.f191 4431)) none ⟨tm,[]⟩) H Q:=by
 refine aM (fun k fr H'=>∃q1 l',q1*(2*s)+k=l.length∧KeepX blk H H'∧Own H' blk e cap l'∧Mix 0 l.length l l'∧Cross (2*s) l'∧(∀x,q1*(2*s)≤x→aC l' x=aC l x)∧(∀q,q < q1→Srt ch l' (q*(2*s)) ((q+1)*(2*s)))∧fr.marks=[]∧fr.tm.length=63∧fr.tm.getD 0 IV.undef=(SV.sl blk 0 l.length cap ex).iv∧fr.tm.getD 1 IV.undef=.int .i64 l.length∧fr.tm.getD 2 IV.undef=.fn 153 [] []∧fr.tm.getD 6 IV.undef=.int .i64 s∧fr.tm.getD 7 IV.undef=.int .i64 ((q1*(2*s):Nat):Int)∧fr.tm.getD 8 IV.undef=.int .i64 ((q1*(2*s)+2*s:Nat):Int)) ?_ l.length ⟨0,l,by omega,KeepX.refl _ _,hO,Mix.refl _ _ _,hC.two,fun _ _=>rfl,fun q h=>by omega,rfl,htm,t0,t1,t2,t6,by rw[t7];congr 1;omega,by rw[t8];congr 1;omega⟩;clear htm t0 t1 t2 t6 t7 t8;rintro k ⟨tm,mk⟩ H' ⟨q1,l',hq,hk,hO',hM,hC',hout,hB,rfl,htm,t0,t1,t2,t6,t7,t8⟩ L hN hJ;have hl':=hM.len;have e1:(q1+1)*(2*s)=q1*(2*s)+2*s:=Nat.succ_mul _ _;obtain⟨a,ha⟩:∃a,a=q1*(2*s):=⟨_,rfl⟩;rw[←ha] at hq t7 t8 hout e1;rw[we tm htm,t0,t1,t2,t6,t7,t8,←hl'];by_cases hlt:a+2*s≤l.length
 ·have ea:(a:Int)+(s:Int)=((a+s:Nat):Int):=by omega
  have q2:q1*2*s=a:=by rw[ha,Nat.mul_assoc]
  have q3:(q1*2+1)*s=a+s:=by rw[Nat.succ_mul,q2]
  have q4:(q1*2+1+1)*s=a+2*s:=by rw[Nat.succ_mul,q3];omega
  have s1:=hA (q1*2) (by omega);have s2:=hA (q1*2+1) (by omega);rw[q2,q3,Nat.min_eq_left (by omega)] at s1;rw[q3,q4,Nat.min_eq_left (by omega)] at s2;simp(disch:=omega) only[ai,↓ah,seval,yx,ea];refine ID (2*s) l' a (a+s) (a+2*s) H' lo _ (by omega) hO' hlo (by omega) (by omega) (by omega) (by omega) (fun i j h1 h2 h3=>?_) (fun i j h1 h2 h3=>?_) (fun i j h1 h2 h3 h4=>?_) fun H2 l2 k2 o2 m2 s2=>?_
  ·rw[hout i h1,hout j (by omega)];exact s1 i j h1 h2 h3
  ·rw[hout i (by omega),hout j (by omega)];exact s2 i j h1 h2 h3
  ·rw[hout i h1,hout j (by omega)];exact hC i j (q1*2+1) (by omega) (by omega) (by omega)
  ·simp(disch:=omega) only[ai,↓ah,seval,yx]
   refine hN (k - 2*s) _ _ (by omega) ⟨q1+1,l2,by omega,hk.trans k2,o2,hM.trans (m2.wide (Nat.zero_le _) (by omega)),hC'.mix (q0:=q1) m2 (by omega) (by omega) (by omega),fun x hx=>by rw[m2.out x (by omega)];exact hout x (by omega),fun q hq=>?_,rfl,rfl,by rw[hl'];rfl,by rw[hl'];rfl,rfl,rfl,?_,?_⟩
   ·by_cases c:q=q1
    ·subst c;rw[←ha,e1];exact s2
    ·have:(q+1)*(2*s)≤q1*(2*s):=Nat.mul_le_mul_right _ (by omega)
     exact(hB q (by omega)).out m2 (by omega)
   ·show IV.int _ _=_
    congr 1;omega
   ·show IV.int _ _=_
    congr 1;omega
 ·simp(disch:=omega) only[ai,↓ah,seval,yx,hJ]
  exact hQ H' l' _ q1 hk hO' hM hC' (by rw[←ha];exact hout) hB (by omega) (by omega) rfl (by rw[hl'];rfl) (by rw[hl'];rfl) rfl rfl (by rw[←ha];rfl)
theorem F3{blk e cap:Nat}{ex:Bool}{l:List Hd}{s0:Nat}{H:Heap}{lo:Nat}{Q:Out→Heap→Prop}{tm:List IV}(hO:Own H blk e cap l)(hlo:lo≤blk)(hl:l.length≤1000000)(hs:0 < s0)(hs':s0≤2000000)(hA:AllB s0 l.length l)(hC:Cross s0 l)
  (htm:tm.length=63) (t0:tm.getD 0 IV.undef=(SV.sl blk 0 l.length cap ex).iv) (t1:tm.getD 1 IV.undef=.int .i64 l.length) (t2:tm.getD 2 IV.undef=.fn 153 [] []) (t6:tm.getD 6 IV.undef=.int .i64 s0)
  (hQ:∀H' l' tm',KeepX blk H H'→Own H' blk e cap l'→l'.Perm l→l'.Pairwise ch→Q (.ex (.jmp (.exit 2)) ⟨tm',[]⟩) H'):
  W E0 lo (.code (.loop (sK Tryz.f191 79)) none ⟨tm,[]⟩) H Q:=by
 refine aM (fun k fr H'=>∃s l',k=l.length - s∧0 < s∧s≤2000000∧KeepX blk H H'∧Own H' blk e cap l'∧Mix 0 l.length l l'∧AllB s l.length l'∧Cross s l'∧fr.marks=[]∧fr.tm.length=63∧fr.tm.getD 0 IV.undef=(SV.sl blk 0 l.length cap ex).iv∧fr.tm.getD 1 IV.undef=.int .i64 l.length∧fr.tm.getD 2 IV.undef=.fn 153 [] []∧fr.tm.getD 6 IV.undef=.int .i64 s) ?_ _ ⟨s0,l,rfl,hs,hs',KeepX.refl _ _,hO,Mix.refl _ _ _,hA,hC,rfl,htm,t0,t1,t2,t6⟩;clear htm t0 t1 t2 t6;rintro k ⟨tm,mk⟩ H' ⟨s,l',hks,hs0,hs2,hk,hO',hM,hA',hC',rfl,htm,t0,t1,t2,t6⟩ L hN hJ;have hl':=hM.len;rw[we tm htm,t0,t1,t2,t6,←hl'];by_cases hlt:s < l.length
 ·simp(disch:=omega) only[ai,↓ah,seval,oD,oC,oA,oz,ox,ov,(bj Tryz.f191 35),ou,oq,oo,kV,kU,kT,kR,kQ,kO,kM,kL,(bj Tryz.f191 79),(ax Tryz.f191 1),AG]
  refine IJ (ex:=ex) hO' hlo (by omega) hs0 (by omega) (by rw[hl'];exact hA') hC' rfl rfl rfl rfl rfl rfl rfl fun H2 l2 tm2 q1 k2 o2 m2 c2 f2 b2 g1 g2 htm2 u0 u1 u2 u6 u7=>?_;have hl2:=m2.len;obtain⟨a,ha⟩:∃a,a=q1*(2*s):=⟨_,rfl⟩;have e1:(q1+1)*(2*s)=a+2*s:=by rw[Nat.succ_mul,ha]
  have q2:q1*2*s=a:=by rw[ha,Nat.mul_assoc]
  have q3:(q1*2+1)*s=a+s:=by rw[Nat.succ_mul,q2]
  have q4:(q1*2+1+1)*s=a+2*s:=by rw[Nat.succ_mul,q3];omega
  rw[←ha] at g1 f2 u7;rw[e1] at g2;have ea:(a:Int)+(s:Int)=((a+s:Nat):Int):=by omega
  have e2:(s:Int)*2=((2*s:Nat):Int):=by omega
  rw[we tm2 htm2,u0,u1,u2,u6,u7,←hl2];have hl'':l'.length=l.length:=hl'
  have fin:∀H3 l3,KeepX blk H2 H3→Own H3 blk e cap l3→Mix a l2.length l2 l3→Srt ch l3 a l.length→AllB (2*s) l.length l3∧Cross (2*s) l3:=by
   intro H3 l3 k3 o3 m3 s3;refine⟨AllB.of (q1:=q1) (fun q hq=>?_) (by rw[←ha];exact s3) (by omega),c2.mix (q0:=q1) m3 (by omega) (by omega) (Nat.le_refl _)⟩
   have:(q+1)*(2*s)≤q1*(2*s):=Nat.mul_le_mul_right _ (by omega)
   exact(b2 q hq).out m3 (by omega)
  by_cases hm:a+s < l.length
  ·have s1:=hA' (q1*2) (by omega);have s2:=hA' (q1*2+1) (by omega);rw[q2,q3,Nat.min_eq_left (by omega)] at s1;rw[q3,q4,Nat.min_eq_right (by omega)] at s2;simp(disch:=omega) only[ai,↓ah,seval,oD,oC,oA,oz,ox,ov,(bj Tryz.f191 35),ou,oq,oo,kV,kU,kT,kR,kQ,kO,kM,kL,(bj Tryz.f191 79),(ax Tryz.f191 1),AG,ea];refine ID (2*s) l2 a (a+s) l2.length H2 lo _ (by omega) o2 hlo (by omega) (by omega) (by omega) (by omega) (fun i j h1 h2 h3=>?_) (fun i j h1 h2 h3=>?_) (fun i j h1 h2 h3 h4=>?_) fun H3 l3 k3 o3 m3 s3=>?_
   ·rw[f2 i h1,f2 j (by omega)];exact s1 i j h1 h2 h3
   ·rw[f2 i (by omega),f2 j (by omega)];exact s2 i j h1 h2 (by omega)
   ·rw[f2 i h1,f2 j (by omega)];exact hC' i j (q1*2+1) (by omega) (by omega) (by omega)
   ·rw[show l2.length=l.length from by omega] at s3;obtain⟨z1,z2⟩:=fin H3 l3 k3 o3 m3 s3;simp(disch:=omega) only[ai,↓ah,seval,oD,oC,oA,oz,ox,ov,(bj Tryz.f191 35),ou,oq,oo,kV,kU,kT,kR,kQ,kO,kM,kL,(bj Tryz.f191 79),(ax Tryz.f191 1),AG,e2];exact hN _ _ _ (by omega) ⟨2*s,l3,rfl,by omega,by omega,(hk.trans k2).trans k3,o3,(hM.trans (m2.wide (Nat.le_refl _) (by omega))).trans (m3.wide (Nat.zero_le _) (by omega)),z1,z2,rfl,rfl,by rw[hl2,hl'];rfl,by rw[hl2,hl'];rfl,rfl,rfl⟩
  ·have s3:Srt ch l2 a l.length:=by
    intro i j h1 h2 h3;have s1:=hA' (q1*2) (by omega);rw[q2,q3,Nat.min_eq_right (by omega)] at s1;rw[f2 i h1,f2 j (by omega)];exact s1 i j h1 h2 h3
   obtain⟨z1,z2⟩:=fin H2 l2 (KeepX.refl _ _) o2 (Mix.refl _ _ _) s3;simp(disch:=omega) only[ai,↓ah,seval,oD,oC,oA,oz,ox,ov,(bj Tryz.f191 35),ou,oq,oo,kV,kU,kT,kR,kQ,kO,kM,kL,(bj Tryz.f191 79),(ax Tryz.f191 1),AG,ea,e2];exact hN _ _ _ (by omega) ⟨2*s,l2,rfl,by omega,by omega,hk.trans k2,o2,hM.trans (m2.wide (Nat.le_refl _) (by omega)),z1,z2,rfl,rfl,by rw[hl2,hl'];rfl,by rw[hl2,hl'];rfl,rfl,rfl⟩
 ·simp(disch:=omega) only[ai,↓ah,seval,oD,oC,oA,oz,ox,ov,(bj Tryz.f191 35),ou,oq,oo,kV,kU,kT,kR,kQ,kO,kM,kL,(bj Tryz.f191 79),(ax Tryz.f191 1),AG,hJ]
  refine hQ H' l' _ hk hO' hM.perm (AB ?_);by_cases h0:l.length=0
  ·intro i j h1 h2 h3;omega
  ·have:=hA' 0 (by omega)
   rw[Nat.zero_mul,Nat.zero_add,Nat.one_mul,Nat.min_eq_right (by omega)] at this;rw[hl'];exact this
theorem F2{blk e cap:Nat}{ex:Bool}{l:List Hd}{H:Heap}{lo:Nat}{Q:Out→Heap→Prop}(hO:Own H blk e cap l)(hlo:lo≤blk)(hl:l.length≤1000000)(hord:l.Pairwise iP)
  (h:∀H' l',KeepX blk H H'→Own H' blk e cap l'→l'.Perm l→l'.Pairwise ch→Q (.val (.tuple [])) H'):W E0 lo (.call 152 [(SV.sl blk 0 l.length cap ex).iv,.fn 153 [] []]) H Q:=by
 rw[XK];have hv:=hO.sl ex;have hln:=hv.ln;simp(disch:=omega) only[ai,↓ah,seval,YM,↓hln];rw[Xr];simp(disch:=omega) only[ai,↓ah,seval,LN];refine P6 (ex:=ex) hO hlo hl hord rfl rfl rfl rfl rfl rfl rfl fun H2 l2 tm2 q1 k2 o2 m2 c2 f2 b2 g1 g2 htm2 u0 u1 u2 u6 u7=>?_;have hl2:=m2.len;rw[we tm2 htm2,u0,u1,u2,u6,u7,←hl2];simp(disch:=omega) only[ai,↓ah,seval,LN];refine qC (q1*20) l2.length o2 hlo (by omega) (by omega) (Nat.le_refl _) (fun i j h1 h2 h3=>?_) fun H3 l3 k3 o3 m3 s3=>?_
 ·rw[f2 i h1,f2 j (by omega)];exact iS hord 0 l.length (Nat.le_refl _) i j (Nat.zero_le _) h2 (by omega)
 ·have hl3:=m3.len;rw[←hl3];simp(disch:=omega) only[ai,↓ah,seval,LN];refine F3 (ex:=ex) (s0:=20) o3 hlo (by omega) (by omega) (by omega) (AllB.of (q1:=q1) (fun q hq=>(b2 q hq).out m3 (by omega)) (by rw[hl3];exact s3) (by omega)) (c2.mix m3 (Nat.le_refl _) (by omega) (Nat.le_refl _)) rfl rfl rfl rfl rfl fun H4 l4 tm4 k4 o4 p4 s4=>?_;simp(disch:=omega) only[ai,↓ah,seval,LN];exact h H4 l4 ((k2.trans k3).trans k4) o4 ((p4.trans m3.perm).trans m2.perm) s4
def d0(r:Int):Bool:=decide (r≥ -4)&&decide (r≤4)
theorem pD(r:Int){H:Heap}{lo:Nat}{Q:Out→Heap→Prop}(h:Q (.val (.bool (d0 r))) H):W E0 lo (.call 190 [.int .i64 r]) H Q:=by
 rw[Xs];unfold d0 at h
 cases e0:decide (r≥ -4)<;>simp only[e0,Bool.true_and,Bool.false_and] at h<;>simp(disch:=omega) only[ai,↓ah,seval,YD,e0]<;>exact h
theorem pF(r:Int){H:Heap}{lo:Nat}{Q:Out→Heap→Prop}(h:Q (.val (.bool (d0 r))) H):W E0 lo (.call 89 [.int .i64 r]) H Q:=by
 rw[c89];unfold d0 at h
 cases e0:decide (r≥ -4)<;>simp only[e0,Bool.true_and,Bool.false_and] at h<;>simp(disch:=omega) only[ai,↓ah,seval,B89,e0]<;>exact h
theorem rackB_iff{r:Int}:d0 r=true↔ -4≤r∧r≤4:=by unfold d0;simp
def aD(bed at_ r:Int):Int:=if an bed at_=0∧d0 r=true then(if bed=0 then 4*at_+2 else 4*(at_+r)) else 0
theorem lN(bed at_ r:Int){H:Heap}{lo:Nat}{Q:Out→Heap→Prop}(hlo:lo≤H.n)(h:∀H',Keep H.n H H'→Q (.val (.int .i64 (aD bed at_ r))) H'):W E0 lo (.call 35 [.agg [.int .u8 bed,.int .i64 at_],.int .i64 r]) H Q:=by
 refine gu _ hlo h fun R hR=>?_;clear h;rw[c35];simp(disch:=omega) only[ai,↓ah,seval,RG];generalize hH_H1:Heap.new _ _=H1;have hnH1:H1.n=H.n+1:=by rw[←hH_H1];rfl
 have g0:=congrArg (fun h0=>Heap.get h0 (H.n)) hH_H1.symm;simp(disch:=omega) only[ai,↓ah,seval] at g0
 have kH1:Keep H.n H H1:=⟨by omega,fun x hx _=>by
  have gx:=congrArg (fun h0=>Heap.get h0 x) hH_H1.symm;simp(disch:=omega) only[ai,↓ah,seval] at gx;exact gx⟩
 clear hH_H1;refine bU bed at_ (by omega) fun H2 k2=>?_;have hn2:=k2.1;replace g0:=(k2.2 _ (by omega) (by omega)).trans g0;have r0:=ae g0;unfold aD at hR;rcases jd bed at_ with hv | hv
 case inr=>
  rw[if_neg (by omega)] at hR;simp(disch:=omega) only[ai,↓ah,seval,RG,hv];exact hR _
 by_cases hr:d0 r=true
 case neg=>
  rw[if_neg (fun h=>hr h.2)] at hR;rw[Bool.not_eq_true] at hr;simp(disch:=omega) only[ai,↓ah,seval,RG,hv];refine pF r ?_;simp(disch:=omega) only[ai,↓ah,seval,RG,hr];exact hR _
 rw[if_pos ⟨hv,hr⟩] at hR;have hr':=rackB_iff.1 hr;obtain⟨hb,h1,h2⟩:=dV hv;simp(disch:=omega) only[ai,↓ah,seval,RG,hv];refine pF r ?_;rcases hb with rfl | rfl
 ·rw[if_pos rfl] at hR;simp(disch:=omega) only[ai,↓ah,seval,RG,hr,r0];exact hR _
 ·rw[if_neg (by omega)] at hR;simp(disch:=omega) only[ai,↓ah,seval,RG,hr,r0];exact hR _
def bB(fs bs:List (List Id))(r:Int):Int:=if aU fs bs≠0 then aU fs bs else if d0 r=true then 0 else 11
theorem xG{f b:SV}{fs bs:List (List Id)}(r:Int){H:Heap}{lo:Nat}{Q:Out→Heap→Prop}(hf:Sl2 H f fs)(hb:Sl2 H b bs)(hlf:fs.length≤1000000)(hlb:bs.length≤1000000)(hl:∀l∈fs,l.length≤1000000)(hl':∀l∈bs,l.length≤1000000)(hlo:lo≤H.n)
  (h:∀H',Keep H.n H H'→Q (.val (.int .i64 (bB fs bs r))) H'):W E0 lo (.call 150 [bv f b,.int .i64 r]) H Q:=by
 refine gu _ hlo h fun R hR=>?_;clear h;rw[XM];simp(disch:=omega) only[ai,↓ah,seval,LP,bv];generalize hH_H1:Heap.new _ _=H1;have hnH1:H1.n=H.n+1:=by rw[←hH_H1];rfl
 have g0:=congrArg (fun h0=>Heap.get h0 (H.n)) hH_H1.symm;simp(disch:=omega) only[ai,↓ah,seval] at g0
 have kH1:Keep H.n H H1:=⟨by omega,fun x hx _=>by
  have gx:=congrArg (fun h0=>Heap.get h0 x) hH_H1.symm;simp(disch:=omega) only[ai,↓ah,seval] at gx;exact gx⟩
 clear hH_H1;rw[show IV.agg [f.iv,b.iv]=bv f b from rfl];refine qZ (hf.keep kH1) (hb.keep kH1) hlf hlb hl hl' (by omega) fun H2 k2=>?_;unfold bB at hR;by_cases hc:aU fs bs=0
 ·rw[if_neg (by simp[hc])] at hR;simp(disch:=omega) only[ai,↓ah,seval,LP,hc];refine pD r ?_;by_cases hr:d0 r=true
  ·rw[if_pos hr] at hR;simp(disch:=omega) only[ai,↓ah,seval,LP,hr];exact hR _
  ·rw[if_neg hr] at hR;rw[Bool.not_eq_true] at hr;simp(disch:=omega) only[ai,↓ah,seval,LP,hr];exact hR _
 ·have e0:(aU fs bs !=0)=true:=by simp[hc]
  rw[if_pos hc] at hR;simp(disch:=omega) only[ai,↓ah,seval,LP,e0];exact hR _
theorem Cl{v:SV}{l:List Hd}{H:Heap}{lo:Nat}{Q:Out→Heap→Prop}(hv:Sl H v l)(hl:l.length≤1000000)(hlo:lo≤H.n)
  (h:∀H' b,Keep H.n H H'→H.n≤b→Own H' b 204 l.length l→Q (.val (SV.sl b 0 l.length l.length true).iv) H'):W E0 lo (.call 154 [v.iv]) H Q:=by
 refine W.pure aX hlo ?_;rw[XI];obtain⟨H2,e1,e2,e3,e4⟩:=gI hv (z:=5) rfl 204 H.n [IV.int .u8 0,.int .i64 0,.int .u8 0,.int .i64 0,.int .i64 0] rfl (Nat.le_refl _);simp(disch:=omega) only[ai,↓ah,seval,YL,↓hv.ln,↓e1,Int.reducePow];exact fun hk=>h _ _ hk (Nat.le_refl _) e4
def aW(bed at_ spot:Int)(k0:Nat)(st:List Id):List Hd:=st.mapIdx fun j a=>⟨a,bed,at_,spot,k0+j⟩
theorem eo(bed at_ spot:Int)(k0:Nat)(st:List Id):(aW bed at_ spot k0 st).length=st.length:=by simp[aW]
theorem sr(bed at_ spot:Int)(k0:Nat)(st:List Id)(j:Nat)(hj:j < st.length):(aW bed at_ spot k0 st).take (j+1)=(aW bed at_ spot k0 st).take j++[⟨st[j],bed,at_,spot,k0+j⟩]:=by
 rw[List.take_succ_eq_append_getElem (by rw[eo];exact hj)];simp[aW]
def kH(bed:Int)(i:Nat):Nat:=8*(40*bed.toNat+i)
def gO(bed r:Int)(fs:List (List Id)):List (List Hd):=fs.mapIdx fun i st=>aW bed ((i:Int)+1) (aD bed ((i:Int)+1) r) (kH bed i) st
theorem bZ(bed r:Int)(fs:List (List Id)):(gO bed r fs).length=fs.length:=by simp[gO]
theorem Hq(bed r:Int)(fs:List (List Id))(i:Nat)(hi:i < fs.length):(gO bed r fs).take (i+1)=(gO bed r fs).take i++[aW bed ((i:Int)+1) (aD bed ((i:Int)+1) r) (kH bed i) fs[i]]:=by
 rw[List.take_succ_eq_append_getElem (by rw[bZ];exact hi)];simp[gO]
theorem oX(bed r:Int)(fs:List (List Id))(i:Nat):((gO bed r fs).take i).flatten.length=dT (fs.take i):=by
 rw[List.length_flatten];unfold dT;congr 1;apply List.ext_getElem
 ·simp[gO]
 ·intro n h1 h2;simp[gO,aW]
theorem BL(a b:List (List Id)):dT (a++b)=dT a+dT b:=by unfold dT;simp
theorem Hr{α:Type}[Cell α]{H:Heap}{b e cap:Nat}{ex:Bool}{l:List α}{a:α}{v:SV}(ho:Own H b e cap l)(hv:Sl H v [a]){z:Nat}(hz:Cell.z α=z)(bytes lo:Nat)(hr:l.length+1≤cap)(hlo:lo≤b):
  ∃H2,ev1 (.append e z bytes) [.slice b 0 l.length cap ex,v.iv] lo H=some (.slice b 0 (l.length+1) cap ex,H2)∧H2.n=H.n∧(∀b',b'≠b→H2.get b'=H.get b')∧Own H2 b e cap (l++[a]):=ca (m:=[a]) ho hv hz bytes lo hr hlo
theorem M7{α:Type}[Cell α]{H:Heap}{e z:Nat}(hz:Cell.z α=z)(a:α):Own (H.new (.cells false e z (Cell.cs a))) H.n e 1 [a]:=by
 have:=Own.mk' (H:=H.new (.cells false e z (Cell.cs a))) (b:=H.n) (e:=e) (l:=[a]) (by rw[ac];omega) hz (by rw[aj,if_pos rfl]) (BW a).symm
 exact this
def KeepT(p q:Nat)(H H':Heap):Prop:=H.n≤H'.n∧∀x,x < H.n→x≠p→x≠q→H'.get x=H.get x
theorem KeepT.refl(p q:Nat)(H:Heap):KeepT p q H H:=⟨Nat.le_refl _,fun _ _ _ _=>rfl⟩
theorem KeepT.trans{p q:Nat}{a b c:Heap}(h:KeepT p q a b)(k:KeepT p q b c):KeepT p q a c:=⟨Nat.le_trans h.1 k.1,fun x h1 h2 h3=>(k.2 x (Nat.lt_of_lt_of_le h1 h.1) h2 h3).trans (h.2 x h1 h2 h3)⟩
theorem KeepT.of{p q:Nat}{H H':Heap}(k:Keep H.n H H'):KeepT p q H H':=⟨k.1,fun x h _ _=>k.2 x h h⟩
def Ab(tm:List IV)(h:tm.length=39):=(bL tm 39 h).trans (by simp only[List.range,List.range.loop,List.map_cons,List.map_nil];exact rfl)
theorem Hw{db rb kb cap:Nat}{ex:Bool}{bed at_ r:Int}{nb k0:Nat}{st:List Id}{w:SV}{l:List Hd}{y11 y12 y13:IV}{H:Heap}{lo:Nat}{Q:Out→Heap→Prop}{tm:List IV}(hlo:lo≤db)(hlr:lo≤rb)(hw:Sl H w st)(hst:st.length≤1000000)(hlh:lo≤H.n)
  (hwb:st≠[]→w.blk≠db∧w.blk≠rb) (gr:H.get rb=some (.cells false 200 1 [.slice db 0 l.length cap ex])) (hO:Own H db 204 cap l) (gk:H.get kb=some (.cells false 3 1 [.int .i64 r])) (gn:H.get nb=some (.cells false 54 2 [.int .u8 bed,.int .i64 at_]))
  (hne:rb≠db∧kb≠db∧nb≠db∧rb≠kb∧rb≠nb) (hrb:rb < H.n) (hkb:kb < H.n) (hnb:nb < H.n) (hcap:l.length+st.length≤cap) (hcap':cap≤1000000)
  (htm:tm.length=39) (t2:tm.getD 2 IV.undef=.ptr rb 0) (t3:tm.getD 3 IV.undef=.ptr kb 0) (t0:tm.getD 0 IV.undef=.int .u8 bed) (t8:tm.getD 8 IV.undef=.ptr nb 0) (t11:tm.getD 11 IV.undef=y11) (t12:tm.getD 12 IV.undef=y12) (t13:tm.getD 13 IV.undef=y13) (t22:tm.getD 22 IV.undef=w.iv) (t23:tm.getD 23 IV.undef=.int .i64 st.length) (t24:tm.getD 24 IV.undef=.int .i64 0)
  (hQ:∀H' tm',KeepT rb db H H'→H'.get rb=some (.cells false 200 1 [.slice db 0 (l++aW bed at_ (aD bed at_ r) k0 st).length cap ex])→Own H' db 204 cap (l++aW bed at_ (aD bed at_ r) k0 st)→tm'.length=39→tm'.getD 2 IV.undef=.ptr rb 0→tm'.getD 3 IV.undef=.ptr kb 0→tm'.getD 0 IV.undef=.int .u8 bed→tm'.getD 11 IV.undef=y11→tm'.getD 12 IV.undef=y12→tm'.getD 13 IV.undef=y13→Q (.ex (.jmp (.exit 2)) ⟨tm',[]⟩) H'):
  W E0 lo (.code (.loop (GU Tryz.f151 5017)) none ⟨tm,[]⟩) H Q:=by
 have hS:=eo bed at_ (aD bed at_ r) k0 st;refine aM (fun k fr H'=>∃j,j+k=st.length∧KeepT rb db H H'∧H'.get rb=some (.cells false 200 1 [.slice db 0 (l++(aW bed at_ (aD bed at_ r) k0 st).take j).length cap ex])∧Own H' db 204 cap (l++(aW bed at_ (aD bed at_ r) k0 st).take j)∧fr.marks=[]∧fr.tm.length=39∧fr.tm.getD 2 IV.undef=.ptr rb 0∧fr.tm.getD 3 IV.undef=.ptr kb 0∧fr.tm.getD 0 IV.undef=.int .u8 bed∧fr.tm.getD 8 IV.undef=.ptr nb 0∧fr.tm.getD 11 IV.undef=y11∧fr.tm.getD 12 IV.undef=y12∧fr.tm.getD 13 IV.undef=y13∧fr.tm.getD 22 IV.undef=w.iv∧fr.tm.getD 23 IV.undef=.int .i64 st.length∧fr.tm.getD 24 IV.undef=.int .i64 j) ?_ st.length ⟨0,by omega,KeepT.refl _ _ _,by simpa using gr,by simpa using hO,rfl,htm,t2,t3,t0,t8,t11,t12,t13,t22,t23,t24⟩;clear htm t2 t3 t0 t8 t11 t12 t13 t22 t23 t24 hO;rintro k ⟨tm,mk⟩ H' ⟨j,hjk,hk,gr',hO',rfl,htm,t2,t3,t0,t8,t11,t12,t13,t22,t23,t24⟩ L hN hJ;have hn:=hk.1;rw[Ab tm htm,t2,t3,t0,t8,t11,t12,t13,t22,t23,t24];by_cases hj:j < st.length
 ·have hwb':=hwb (by intro e;rw[e] at hj;simp at hj);have hw':Sl H' w st:=hw.same hn fun hx=>hk.2 _ (hw.blk_lt hx) hwb'.2 hwb'.1;have r1:=hw'.read kJ j hj;have gk':=(hk.2 kb hkb (Ne.symm hne.2.2.2.1) hne.2.1).trans gk;have gn':=(hk.2 nb hnb (Ne.symm hne.2.2.2.2) hne.2.2.1).trans gn;have rr:=ae gr';have rk:=ae gk';have rn:=ae gn';simp(disch:=omega) only[ai,↓ah,seval,LJ,↓hw'.idx,r1,eC,rr,rk,rn];generalize hH_H2:Heap.put _ _ _=H2;have hnH2:H2.n=H'.n+1:=by rw[←hH_H2];rfl
  have gi:=congrArg (fun h0=>Heap.get h0 (H'.n)) hH_H2.symm;simp(disch:=omega) only[ai,↓ah,seval] at gi
  have kH2:Keep H'.n H' H2:=⟨by omega,fun x hx _=>by
   have gx:=congrArg (fun h0=>Heap.get h0 x) hH_H2.symm;simp(disch:=omega) only[ai,↓ah,seval] at gx;exact gx⟩
  clear hH_H2;refine lN bed at_ r (by omega) fun H3 k3=>?_;have hn3:=k3.1;have kk3:Keep H'.n H' H3:=kH2.trans (k3.lower (by omega));have hdb:=hO'.2.1;have hO3:=hO'.keep kk3;have hel:Cell.cs (⟨st[j],bed,at_,aD bed at_ r,k0+j⟩:Hd)=[IV.int .u8 st[j].y,.int .i64 st[j].n,.int .u8 bed,.int .i64 at_,.int .i64 (aD bed at_ r)]:=rfl;obtain⟨H5,e5,n5,f5,o5⟩:=Hr (ex:=ex) (a:=(⟨st[j],bed,at_,aD bed at_ r,k0+j⟩:Hd)) (e:=204) (hO3.keep (.new _ (.cells false 204 5 (Cell.cs (⟨st[j],bed,at_,aD bed at_ r,k0+j⟩:Hd))))) ((M7 iX _).sl true) iX 40 lo (by rw[List.length_append,List.length_take,hS];omega) hlo;rw[hel] at e5 f5 n5;rw[ac] at n5;simp only[List.length_cons,List.length_nil,Nat.zero_add,SV.iv] at e5;have g5:=(f5 rb hne.1).trans ((aj _ _ _).trans (if_neg (by omega)));rw[kk3.2 rb (by omega) (by omega),gr'] at g5;simp(disch:=omega) only[ai,↓ah,seval,LJ,↓e5,g5];refine hN (k - 1) _ _ (by omega) ⟨j+1,by omega,⟨?_,fun x h1 h2 h3=>?_⟩,?_,?_,rfl,rfl,rfl,rfl,rfl,rfl,rfl,rfl,rfl,rfl,rfl,?_⟩
  ·rw[af];omega
  ·rw[aa,if_neg (Ne.symm h2),f5 x h3,aj,if_neg (by omega),kk3.2 x (by omega) (by omega)];exact hk.2 x h1 h2 h3
  ·have:(l++(aW bed at_ (aD bed at_ r) k0 st).take (j+1)).length=(l++(aW bed at_ (aD bed at_ r) k0 st).take j).length+1:=by rw[sr _ _ _ _ _ _ hj,←List.append_assoc,List.length_append];rfl
   rw[aa,if_pos rfl,this]
  ·rw[sr _ _ _ _ _ _ hj,←List.append_assoc];exact o5.same (by rw[af];omega) (by rw[aa,if_neg hne.1])
  ·rfl
 ·have:j=st.length:=by omega
  subst this;rw[List.take_of_length_le (by omega)] at gr' hO';simp(disch:=omega) only[ai,↓ah,seval,LJ,hJ];exact hQ H' _ hk gr' hO' rfl rfl rfl rfl rfl rfl rfl
theorem Ld{db rb kb cap:Nat}{ex:Bool}(bed r:Int){f:SV}{fs:List (List Id)}{l:List Hd}{H0 H:Heap}{lo:Nat}{Q:Out→Heap→Prop}(hlo:lo≤db)(hlr:lo≤rb)(hf:Sl2 H0 f fs)(hk:Keep H0.n H0 H)(hr0:H0.n≤rb)(hd0:H0.n≤db)
  (hlen:fs.length≤1000000) (hst:∀x∈fs,x.length≤1000000) (gr:H.get rb=some (.cells false 200 1 [.slice db 0 l.length cap ex])) (hO:Own H db 204 cap l) (gk:H.get kb=some (.cells false 3 1 [.int .i64 r]))
  (hne:rb≠db∧kb≠db∧rb≠kb) (hrb:rb < H.n) (hkb:kb < H.n) (hcap:l.length+dT fs≤cap) (hcap':cap≤1000000)
  (hQ:∀H',KeepT rb db H H'→H'.get rb=some (.cells false 200 1 [.slice db 0 (l++(gO bed r fs).flatten).length cap ex])→Own H' db 204 cap (l++(gO bed r fs).flatten)→Q (.val (.tuple [])) H'):
  W E0 lo (.call 151 [.int .u8 bed,f.iv,.ptr rb 0,.ptr kb 0]) H Q:=by
 rw[XL];have hf1:=hf.keep hk;simp(disch:=omega) only[ai,↓ah,seval,Tw,↓hf1.ln];refine aM (fun k fr H'=>∃i,i+k=fs.length∧KeepT rb db H H'∧H'.get rb=some (.cells false 200 1 [.slice db 0 (l++((gO bed r fs).take i).flatten).length cap ex])∧Own H' db 204 cap (l++((gO bed r fs).take i).flatten)∧fr.marks=[]∧fr.tm.length=39∧fr.tm.getD 0 IV.undef=.int .u8 bed∧fr.tm.getD 2 IV.undef=.ptr rb 0∧fr.tm.getD 3 IV.undef=.ptr kb 0∧fr.tm.getD 11 IV.undef=f.iv∧fr.tm.getD 12 IV.undef=.int .i64 fs.length∧fr.tm.getD 13 IV.undef=.int .i64 i) ?_ fs.length ⟨0,by omega,KeepT.refl _ _ _,by simpa using gr,by simpa using hO,rfl,rfl,rfl,rfl,rfl,rfl,rfl,rfl⟩;clear hO gr;rintro k ⟨tm,mk⟩ H' ⟨i,hik,hkt,gr,hO,rfl,htm,t0,t2,t3,t11,t12,t13⟩ L hN hJ;have hn:=hkt.1;have hn0:=hk.1;have kk:Keep H0.n H0 H':=⟨by omega,fun x h1 h2=>(hkt.2 x (by omega) (by omega) (by omega)).trans (hk.2 x h1 h2)⟩;rw[Ab tm htm,t0,t2,t3,t11,t12,t13];by_cases hi:i < fs.length
 ·have hf2:=hf.keep kk;obtain⟨w,r1,s1,_⟩:=hf.elem i hi
  have hbl:f.blk < H0.n:=by
   obtain⟨vs,g1,g2,g3⟩:=hf;exact g1.blk_lt' (i:=i) (by omega)
  have r1':=kk.read f.blk (f.off+i*1) 1 hbl hbl;rw[r1] at r1';have s1':=s1.keep kk;have hfl:=oX bed r fs i;have hle:=oR fs i hi
  have hlt:dT (fs.take (i+1))≤dT fs:=by
   have h:=BL (fs.take (i+1)) (fs.drop (i+1));rw[List.take_append_drop] at h;omega
  simp(disch:=omega) only[ai,↓ah,seval,tQ,tP,tO,tN,tM,tL,tK,tJ,tI,pQ,(bj Tryz.f151 9),(ax Tryz.f151 1),Em,↓hf2.idx,r1',↓s1'.ln]
  generalize hH_H2:Heap.put _ _ _=H2;have hnH2:H2.n=H'.n+1:=by rw[←hH_H2];rfl
  have gn:=congrArg (fun h0=>Heap.get h0 (H'.n)) hH_H2.symm;simp(disch:=omega) only[ai,↓ah,seval] at gn
  have kH2:Keep H'.n H' H2:=⟨by omega,fun x hx _=>by
   have gx:=congrArg (fun h0=>Heap.get h0 x) hH_H2.symm;simp(disch:=omega) only[ai,↓ah,seval] at gx;exact gx⟩
  clear hH_H2;have hdb:=hO.2.1;have g2:=(kH2.2 rb (by omega) (by omega)).trans gr;have gk2:=(kH2.2 kb (by omega) (by omega)).trans ((hkt.2 kb hkb (Ne.symm hne.2.2) hne.2.1).trans gk);refine Hw (at_:=(i:Int)+1) (k0:=kH bed i) hlo hlr (s1'.keep kH2) (hst _ (List.getElem_mem hi)) (by omega) (fun hx=>?_) g2 (hO.keep kH2) gk2 gn ⟨hne.1,hne.2.1,by omega,hne.2.2,by omega⟩ (by omega) (by omega) (by omega) (by rw[List.length_append,hfl];omega) hcap' rfl rfl rfl rfl rfl rfl rfl rfl rfl rfl rfl fun H3 Ix k3 g3 o3 u u2 u3 u0 u11 u12 u13=>?_
  ·have:=s1.blk_lt hx
   omega
  ·rw[Ab Ix u,u2,u3,u0,u11,u12,u13];simp(disch:=omega) only[ai,↓ah,seval,tQ,tP,tO,tN,tM,tL,tK,tJ,tI,pQ,(bj Tryz.f151 9),(ax Tryz.f151 1),Em]
   have e1:l++((gO bed r fs).take i).flatten++aW bed ((i:Int)+1) (aD bed ((i:Int)+1) r) (kH bed i) fs[i]=l++((gO bed r fs).take (i+1)).flatten:=by
    rw[Hq _ _ _ _ hi,List.flatten_append,List.append_assoc];simp
   rw[e1] at g3 o3;exact hN (k - 1) _ _ (by omega) ⟨i+1,by omega,(hkt.trans (KeepT.of kH2)).trans k3,g3,o3,rfl,rfl,rfl,rfl,rfl,rfl,rfl,rfl⟩
 ·have:i=fs.length:=by omega
  subst this;rw[List.take_of_length_le (by rw[bZ];exact Nat.le_refl _)] at gr hO;simp(disch:=omega) only[ai,↓ah,seval,tQ,tP,tO,tN,tM,tL,tK,tJ,tI,pQ,(bj Tryz.f151 9),(ax Tryz.f151 1),Em,hJ];exact hQ H' hkt gr hO
def po(fs bs:List (List Id))(r:Int):List Hd:=(gO 0 r fs).flatten++(gO 1 r bs).flatten
theorem mX{bed at_ spot:Int}{k0:Nat}{st:List Id}{x:Hd}(h:x∈aW bed at_ spot k0 st):k0≤x.k∧x.k < k0+st.length:=by
 obtain⟨j,hj,rfl⟩:=List.mem_iff_getElem.1 h;rw[eo] at hj;simp[aW];omega
theorem Dc(bed at_ spot:Int)(k0:Nat)(st:List Id):(aW bed at_ spot k0 st).Pairwise iP:=by
 rw[List.pairwise_iff_getElem];intro i j h1 h2 h3;simp[aW,iP];omega
theorem K7{bed r:Int}{fs:List (List Id)}(h4:∀x∈fs,x.length≤4){x:Hd}(h:x∈(gO bed r fs).flatten):kH bed 0≤x.k∧x.k < kH bed fs.length:=by
 obtain⟨s,hs,hx⟩:=List.mem_flatten.1 h;obtain⟨i,hi,rfl⟩:=List.mem_iff_getElem.1 hs;rw[bZ] at hi;simp only[gO,List.getElem_mapIdx] at hx
 have:=mX hx
 have:=h4 _ (List.getElem_mem hi)
 unfold kH at *;omega
theorem Cu(bed r:Int){fs:List (List Id)}(h4:∀x∈fs,x.length≤4):((gO bed r fs).flatten).Pairwise iP:=by
 rw[List.pairwise_flatten]
 constructor
 ·intro s hs;obtain⟨i,hi,rfl⟩:=List.mem_iff_getElem.1 hs;simp only[gO,List.getElem_mapIdx];exact Dc _ _ _ _ _
 ·rw[List.pairwise_iff_getElem];intro i j h1 h2 h3 x hx y hy;rw[bZ] at h1 h2;simp only[gO,List.getElem_mapIdx] at hx hy;have a1:=mX hx;have a2:=mX hy
  have:=h4 _ (List.getElem_mem h1)
  unfold kH at *;unfold iP;omega
theorem G0{fs bs:List (List Id)}(r:Int)(hc:aU fs bs=0):(po fs bs r).Pairwise iP:=by
 obtain⟨h1,h2,h3,h4,_⟩:=je hc;unfold po;rw[List.pairwise_append];refine⟨Cu 0 r h3,Cu 1 r h4,fun x hx y hy=>?_⟩;have a1:=K7 h3 hx;have a2:=K7 h4 hy;have e0:kH 0 fs.length=8*fs.length:=by unfold kH;simp
 have e1:kH 1 0=320:=by unfold kH;simp
 unfold iP;omega
theorem i9(fs bs:List (List Id))(r:Int):(po fs bs r).length=dT fs+dT bs:=by
 unfold po;rw[List.length_append];have a:=oX 0 r fs fs.length;have b:=oX 1 r bs bs.length;rw[List.take_of_length_le (by rw[bZ];exact Nat.le_refl _),List.take_length] at a b;omega
theorem ld{fs:List (List Id)}(h1:fs.length≤40)(h4:∀x∈fs,x.length≤4):dT fs≤160:=by
 have key:∀fs:List (List Id),(∀x∈fs,x.length≤4)→dT fs≤4*fs.length:=by
  intro fs
  induction fs with
  | nil=>intro _;simp[dT]
  | cons a l ih=>
    intro h
    have:=ih fun x hx=>h x (by simp[hx])
    have:=h a (by simp)
    simp[dT] at *;omega
 have:=key fs h4
 omega
theorem vG{f b:SV}{fs bs:List (List Id)}(r:Int){H:Heap}{lo:Nat}{Q:Out→Heap→Prop}(hf:Sl2 H f fs)(hb:Sl2 H b bs)(hlf:fs.length≤1000000)(hlb:bs.length≤1000000)(hl:∀l∈fs,l.length≤1000000)(hl':∀l∈bs,l.length≤1000000)(hlo:lo≤H.n)
  (he:∀H',Keep H.n H H'→bB fs bs r≠0→Q (.val (.tuple [.nilSlice,.int .i64 (bB fs bs r)])) H')
  (h:∀H' v l,Keep H.n H H'→bB fs bs r=0→Fresh H.n H' 204 v l→l.Perm (po fs bs r)→l.Pairwise ch→Q (.val (.tuple [v.iv,.int .i64 0])) H'):W E0 lo (.call 119 [bv f b,.int .i64 r]) H Q:=by
 refine W.pure aX hlo ?_;rw[X4];simp(disch:=omega) only[ai,↓ah,seval,CW,bv];generalize hH_H1:Heap.new _ _=H1;have hnH1:H1.n=H.n+2:=by rw[←hH_H1];rfl
 have g0:=congrArg (fun h0=>Heap.get h0 (H.n)) hH_H1.symm;simp(disch:=omega) only[ai,↓ah,seval] at g0;have g1:=congrArg (fun h0=>Heap.get h0 (H.n+1)) hH_H1.symm;simp(disch:=omega) only[ai,↓ah,seval] at g1
 have kH1:Keep H.n H H1:=⟨by omega,fun x hx _=>by
  have gx:=congrArg (fun h0=>Heap.get h0 x) hH_H1.symm;simp(disch:=omega) only[ai,↓ah,seval] at gx;exact gx⟩
 clear hH_H1;rw[show IV.agg [f.iv,b.iv]=bv f b from rfl];refine xG r (hf.keep kH1) (hb.keep kH1) hlf hlb hl hl' (by omega) fun H2 k2=>?_;have hn2:=k2.1;replace g0:=(k2.2 _ (by omega) (by omega)).trans g0;replace g1:=(k2.2 _ (by omega) (by omega)).trans g1;replace kH1:Keep H.n H H2:=kH1.trans (k2.lower (by omega));clear k2;by_cases hc:bB fs bs r=0
 case neg=>
  have e0:(bB fs bs r !=0)=true:=by simp[hc]
  simp(disch:=omega) only[ai,↓ah,seval,CW,e0]
  exact fun hk=>he _ hk hc
 have hck:aU fs bs=0:=by
  unfold bB at hc;split at hc
  ·contradiction
  ·rename_i h;simpa using h
 obtain⟨c1,c2,c3,c4,c5,c6⟩:=je hck;have r0:=ae g0;have hcount:dT (fs.take 40)+dT (bs.take 40)=dT fs+dT bs:=by rw[List.take_of_length_le c1,List.take_of_length_le c2]
 have hbf:=ld c1 c3;have hbb:=ld c2 c4;simp(disch:=omega) only[ai,↓ah,seval,CW,hc,r0];rw[show IV.agg [f.iv,b.iv]=bv f b from rfl];refine Cj (hf.keep kH1) (hb.keep kH1) hlf hlb hl hl' (by omega) fun H3 k3=>?_;have hn3:=k3.1;replace g0:=(k3.2 _ (by omega) (by omega)).trans g0;replace g1:=(k3.2 _ (by omega) (by omega)).trans g1;replace kH1:Keep H.n H H3:=kH1.trans (k3.lower (by omega));clear k3 r0;rw[hcount];have r0:=ae g0;simp(disch:=omega) only[ai,↓ah,seval,CW,Int.reducePow,r0];generalize hH_H4:Heap.put _ _ _=H4;have hnH4:H4.n=H3.n+2:=by rw[←hH_H4];rfl
 have gd:=congrArg (fun h0=>Heap.get h0 (H3.n)) hH_H4.symm;simp(disch:=omega) only[ai,↓ah,seval] at gd;have gr:=congrArg (fun h0=>Heap.get h0 (H3.n+1)) hH_H4.symm;simp(disch:=omega) only[ai,↓ah,seval] at gr
 have kH4:Keep H3.n H3 H4:=⟨by omega,fun x hx _=>by
  have gx:=congrArg (fun h0=>Heap.get h0 x) hH_H4.symm;simp(disch:=omega) only[ai,↓ah,seval] at gx;exact gx⟩
 clear hH_H4;have hOd:Own H4 H3.n 204 (dT fs+dT bs) ([]:List Hd):=⟨Nat.zero_le _,by omega,_,gd,by have h:=congrArg List.length (vv (dT fs+dT bs) (⟨⟨0,0⟩,0,0,0,0⟩:Hd));rw[ao,List.length_replicate] at h;exact h⟩;clear gd;have kH4':=kH1.trans (kH4.lower (by omega));have e2:=kH4.2 H.n (by omega) (by omega);have e3:=kH4.2 (H.n+1) (by omega) (by omega);rw[g0] at e2;rw[g1] at e3;clear r0 g0 g1 kH4;refine Ld (ex:=true) 0 r (l:=[]) (by omega) (by omega) hf kH4' (by omega) (by omega) hlf hl gr hOd e3 (by omega) (by omega) (by omega) (by show 0+dT fs≤_;omega) (by omega) fun H5 k5 gr5 hO5=>?_;rw[List.nil_append] at gr5 hO5;have hn5:=k5.1;have e2':=(k5.2 H.n (by omega) (by omega) (by omega)).trans e2;have e3':=(k5.2 (H.n+1) (by omega) (by omega) (by omega)).trans e3;have kH5:Keep H.n H H5:=⟨by omega,fun x h1 h2=>(k5.2 x (by omega) (by omega) (by omega)).trans (kH4'.2 x h1 h2)⟩;have r0:=ae e2'
 have hl5:((gO 0 r fs).flatten).length=dT fs:=by
  have a:=oX 0 r fs fs.length
  rwa [List.take_of_length_le (by rw[bZ];exact Nat.le_refl _),List.take_length] at a
 simp(disch:=omega) only[ai,↓ah,seval,CW,r0]
 refine Ld (ex:=true) 1 r (l:=(gO 0 r fs).flatten) (by omega) (by omega) hb kH5 (by omega) (by omega) hlb hl' gr5 hO5 e3' (by omega) (by omega) (by omega) (by omega) (by omega) fun H6 k6 gr6 hO6=>?_;rw[show(gO 0 r fs).flatten++(gO 1 r bs).flatten=po fs bs r from rfl] at gr6 hO6;have hn6:=k6.1;have kH6:Keep H.n H H6:=⟨by omega,fun x h1 h2=>(k6.2 x (by omega) (by omega) (by omega)).trans (kH5.2 x h1 h2)⟩;have r6:=ae gr6;have hl6:=i9 fs bs r;simp(disch:=omega) only[ai,↓ah,seval,CW,r6];refine F2 (ex:=true) hO6 (by omega) (by omega) (G0 r hck) fun H7 l7 k7 hO7 p7 s7=>?_;have hn7:=k7.1;have kH7:Keep H.n H H7:=⟨by omega,fun x h1 h2=>(k7.2 x (by omega) (by omega)).trans (kH6.2 x h1 h2)⟩;have gr7:=(k7.2 (H3.n+1) (by omega) (by omega)).trans gr6;have r7:=ae gr7;have hl7:l7.length=(po fs bs r).length:=p7.length_eq;simp(disch:=omega) only[ai,↓ah,seval,CW,r7];rw[←hl7];refine Cl (hO7.sl true) (by omega) (by omega) fun H8 b8 k8 hb8 hO8=>?_;have hn8:=k8.1;simp(disch:=omega) only[ai,↓ah,seval,CW];exact fun hk=>h H8 (.sl b8 0 l7.length l7.length true) l7 hk hc (.inr ⟨b8,rfl,by omega,hO8⟩) p7 s7
def Fw(fs bs:List (List Id))(r spot:Int)(i:Nat):List Hd:=if aD (nB i) (nA i) r=spot then aW (nB i) (nA i) spot (8*i) (mC fs bs (nB i) (nA i)) else[]
def Qk(fs bs:List (List Id))(r spot:Int):List Hd:=(List.range 80).flatMap (Fw fs bs r spot)
def bJ(fs bs:List (List Id))(r:Int):List Hd:=(List.range 95).flatMap fun(s:Nat)=>Qk fs bs r (-12+2*(s:Int))
def Q0(tm:List IV)(h:tm.length=47):=(bL tm 47 h).trans (by simp only[List.range,List.range.loop,List.map_cons,List.map_nil];exact rfl)
theorem stackH_mem{bed at_ spot:Int}{k0:Nat}{st:List Id}{x:Hd}:x∈aW bed at_ spot k0 st↔∃j,∃h:j < st.length,x=⟨st[j],bed,at_,spot,k0+j⟩:=by
 constructor
 ·intro h;obtain⟨j,hj,rfl⟩:=List.mem_iff_getElem.1 h;rw[eo] at hj;exact⟨j,hj,by simp[aW]⟩
 ·rintro⟨j,hj,rfl⟩
  exact List.mem_iff_getElem.2 ⟨j,by rw[eo];exact hj,by simp[aW]⟩
theorem nc{α:Type}{R:α→α→Prop}(f:Nat→List α)(n:Nat)(h1:∀i,(f i).Pairwise R)(h2:∀i j,i < j→∀x∈f i,∀y∈f j,R x y):((List.range n).flatMap f).Pairwise R:=by
 induction n with
 | zero=>simp
 | succ n ih=>
   rw[xe,List.pairwise_append];refine⟨ih,h1 n,fun x hx y hy=>?_⟩;obtain⟨i,hi,hx⟩:=List.mem_flatMap.1 hx;exact h2 i n (List.mem_range.1 hi) x hx y hy
theorem cellL_mem{fs bs:List (List Id)}{r spot:Int}{i:Nat}{x:Hd}:x∈Fw fs bs r spot i↔aD (nB i) (nA i) r=spot∧x∈aW (nB i) (nA i) spot (8*i) (mC fs bs (nB i) (nA i)):=by
 unfold Fw;split
 ·rename_i h;exact⟨fun hx=>⟨h,hx⟩,fun hx=>hx.2⟩
 ·rename_i h;exact⟨fun hx=>by simp at hx,fun hx=>absurd hx.1 h⟩
theorem mW{bed at_ spot:Int}{k0:Nat}{st:List Id}{x:Hd}(h:x∈aW bed at_ spot k0 st):x.spot=spot:=by
 obtain⟨j,hj,rfl⟩:=stackH_mem.1 h;rfl
theorem F1(bed at_ spot:Int)(k0:Nat)(st:List Id):(aW bed at_ spot k0 st).Pairwise ch:=by
 rw[List.pairwise_iff_getElem];intro i j h1 h2 h3;simp[aW,ch];omega
theorem xz{fs bs:List (List Id)}{r spot:Int}{x:Hd}(h:x∈Qk fs bs r spot):x.spot=spot:=by
 obtain⟨i,_,hx⟩:=List.mem_flatMap.1 h;exact mW (cellL_mem.1 hx).2
theorem vQ{fs bs:List (List Id)}(h4:∀x∈fs,x.length≤4)(h4':∀x∈bs,x.length≤4)(r:Int):(bJ fs bs r).Pairwise ch:=by
 refine nc _ 95 (fun s=>nc _ 80 (fun i=>?_) fun i j hij x hx y hy=>?_) fun s t hst x hx y hy=>?_
 ·unfold Fw;split
  ·exact F1 _ _ _ _ _
  ·exact List.Pairwise.nil
 ·have hx:=(cellL_mem.1 hx).2;have hy:=(cellL_mem.1 hy).2;have a1:=mX hx;have a2:=mX hy
  have:=jc fs bs (nB i) (nA i) 4 h4 h4'
  have b1:=mW hx;have b2:=mW hy;unfold ch;omega
 ·have b1:=xz hx;have b2:=xz hy;unfold ch;omega
theorem Cv{bed r:Int}{fs:List (List Id)}{x:Hd}:x∈(gO bed r fs).flatten↔∃i,∃h:i < fs.length,x∈aW bed ((i:Int)+1) (aD bed ((i:Int)+1) r) (kH bed i) fs[i]:=by
 constructor
 ·intro h;obtain⟨s,hs,hx⟩:=List.mem_flatten.1 h;obtain⟨i,hi,rfl⟩:=List.mem_iff_getElem.1 hs;rw[bZ] at hi;exact⟨i,hi,by simpa [gO] using hx⟩
 ·rintro⟨i,hi,hx⟩
  exact List.mem_flatten.2 ⟨_,List.mem_iff_getElem.2 ⟨i,by rw[bZ];exact hi,rfl⟩,by simpa [gO] using hx⟩
theorem Ay(fs bs:List (List Id))(i:Nat)(hi:i < 80):mC fs bs (nB i) (nA i)=(if i < 40 then fs else bs).getD (i%40) []:=by
 unfold mC;rw[if_pos (BA i),←List.getD_eq_getElem?_getD];have e:(nA i - 1).toNat=i%40:=by unfold nA;omega
 rw[e];by_cases h:i < 40
 ·rw[if_pos h,if_neg (by unfold nB;omega)]
 ·rw[if_neg h,if_pos (by unfold nB;omega)]
theorem zp{i:Nat}(hi:i < 80){r:Int}(hr:d0 r=true):aD (nB i) (nA i) r=if i < 40 then 4*(i:Int)+6 else 4*((i:Int) - 39+r):=by
 unfold aD;rw[if_pos ⟨BA i,hr⟩];by_cases h:i < 40
 ·rw[if_pos h,if_pos (by unfold nB;omega)];unfold nA;omega
 ·rw[if_neg h,if_neg (by unfold nB;omega)];unfold nA;omega
theorem G1{fs bs:List (List Id)}{r:Int}(h1:fs.length≤40)(h2:bs.length≤40){x:Hd}:x∈po fs bs r↔∃i,i < 80∧x∈aW (nB i) (nA i) (aD (nB i) (nA i) r) (8*i) (mC fs bs (nB i) (nA i)):=by
 unfold po;rw[List.mem_append,Cv,Cv]
 constructor
 ·rintro(⟨i,hi,hx⟩ | ⟨i,hi,hx⟩)
  ·refine⟨i,by omega,?_⟩
   rw[Ay fs bs i (by omega),if_pos (by omega),show i%40=i from by omega,br hi];rw[show nB i=0 from by unfold nB;omega,show nA i=(i:Int)+1 from by unfold nA;omega];rw[show kH 0 i=8*i from by unfold kH;simp] at hx;exact hx
  ·refine⟨40+i,by omega,?_⟩
   rw[Ay fs bs (40+i) (by omega),if_neg (by omega),show(40+i)%40=i from by omega,br hi];rw[show nB (40+i)=1 from by unfold nB;omega,show nA (40+i)=(i:Int)+1 from by unfold nA;omega];rw[show kH 1 i=8*(40+i) from by unfold kH;simp] at hx;exact hx
 ·rintro⟨i,hi,hx⟩
  rw[Ay fs bs i hi] at hx;by_cases h:i < 40
  ·rw[if_pos h,show i%40=i from by omega] at hx;rw[show nB i=0 from by unfold nB;omega,show nA i=(i:Int)+1 from by unfold nA;omega] at hx
   have hlt:i < fs.length:=by
    obtain⟨j,hj,_⟩:=stackH_mem.1 hx;exact Nat.lt_of_not_le fun hle=>by rw[iH hle] at hj;simp at hj
   rw[br hlt] at hx;exact .inl ⟨i,hlt,by rw[show kH 0 i=8*i from by unfold kH;simp];exact hx⟩
  ·rw[if_neg h] at hx;obtain⟨q,rfl⟩:∃q,i=40+q:=⟨i - 40,by omega⟩;rw[show(40+q)%40=q from by omega] at hx;rw[show nB (40+q)=1 from by unfold nB;omega,show nA (40+q)=(q:Int)+1 from by unfold nA;omega] at hx
   have hlt:q < bs.length:=by
    obtain⟨j,hj,_⟩:=stackH_mem.1 hx;exact Nat.lt_of_not_le fun hle=>by rw[iH hle] at hj;simp at hj
   rw[br hlt] at hx;exact .inr ⟨q,hlt,by rw[show kH 1 q=8*(40+q) from by unfold kH;simp];exact hx⟩
theorem sJ{fs bs:List (List Id)}{r:Int}(hr:d0 r=true){x:Hd}:x∈bJ fs bs r↔∃i,i < 80∧x∈aW (nB i) (nA i) (aD (nB i) (nA i) r) (8*i) (mC fs bs (nB i) (nA i)):=by
 have hr':=rackB_iff.1 hr;unfold bJ Qk
 constructor
 ·intro h;obtain⟨s,hs,h⟩:=List.mem_flatMap.1 h;obtain⟨i,hi,h⟩:=List.mem_flatMap.1 h;obtain⟨h1,h2⟩:=cellL_mem.1 h;exact⟨i,List.mem_range.1 hi,by rw[h1];exact h2⟩
 ·rintro⟨i,hi,h⟩
  have hs:=zp hi hr
  obtain⟨s,hs1,hs2⟩:∃s:Nat,s < 95∧aD (nB i) (nA i) r= -12+2*(s:Int):=by
   by_cases h:i < 40
   ·rw[if_pos h] at hs;exact⟨2*i+9,by omega,by omega⟩
   ·rw[if_neg h] at hs;exact⟨(2*((i:Int) - 39+r)+6).toNat,by omega,by omega⟩
  refine List.mem_flatMap.2 ⟨s,List.mem_range.2 hs1,List.mem_flatMap.2 ⟨i,List.mem_range.2 hi,cellL_mem.2 ⟨hs2,?_⟩⟩⟩;rw[←hs2];exact h
theorem qu{fs bs:List (List Id)}{r:Int}(hc:aU fs bs=0)(hr:d0 r=true){l:List Hd}(hp:l.Perm (po fs bs r))(hs:l.Pairwise ch):l=bJ fs bs r:=by
 obtain⟨c1,c2,c3,c4,_⟩:=je hc;refine sw Ng kD hs (vQ c3 c4 r) fun x=>?_;rw[hp.mem_iff,G1 c1 c2,sJ hr]
end Go.Iso.Gen
end
section
namespace Go.Iso
theorem Tabs.keep'{ts:List (List Int)}{H H':Heap}(h:Tabs ts H)(k:Keep H.n H H'):Tabs ts H':=h.keep k.1 fun i hi=>k.2 i (by have:=h.1;omega) (by have:=h.1;omega)
end Go.Iso
namespace Go.Iso.Gen
open Go.Iso Go.Proofs
def WV(tm:List IV)(h:tm.length=69):=(bL tm 69 h).trans (by simp only[List.range,List.range.loop,List.map_cons,List.map_nil];exact rfl)
structure Cr where
 a:Id
 b:Id
 s:Int
 deriving Inhabited,DecidableEq
instance:Cell Cr where
 z:=5
 cs c:=[.int .u8 c.a.y,.int .i64 c.a.n,.int .u8 c.b.y,.int .i64 c.b.n,.int .i64 c.s]
 len _:=rfl
 one _:=rfl
 pos:=by omega
theorem SG(c:Cr):Cell.cs c=[.int .u8 c.a.y,.int .i64 c.a.n,.int .u8 c.b.y,.int .i64 c.b.n,.int .i64 c.s]:=rfl
theorem PT:Cell.z Cr=5:=rfl
structure Ps where
 id:Id
 front:Bool
 dir:Int
 deriving Inhabited,DecidableEq
instance:Cell Ps where
 z:=4
 cs p:=[.int .u8 p.id.y,.int .i64 p.id.n,.bool p.front,.int .u8 p.dir]
 len _:=rfl
 one _:=rfl
 pos:=by omega
theorem wy(p:Ps):Cell.cs p=[.int .u8 p.id.y,.int .i64 p.id.n,.bool p.front,.int .u8 p.dir]:=rfl
theorem mE:Cell.z Ps=4:=rfl
theorem sT{v:SV}{l:List Cr}{H:Heap}{lo:Nat}{Q:Out→Heap→Prop}(hv:Sl H v l)(hl:l.length≤1000000)(hlo:lo≤H.n)
  (h:∀H' b,Keep H.n H H'→H.n≤b→Own H' b 248 l.length l→Q (.val (SV.sl b 0 l.length l.length true).iv) H'):W E0 lo (.call 199 [v.iv]) H Q:=by
 refine W.pure aX hlo ?_;rw[Xm];obtain⟨H2,e1,e2,e3,e4⟩:=gI hv (z:=5) rfl 248 H.n [IV.int .u8 0,.int .i64 0,.int .u8 0,.int .i64 0,.int .i64 0] rfl (Nat.le_refl _);simp(disch:=omega) only[ai,↓ah,seval,YA,↓hv.ln,↓e1,Int.reducePow];exact fun hk=>h _ _ hk (Nat.le_refl _) e4
theorem kc{v:SV}{l:List Ps}{H:Heap}{lo:Nat}{Q:Out→Heap→Prop}(hv:Sl H v l)(hl:l.length≤1000000)(hlo:lo≤H.n)
  (h:∀H' b,Keep H.n H H'→H.n≤b→Own H' b 196 l.length l→Q (.val (SV.sl b 0 l.length l.length true).iv) H'):W E0 lo (.call 194 [v.iv]) H Q:=by
 refine W.pure aX hlo ?_;rw[Xp];obtain⟨H2,e1,e2,e3,e4⟩:=gI hv (z:=4) rfl 196 H.n [IV.int .u8 0,.int .i64 0,.bool false,.int .u8 0] rfl (Nat.le_refl _);simp(disch:=omega) only[ai,↓ah,seval,YC,↓hv.ln,↓e1,Int.reducePow];exact fun hk=>h _ _ hk (Nat.le_refl _) e4
def DU(tm:List IV)(h:tm.length=28):=(bL tm 28 h).trans (by simp only[List.range,List.range.loop,List.map_cons,List.map_nil];exact rfl)
theorem Jo{blk e cap:Nat}{ex:Bool}{l:List Id}{H:Heap}{lo:Nat}{Q:Out→Heap→Prop}(hO:Own H blk e cap l)(hlo:lo≤blk)(hl:l.length≤1000000)
  (h:∀H',KeepX blk H H'→Own H' blk e cap l.reverse→Q (.val (.tuple [])) H'):W E0 lo (.call 197 [(SV.sl blk 0 l.length cap ex).iv]) H Q:=by
 rw[SN];have hv:=hO.sl ex;have hln:=hv.ln;simp(disch:=omega) only[ai,↓ah,seval,RI,↓hln];refine aM (fun k fr H'=>∃(i:Nat) (l':List Id),i+k=l.length∧KeepX blk H H'∧Own H' blk e cap l'∧l'.length=l.length∧(∀x,x < l.length→aC l' x=if x < i∨l.length - i≤x then aC l (l.length - 1 - x) else aC l x)∧fr.marks=[]∧fr.tm.length=28∧fr.tm.getD 0 IV.undef=(SV.sl blk 0 l.length cap ex).iv∧fr.tm.getD 2 IV.undef=.int .i64 i∧fr.tm.getD 3 IV.undef=.int .i64 ((l.length:Int) - 1 - (i:Int))) ?_ l.length ⟨0,l,by omega,KeepX.refl _ _,hO,rfl,fun x hx=>by rw[if_neg (by omega)],rfl,rfl,rfl,rfl,by show IV.int _ _=_;congr 1;omega⟩;clear hO hv hln;rintro k ⟨tm,mk⟩ H' ⟨i,l',hik,hk,hO,hll,hf,rfl,htm,t0,t2,t3⟩ L hN hJ;rw[DU tm htm,t0,t2,t3,←hll];by_cases hi:(i:Int) < (l.length:Int) - 1 - (i:Int)
 ·have hidx:=zT hO ex 2;have ej:(l'.length:Int) - 1 - (i:Int)=((l'.length - 1 - i:Nat):Int):=by omega
  obtain⟨o1,o2,w1,w2,s2⟩:=jz hO (z:=2) rfl (i:=i) (j:=l'.length - 1 - i) (by omega) (by omega) lo hlo;have r1:=hO.nthRead (z:=2) rfl (i:=i) (by omega);have r2:=hO.nthRead (z:=2) rfl (i:=l'.length - 1 - i) (by omega);rw[ej];simp(disch:=omega) only[ai,↓ah,seval,LF,↓hidx,r1,r2,↓w1,↓w2];refine hN (k - 1) _ _ (by omega) ⟨i+1,gj l' i (l'.length - 1 - i),by omega,(hk.trans (KeepX.put _)).trans (KeepX.put _),s2,by rw[i2,hll],fun x hx=>?_,rfl,rfl,by rw[hll];rfl,rfl,?_⟩
  ·rw[gz (by omega) (by omega)];by_cases c1:x=l'.length - 1 - i
   ·rw[if_pos c1,hf i (by omega),if_neg (by omega),if_pos (by omega)];congr 1;omega
   ·rw[if_neg c1];by_cases c2:x=i
    ·rw[if_pos c2,hf _ (by omega),if_neg (by omega),if_pos (by omega)];congr 1;omega
    ·rw[if_neg c2,hf x hx];by_cases c3:x < i∨l.length - i≤x
     ·rw[if_pos c3,if_pos (by omega)]
     ·rw[if_neg c3,if_neg (by omega)]
  ·show IV.int _ _=_
   congr 1;omega
 ·rw[hll];simp(disch:=omega) only[ai,↓ah,seval,LF,hJ]
  have:l'=l.reverse:=by
   apply List.ext_getElem
   ·rw[List.length_reverse,hll]
   ·intro x h1 h2
    have:=hf x (by omega)
    rw[fe h1] at this;rw[this,List.getElem_reverse,←fe];by_cases c3:x < i∨l.length - i≤x
    ·rw[if_pos c3]
    ·rw[if_neg c3];congr 1;omega
  subst this;exact h H' hk hO
theorem zA{H:Heap}{lo:Nat}{Q:Out→Heap→Prop}(h:Q (.val (.tuple [])) H):W E0 lo (.call 197 [.nilSlice]) H Q:=by
 rw[SN];simp(disch:=omega) only[ai,↓ah,seval,RI];rw[ij];simp(disch:=omega) only[ai,↓ah,seval,LF];exact h
theorem zx{n0 e:Nat}{v:SV}{l:List Id}{H:Heap}{lo:Nat}{Q:Out→Heap→Prop}(hO:OwnS n0 H e v l)(hlo:lo≤n0)(hl:l.length≤1000000)
  (h:∀H',Keep n0 H H'→OwnS n0 H' e v l.reverse→Q (.val (.tuple [])) H'):W E0 lo (.call 197 [v.iv]) H Q:=by
 rcases hO with⟨rfl,rfl⟩ | ⟨b,cap,ex,rfl,h1,h2⟩
 ·exact zA (h H (Keep.refl _ _) (.inl ⟨rfl,rfl⟩))
 ·exact Jo h2 (by omega) hl fun H' k o=>h H' ⟨k.1,fun x h3 h4=>k.2 x h4 (by omega)⟩ (.inr ⟨b,cap,ex,by rw[List.length_reverse],h1,o⟩)
theorem Jp{blk e cap:Nat}{ex:Bool}{l:List Cr}{H:Heap}{lo:Nat}{Q:Out→Heap→Prop}(hO:Own H blk e cap l)(hlo:lo≤blk)(hl:l.length≤1000000)
  (h:∀H',KeepX blk H H'→Own H' blk e cap l.reverse→Q (.val (.tuple [])) H'):W E0 lo (.call 198 [(SV.sl blk 0 l.length cap ex).iv]) H Q:=by
 rw[SM];have hv:=hO.sl ex;have hln:=hv.ln;simp(disch:=omega) only[ai,↓ah,seval,RH,↓hln];refine aM (fun k fr H'=>∃(i:Nat) (l':List Cr),i+k=l.length∧KeepX blk H H'∧Own H' blk e cap l'∧l'.length=l.length∧(∀x,x < l.length→aC l' x=if x < i∨l.length - i≤x then aC l (l.length - 1 - x) else aC l x)∧fr.marks=[]∧fr.tm.length=28∧fr.tm.getD 0 IV.undef=(SV.sl blk 0 l.length cap ex).iv∧fr.tm.getD 2 IV.undef=.int .i64 i∧fr.tm.getD 3 IV.undef=.int .i64 ((l.length:Int) - 1 - (i:Int))) ?_ l.length ⟨0,l,by omega,KeepX.refl _ _,hO,rfl,fun x hx=>by rw[if_neg (by omega)],rfl,rfl,rfl,rfl,by show IV.int _ _=_;congr 1;omega⟩;clear hO hv hln;rintro k ⟨tm,mk⟩ H' ⟨i,l',hik,hk,hO,hll,hf,rfl,htm,t0,t2,t3⟩ L hN hJ;rw[DU tm htm,t0,t2,t3,←hll];by_cases hi:(i:Int) < (l.length:Int) - 1 - (i:Int)
 ·have hidx:=zT hO ex 5;have ej:(l'.length:Int) - 1 - (i:Int)=((l'.length - 1 - i:Nat):Int):=by omega
  obtain⟨o1,o2,w1,w2,s2⟩:=jz hO (z:=5) rfl (i:=i) (j:=l'.length - 1 - i) (by omega) (by omega) lo hlo;have r1:=hO.nthRead (z:=5) rfl (i:=i) (by omega);have r2:=hO.nthRead (z:=5) rfl (i:=l'.length - 1 - i) (by omega);rw[ej];simp(disch:=omega) only[ai,↓ah,seval,LE,↓hidx,r1,r2,↓w1,↓w2];refine hN (k - 1) _ _ (by omega) ⟨i+1,gj l' i (l'.length - 1 - i),by omega,(hk.trans (KeepX.put _)).trans (KeepX.put _),s2,by rw[i2,hll],fun x hx=>?_,rfl,rfl,by rw[hll];rfl,rfl,?_⟩
  ·rw[gz (by omega) (by omega)];by_cases c1:x=l'.length - 1 - i
   ·rw[if_pos c1,hf i (by omega),if_neg (by omega),if_pos (by omega)];congr 1;omega
   ·rw[if_neg c1];by_cases c2:x=i
    ·rw[if_pos c2,hf _ (by omega),if_neg (by omega),if_pos (by omega)];congr 1;omega
    ·rw[if_neg c2,hf x hx];by_cases c3:x < i∨l.length - i≤x
     ·rw[if_pos c3,if_pos (by omega)]
     ·rw[if_neg c3,if_neg (by omega)]
  ·show IV.int _ _=_
   congr 1;omega
 ·rw[hll];simp(disch:=omega) only[ai,↓ah,seval,LE,hJ]
  have:l'=l.reverse:=by
   apply List.ext_getElem
   ·rw[List.length_reverse,hll]
   ·intro x h1 h2
    have:=hf x (by omega)
    rw[fe h1] at this;rw[this,List.getElem_reverse,←fe];by_cases c3:x < i∨l.length - i≤x
    ·rw[if_pos c3]
    ·rw[if_neg c3];congr 1;omega
  subst this;exact h H' hk hO
theorem zC{H:Heap}{lo:Nat}{Q:Out→Heap→Prop}(h:Q (.val (.tuple [])) H):W E0 lo (.call 198 [.nilSlice]) H Q:=by
 rw[SM];simp(disch:=omega) only[ai,↓ah,seval,RH];rw[ij];simp(disch:=omega) only[ai,↓ah,seval,LE];exact h
theorem zB{n0 e:Nat}{v:SV}{l:List Cr}{H:Heap}{lo:Nat}{Q:Out→Heap→Prop}(hO:OwnS n0 H e v l)(hlo:lo≤n0)(hl:l.length≤1000000)
  (h:∀H',Keep n0 H H'→OwnS n0 H' e v l.reverse→Q (.val (.tuple [])) H'):W E0 lo (.call 198 [v.iv]) H Q:=by
 rcases hO with⟨rfl,rfl⟩ | ⟨b,cap,ex,rfl,h1,h2⟩
 ·exact zC (h H (Keep.refl _ _) (.inl ⟨rfl,rfl⟩))
 ·exact Jp h2 (by omega) hl fun H' k o=>h H' ⟨k.1,fun x h3 h4=>k.2 x h4 (by omega)⟩ (.inr ⟨b,cap,ex,by rw[List.length_reverse],h1,o⟩)
theorem Jn{blk e cap:Nat}{ex:Bool}{l:List Ps}{H:Heap}{lo:Nat}{Q:Out→Heap→Prop}(hO:Own H blk e cap l)(hlo:lo≤blk)(hl:l.length≤1000000)
  (h:∀H',KeepX blk H H'→Own H' blk e cap l.reverse→Q (.val (.tuple [])) H'):W E0 lo (.call 193 [(SV.sl blk 0 l.length cap ex).iv]) H Q:=by
 rw[SO];have hv:=hO.sl ex;have hln:=hv.ln;simp(disch:=omega) only[ai,↓ah,seval,RJ,↓hln];refine aM (fun k fr H'=>∃(i:Nat) (l':List Ps),i+k=l.length∧KeepX blk H H'∧Own H' blk e cap l'∧l'.length=l.length∧(∀x,x < l.length→aC l' x=if x < i∨l.length - i≤x then aC l (l.length - 1 - x) else aC l x)∧fr.marks=[]∧fr.tm.length=28∧fr.tm.getD 0 IV.undef=(SV.sl blk 0 l.length cap ex).iv∧fr.tm.getD 2 IV.undef=.int .i64 i∧fr.tm.getD 3 IV.undef=.int .i64 ((l.length:Int) - 1 - (i:Int))) ?_ l.length ⟨0,l,by omega,KeepX.refl _ _,hO,rfl,fun x hx=>by rw[if_neg (by omega)],rfl,rfl,rfl,rfl,by show IV.int _ _=_;congr 1;omega⟩;clear hO hv hln;rintro k ⟨tm,mk⟩ H' ⟨i,l',hik,hk,hO,hll,hf,rfl,htm,t0,t2,t3⟩ L hN hJ;rw[DU tm htm,t0,t2,t3,←hll];by_cases hi:(i:Int) < (l.length:Int) - 1 - (i:Int)
 ·have hidx:=zT hO ex 4;have ej:(l'.length:Int) - 1 - (i:Int)=((l'.length - 1 - i:Nat):Int):=by omega
  obtain⟨o1,o2,w1,w2,s2⟩:=jz hO (z:=4) rfl (i:=i) (j:=l'.length - 1 - i) (by omega) (by omega) lo hlo;have r1:=hO.nthRead (z:=4) rfl (i:=i) (by omega);have r2:=hO.nthRead (z:=4) rfl (i:=l'.length - 1 - i) (by omega);rw[ej];simp(disch:=omega) only[ai,↓ah,seval,LG,↓hidx,r1,r2,↓w1,↓w2];refine hN (k - 1) _ _ (by omega) ⟨i+1,gj l' i (l'.length - 1 - i),by omega,(hk.trans (KeepX.put _)).trans (KeepX.put _),s2,by rw[i2,hll],fun x hx=>?_,rfl,rfl,by rw[hll];rfl,rfl,?_⟩
  ·rw[gz (by omega) (by omega)];by_cases c1:x=l'.length - 1 - i
   ·rw[if_pos c1,hf i (by omega),if_neg (by omega),if_pos (by omega)];congr 1;omega
   ·rw[if_neg c1];by_cases c2:x=i
    ·rw[if_pos c2,hf _ (by omega),if_neg (by omega),if_pos (by omega)];congr 1;omega
    ·rw[if_neg c2,hf x hx];by_cases c3:x < i∨l.length - i≤x
     ·rw[if_pos c3,if_pos (by omega)]
     ·rw[if_neg c3,if_neg (by omega)]
  ·show IV.int _ _=_
   congr 1;omega
 ·rw[hll];simp(disch:=omega) only[ai,↓ah,seval,LG,hJ]
  have:l'=l.reverse:=by
   apply List.ext_getElem
   ·rw[List.length_reverse,hll]
   ·intro x h1 h2
    have:=hf x (by omega)
    rw[fe h1] at this;rw[this,List.getElem_reverse,←fe];by_cases c3:x < i∨l.length - i≤x
    ·rw[if_pos c3]
    ·rw[if_neg c3];congr 1;omega
  subst this;exact h H' hk hO
theorem zw{H:Heap}{lo:Nat}{Q:Out→Heap→Prop}(h:Q (.val (.tuple [])) H):W E0 lo (.call 193 [.nilSlice]) H Q:=by
 rw[SO];simp(disch:=omega) only[ai,↓ah,seval,RJ];rw[ij];simp(disch:=omega) only[ai,↓ah,seval,LG];exact h
theorem qm{n0 e:Nat}{v:SV}{l:List Ps}{H:Heap}{lo:Nat}{Q:Out→Heap→Prop}(hO:OwnS n0 H e v l)(hlo:lo≤n0)(hl:l.length≤1000000)
  (h:∀H',Keep n0 H H'→OwnS n0 H' e v l.reverse→Q (.val (.tuple [])) H'):W E0 lo (.call 193 [v.iv]) H Q:=by
 rcases hO with⟨rfl,rfl⟩ | ⟨b,cap,ex,rfl,h1,h2⟩
 ·exact zw (h H (Keep.refl _ _) (.inl ⟨rfl,rfl⟩))
 ·exact Jn h2 (by omega) hl fun H' k o=>h H' ⟨k.1,fun x h3 h4=>k.2 x h4 (by omega)⟩ (.inr ⟨b,cap,ex,by rw[List.length_reverse],h1,o⟩)
theorem Pj{H:Heap}(h:Tabs tabs H):H.get 0=some (.cells true 0 0 [.int .i64 (-1),.int .i64 1]):=h.2 0 (Nat.zero_lt_one)
def mV(d:Int):Int:=if d=0 then -1 else 1
def iT(fs bs:List (List Id))(r d:Int):Int:=if bB fs bs r≠0 then bB fs bs r else if d≠0∧d≠1 then 1 else if d0 (r+mV d)=true then 0 else 11
theorem ra{f b:SV}{fs bs:List (List Id)}(r d:Int){H:Heap}{lo:Nat}{Q:Out→Heap→Prop}(ht:Tabs tabs H)(hf:Sl2 H f fs)(hb:Sl2 H b bs)(hlf:fs.length≤1000000)(hlb:bs.length≤1000000)(hl:∀l∈fs,l.length≤1000000)(hl':∀l∈bs,l.length≤1000000)(hlo:lo≤H.n)(hd:0≤d∧d≤255)
  (h:∀H',Keep H.n H H'→Q (.val (.int .i64 (iT fs bs r d))) H'):W E0 lo (.call 192 [bv f b,.int .i64 r,.int .u8 d]) H Q:=by
 refine gu _ hlo h fun R hR=>?_;clear h;rw[Xq];simp(disch:=omega) only[ai,↓ah,seval,AH,bv];generalize hH_H1:Heap.new _ _=H1;have hnH1:H1.n=H.n+1:=by rw[←hH_H1];rfl
 have g0:=congrArg (fun h0=>Heap.get h0 (H.n)) hH_H1.symm;simp(disch:=omega) only[ai,↓ah,seval] at g0
 have kH1:Keep H.n H H1:=⟨by omega,fun x hx _=>by
  have gx:=congrArg (fun h0=>Heap.get h0 x) hH_H1.symm;simp(disch:=omega) only[ai,↓ah,seval] at gx;exact gx⟩
 clear hH_H1;rw[show IV.agg [f.iv,b.iv]=bv f b from rfl];refine xG r (hf.keep kH1) (hb.keep kH1) hlf hlb hl hl' (by omega) fun H2 k2=>?_;have hn2:=k2.1;have ht2:=(ht.keep' kH1).keep' k2;have gt:=Pj ht2;have rt:=ae gt;unfold iT at hR;by_cases hc:bB fs bs r=0
 case neg=>
  have e0:(bB fs bs r !=0)=true:=by simp[hc]
  rw[if_pos hc] at hR;simp(disch:=omega) only[ai,↓ah,seval,AH,e0];exact hR _
 rw[if_neg (by simp[hc])] at hR;by_cases hd0:d=0
 ·subst hd0
  have hr0: -4≤r∧r≤4:=by
   unfold bB at hc;split at hc
   ·contradiction
   ·split at hc
    ·rename_i h;exact rackB_iff.1 h
    ·omega
  rw[if_neg (by omega),show mV 0= -1 from rfl] at hR;simp(disch:=omega) only[ai,↓ah,seval,AH,hc,Pv,rt];refine pD _ ?_;by_cases hr:d0 (r+ -1)=true
  ·rw[if_pos hr] at hR;simp(disch:=omega) only[ai,↓ah,seval,AH,hr];exact hR _
  ·rw[if_neg hr] at hR;rw[Bool.not_eq_true] at hr;simp(disch:=omega) only[ai,↓ah,seval,AH,hr];exact hR _
 ·by_cases hd1:d=1
  ·subst hd1
   have hr0: -4≤r∧r≤4:=by
    unfold bB at hc;split at hc
    ·contradiction
    ·split at hc
     ·rename_i h;exact rackB_iff.1 h
     ·omega
   rw[if_neg (by omega),show mV 1=1 from rfl] at hR;simp(disch:=omega) only[ai,↓ah,seval,AH,hc,Pv,rt];refine pD _ ?_;by_cases hr:d0 (r+1)=true
   ·rw[if_pos hr] at hR;simp(disch:=omega) only[ai,↓ah,seval,AH,hr];exact hR _
   ·rw[if_neg hr] at hR;rw[Bool.not_eq_true] at hr;simp(disch:=omega) only[ai,↓ah,seval,AH,hr];exact hR _
  ·have b0:(d !=0)=true:=by simp[hd0]
   have b1:(d !=1)=true:=by simp[hd1]
   rw[if_pos ⟨hd0,hd1⟩] at hR;simp(disch:=omega) only[ai,↓ah,seval,AH,hc,b0,b1];exact hR _
def Fs(d:Int)(id other:Id):Cr:=if d=0 then⟨other,id,1⟩ else⟨id,other, -1⟩
def rZ(tm:List IV)(h:tm.length=82):=(bL tm 82 h).trans (by simp only[List.range,List.range.loop,List.map_cons,List.map_nil];exact rfl)
theorem Mw{n0 ib:Nat}{d:Int}{id:Id}{w v:SV}{fr:List Id}{acc:List Cr}{y1 y3 y6 y7 y10 y11 y26 y27 y28 y47 y48 y49:IV}{H:Heap}{lo:Nat}{Q:Out→Heap→Prop}{tm:List IV}(hlo:lo≤n0)(hn0:n0≤H.n)(hw:OwnS n0 H 138 w fr)(hfr:fr.length≤4)(hacc:acc.length≤100000)
  (hG:Gr n0 H 248 v acc) (gi:H.get ib=some (.cells false 138 2 [.int .u8 id.y,.int .i64 id.n])) (hib:ib < H.n) (hd:d=0∨d=1)
  (htm:tm.length=82) (t1:tm.getD 1 IV.undef=y1) (t2:tm.getD 2 IV.undef=.int .u8 d) (t3:tm.getD 3 IV.undef=y3) (t6:tm.getD 6 IV.undef=y6) (t7:tm.getD 7 IV.undef=y7) (t9:tm.getD 9 IV.undef=v.iv) (t10:tm.getD 10 IV.undef=y10) (t11:tm.getD 11 IV.undef=y11) (t13:tm.getD 13 IV.undef=w.iv) (t15:tm.getD 15 IV.undef=.ptr ib 0) (t26:tm.getD 26 IV.undef=y26) (t27:tm.getD 27 IV.undef=y27) (t28:tm.getD 28 IV.undef=y28) (t47:tm.getD 47 IV.undef=y47) (t48:tm.getD 48 IV.undef=y48) (t49:tm.getD 49 IV.undef=y49)
  (t53:tm.getD 53 IV.undef=w.iv) (t54:tm.getD 54 IV.undef=.int .i64 fr.length) (t55:tm.getD 55 IV.undef=.int .i64 0)
  (hQ:∀H' v' tm',KeepG n0 248 5 H H'→Gr n0 H' 248 v' (acc++fr.map (Fs d id))→tm'.length=82→tm'.getD 1 IV.undef=y1→tm'.getD 2 IV.undef=.int .u8 d→tm'.getD 3 IV.undef=y3→tm'.getD 6 IV.undef=y6→tm'.getD 7 IV.undef=y7→tm'.getD 9 IV.undef=v'.iv→tm'.getD 10 IV.undef=y10→tm'.getD 11 IV.undef=y11→tm'.getD 13 IV.undef=w.iv→tm'.getD 26 IV.undef=y26→tm'.getD 27 IV.undef=y27→tm'.getD 28 IV.undef=y28→tm'.getD 47 IV.undef=y47→tm'.getD 48 IV.undef=y48→tm'.getD 49 IV.undef=y49→Q (.ex (.jmp (.exit 4)) ⟨tm',[]⟩) H'):
  W E0 lo (.code (.loop (TH Tryz.f157 161085847)) none ⟨tm,[]⟩) H Q:=by
 refine aM (fun k fm H'=>∃j v',j+k=fr.length∧KeepG n0 248 5 H H'∧Gr n0 H' 248 v' (acc++(fr.take j).map (Fs d id))∧fm.marks=[]∧fm.tm.length=82∧fm.tm.getD 1 IV.undef=y1∧fm.tm.getD 2 IV.undef=.int .u8 d∧fm.tm.getD 3 IV.undef=y3∧fm.tm.getD 6 IV.undef=y6∧fm.tm.getD 7 IV.undef=y7∧fm.tm.getD 9 IV.undef=v'.iv∧fm.tm.getD 10 IV.undef=y10∧fm.tm.getD 11 IV.undef=y11∧fm.tm.getD 13 IV.undef=w.iv∧fm.tm.getD 15 IV.undef=.ptr ib 0∧fm.tm.getD 26 IV.undef=y26∧fm.tm.getD 27 IV.undef=y27∧fm.tm.getD 28 IV.undef=y28∧fm.tm.getD 47 IV.undef=y47∧fm.tm.getD 48 IV.undef=y48∧fm.tm.getD 49 IV.undef=y49∧fm.tm.getD 53 IV.undef=w.iv∧fm.tm.getD 54 IV.undef=.int .i64 fr.length∧fm.tm.getD 55 IV.undef=.int .i64 j) ?_ fr.length ⟨0,v,by omega,KeepG.refl _ _ _ _,by simpa using hG,rfl,htm,t1,t2,t3,t6,t7,t9,t10,t11,t13,t15,t26,t27,t28,t47,t48,t49,t53,t54,t55⟩;clear htm t1 t2 t3 t6 t7 t9 t10 t11 t13 t15 t26 t27 t28 t47 t48 t49 t53 t54 t55 hG;rintro k ⟨tm,mk⟩ H' ⟨j,v',hjk,hk,hG,rfl,htm,t1,t2,t3,t6,t7,t9,t10,t11,t13,t15,t26,t27,t28,t47,t48,t49,t53,t54,t55⟩ L hN hJ;have hn:=hk.1;have hw':=(hw.keepG hk (by decide)).sl;rw[rZ tm htm,t1,t2,t3,t6,t7,t9,t10,t11,t13,t15,t26,t27,t28,t47,t48,t49,t53,t54,t55];by_cases hj:j < fr.length
 ·have r1:=hw'.read kJ j hj;have gi':=hk.get hib gi (fun cs e=>by injection e with _ e;cases e);have hlen:(acc++(fr.take j).map (Fs d id)).length≤100004:=by rw[List.length_append,List.length_map,List.length_take];omega
  have hk1:KeepG n0 248 5 H' ((H'.new (.cells false 138 2 [.int .u8 0,.int .i64 0])).put H'.n (.cells false 138 2 [.int .u8 fr[j].y,.int .i64 fr[j].n])):=KeepG.of Keep.newPut;have e2:(fr.take (j+1)).map (Fs d id)=(fr.take j).map (Fs d id)++[Fs d id fr[j]]:=by rw[List.take_succ_eq_append_getElem hj,List.map_append];rfl
  have ri:=ae gi';rcases hd with rfl | rfl
  ·obtain⟨H5,w5,e5,k5,o5⟩:=(hG.keep (Keep.newPut (o:=.cells false 138 2 [.int .u8 0,.int .i64 0]) (o':=.cells false 138 2 [.int .u8 fr[j].y,.int .i64 fr[j].n]))).pushNew (Fs 0 id fr[j]) PT 40 lo hlo (by rw[af,ac];omega) (by omega);rw[show Cell.cs (Fs 0 id fr[j])=[.int .u8 fr[j].y,.int .i64 fr[j].n,.int .u8 id.y,.int .i64 id.n,.int .i64 1] from rfl] at e5;rw[af,ac] at e5;simp(disch:=omega) only[ai,↓ah,seval,LI,↓hw'.idx,r1,eC,ri,↓e5];refine hN (k - 1) _ _ (by omega) ⟨j+1,w5,by omega,(hk.trans hk1).trans k5,?_,rfl,rfl,rfl,rfl,rfl,rfl,rfl,rfl,rfl,rfl,rfl,rfl,rfl,rfl,rfl,rfl,rfl,rfl,rfl,rfl,rfl⟩;rw[e2,←List.append_assoc];exact o5
  ·obtain⟨H5,w5,e5,k5,o5⟩:=(hG.keep (Keep.newPut (o:=.cells false 138 2 [.int .u8 0,.int .i64 0]) (o':=.cells false 138 2 [.int .u8 fr[j].y,.int .i64 fr[j].n]))).pushNew (Fs 1 id fr[j]) PT 40 lo hlo (by rw[af,ac];omega) (by omega);rw[show Cell.cs (Fs 1 id fr[j])=[.int .u8 id.y,.int .i64 id.n,.int .u8 fr[j].y,.int .i64 fr[j].n,.int .i64 (-1)] from rfl] at e5;rw[af,ac] at e5;simp(disch:=omega) only[ai,↓ah,seval,LI,↓hw'.idx,r1,eC,ri,↓e5];refine hN (k - 1) _ _ (by omega) ⟨j+1,w5,by omega,(hk.trans hk1).trans k5,?_,rfl,rfl,rfl,rfl,rfl,rfl,rfl,rfl,rfl,rfl,rfl,rfl,rfl,rfl,rfl,rfl,rfl,rfl,rfl,rfl,rfl⟩;rw[e2,←List.append_assoc];exact o5
 ·rw[List.take_of_length_le (by omega)] at hG;simp(disch:=omega) only[ai,↓ah,seval,LI,hJ];exact hQ H' v' _ hk hG rfl rfl rfl rfl rfl rfl rfl rfl rfl rfl rfl rfl rfl rfl rfl rfl
def pa(d:Int)(front back:List Id):List Cr:=back.flatMap fun id=>front.map (Fs d id)
theorem Gi(d:Int)(front back:List Id)(j:Nat)(hj:j < back.length):pa d front (back.take (j+1))=pa d front (back.take j)++front.map (Fs d back[j]):=by
 unfold pa;rw[List.take_succ_eq_append_getElem hj,List.flatMap_append];simp
theorem Be(d:Int){front back:List Id}(h:front.length≤4)(h':back.length≤4):(pa d front back).length≤16:=by
 have key:∀back:List Id,(pa d front back).length=back.length*front.length:=by
  intro back
  induction back with
  | nil=>simp[pa]
  | cons a l ih=>
    have:pa d front (a::l)=front.map (Fs d a)++pa d front l:=rfl
    rw[this,List.length_append,List.length_map,ih,List.length_cons,Nat.succ_mul];omega
 rw[key];exact Nat.le_trans (Nat.mul_le_mul h' h) (by decide)
theorem IF{n0:Nat}{d:Int}{w v u:SV}{fr back:List Id}{acc:List Cr}{y1 y3 y6 y7 y10 y11 y26 y27 y28:IV}{H:Heap}{lo:Nat}{Q:Out→Heap→Prop}{tm:List IV}(hlo:lo≤n0)(hn0:n0≤H.n)(hw:OwnS n0 H 138 w fr)(hu:∀H',Keep n0 H H'→Sl H' u back)(hfr:fr.length≤4)(hbk:back.length≤4)(hacc:acc.length≤90000)
  (hG:Gr n0 H 248 v acc) (hd:d=0∨d=1) (htm:tm.length=82) (t1:tm.getD 1 IV.undef=y1) (t2:tm.getD 2 IV.undef=.int .u8 d) (t3:tm.getD 3 IV.undef=y3) (t6:tm.getD 6 IV.undef=y6) (t7:tm.getD 7 IV.undef=y7) (t9:tm.getD 9 IV.undef=v.iv) (t10:tm.getD 10 IV.undef=y10) (t11:tm.getD 11 IV.undef=y11) (t13:tm.getD 13 IV.undef=w.iv) (t26:tm.getD 26 IV.undef=y26) (t27:tm.getD 27 IV.undef=y27) (t28:tm.getD 28 IV.undef=y28) (t47:tm.getD 47 IV.undef=u.iv) (t48:tm.getD 48 IV.undef=.int .i64 back.length) (t49:tm.getD 49 IV.undef=.int .i64 0)
  (hQ:∀H' v' tm',Keep n0 H H'→Gr n0 H' 248 v' (acc++pa d fr back)→tm'.length=82→tm'.getD 1 IV.undef=y1→tm'.getD 2 IV.undef=.int .u8 d→tm'.getD 3 IV.undef=y3→tm'.getD 6 IV.undef=y6→tm'.getD 7 IV.undef=y7→tm'.getD 9 IV.undef=v'.iv→tm'.getD 26 IV.undef=y26→tm'.getD 27 IV.undef=y27→tm'.getD 28 IV.undef=y28→Q (.ex (.jmp (.exit 2)) ⟨tm',[]⟩) H'):
  W E0 lo (.code (.loop (GU Tryz.f157 653719)) none ⟨tm,[]⟩) H Q:=by
 refine aM (fun k fm H'=>∃j v',j+k=back.length∧KeepG n0 248 5 H H'∧Gr n0 H' 248 v' (acc++pa d fr (back.take j))∧fm.marks=[]∧fm.tm.length=82∧fm.tm.getD 1 IV.undef=y1∧fm.tm.getD 2 IV.undef=.int .u8 d∧fm.tm.getD 3 IV.undef=y3∧fm.tm.getD 6 IV.undef=y6∧fm.tm.getD 7 IV.undef=y7∧fm.tm.getD 9 IV.undef=v'.iv∧fm.tm.getD 10 IV.undef=y10∧fm.tm.getD 11 IV.undef=y11∧fm.tm.getD 13 IV.undef=w.iv∧fm.tm.getD 26 IV.undef=y26∧fm.tm.getD 27 IV.undef=y27∧fm.tm.getD 28 IV.undef=y28∧fm.tm.getD 47 IV.undef=u.iv∧fm.tm.getD 48 IV.undef=.int .i64 back.length∧fm.tm.getD 49 IV.undef=.int .i64 j) ?_ back.length ⟨0,v,by omega,KeepG.refl _ _ _ _,by simpa [pa] using hG,rfl,htm,t1,t2,t3,t6,t7,t9,t10,t11,t13,t26,t27,t28,t47,t48,t49⟩;clear htm t1 t2 t3 t6 t7 t9 t10 t11 t13 t26 t27 t28 t47 t48 t49 hG;rintro k ⟨tm,mk⟩ H' ⟨j,v',hjk,hk,hG,rfl,htm,t1,t2,t3,t6,t7,t9,t10,t11,t13,t26,t27,t28,t47,t48,t49⟩ L hN hJ;have hn:=hk.1;have hu':=hu H' (hk.low hn0);have hw':=hw.keepG hk (by decide);have hws:=hw'.sl;rw[rZ tm htm,t1,t2,t3,t6,t7,t9,t10,t11,t13,t26,t27,t28,t47,t48,t49];by_cases hj:j < back.length
 ·have r1:=hu'.read kJ j hj;have hk1:KeepG n0 248 5 H' ((H'.new (.cells false 138 2 [.int .u8 0,.int .i64 0])).put H'.n (.cells false 138 2 [.int .u8 back[j].y,.int .i64 back[j].n])):=KeepG.of Keep.newPut
  have hlen:(acc++pa d fr (back.take j)).length≤100000:=by
   rw[List.length_append]
   have:=Be d hfr (back:=back.take j) (by rw[List.length_take];omega)
   omega
  simp(disch:=omega) only[ai,↓ah,seval,eO,eN,eM,eL,eK,eJ,eI,eH,eG,eE,cF,cE,cD,cC,cz,cx,cw,cv,cu,ct,cq,cp,cn,ck,(AL Tryz.f157 653719),cj,(bj Tryz.f157 151),dP,ci,dO,(ax Tryz.f157 1),F157,↓hu'.idx,r1,eC,↓hws.ln]
  generalize hH_H2:Heap.put _ _ _=H2;have hnH2:H2.n=H'.n+1:=by rw[←hH_H2];rfl
  have gi:=congrArg (fun h0=>Heap.get h0 (H'.n)) hH_H2.symm;simp(disch:=omega) only[ai,↓ah,seval] at gi
  have kH2:Keep H'.n H' H2:=⟨by omega,fun x hx _=>by
   have gx:=congrArg (fun h0=>Heap.get h0 x) hH_H2.symm;simp(disch:=omega) only[ai,↓ah,seval] at gx;exact gx⟩
  clear hH_H2;clear hk1;refine Mw (ib:=H'.n) (id:=back[j]) (d:=d) hlo (by omega) (hw'.keep kH2) hfr hlen (hG.keep kH2) gi (by omega) hd rfl rfl rfl rfl rfl rfl rfl rfl rfl rfl rfl rfl rfl rfl rfl rfl rfl rfl rfl rfl fun H5 v5 Iw k5 g5 u u1 u2 u3 u6 u7 u9 u10 u11 u13 u26 u27 u28 u47 u48 u49=>?_;rw[rZ Iw u,u1,u2,u3,u6,u7,u9,u10,u11,u13,u26,u27,u28,u47,u48,u49];simp(disch:=omega) only[ai,↓ah,seval,eO,eN,eM,eL,eK,eJ,eI,eH,eG,eE,cF,cE,cD,cC,cz,cx,cw,cv,cu,ct,cq,cp,cn,ck,(AL Tryz.f157 653719),cj,(bj Tryz.f157 151),dP,ci,dO,(ax Tryz.f157 1),F157];refine hN (k - 1) _ _ (by omega) ⟨j+1,v5,by omega,(hk.trans (KeepG.of kH2)).trans k5,?_,rfl,rfl,rfl,rfl,rfl,rfl,rfl,rfl,rfl,rfl,rfl,rfl,rfl,rfl,rfl,rfl,rfl⟩;rw[Gi _ _ _ _ hj,←List.append_assoc];exact g5
 ·rw[List.take_of_length_le (by omega)] at hG;simp(disch:=omega) only[ai,↓ah,seval,eO,eN,eM,eL,eK,eJ,eI,eH,eG,eE,cF,cE,cD,cC,cz,cx,cw,cv,cu,ct,cq,cp,cn,ck,(AL Tryz.f157 653719),cj,(bj Tryz.f157 151),dP,ci,dO,(ax Tryz.f157 1),F157,hJ];exact hQ H' v' _ (hk.low hn0) hG rfl rfl rfl rfl rfl rfl rfl rfl rfl rfl
def j3(fs bs:List (List Id))(r d:Int):List Cr:=(bs.mapIdx fun(i:Nat) back=>pa d (mC fs bs 0 ((i:Int)+1+r - (if d=0 then 1 else 0))).reverse back).flatten
def kX(fs bs:List (List Id))(r d:Int):List Cr:=if d=1 then(j3 fs bs r d).reverse else j3 fs bs r d
def qg(fs bs:List (List Id))(r d:Int)(n:Nat):List Cr:=((bs.mapIdx fun(i:Nat) back=>pa d (mC fs bs 0 ((i:Int)+1+r - (if d=0 then 1 else 0))).reverse back).take n).flatten
theorem vi(fs bs:List (List Id))(r d:Int)(n:Nat)(h:n < bs.length):qg fs bs r d (n+1)=qg fs bs r d n++pa d (mC fs bs 0 ((n:Int)+1+r - (if d=0 then 1 else 0))).reverse bs[n]:=by
 unfold qg;rw[List.take_succ_eq_append_getElem (by simpa using h),List.flatten_append];simp
theorem rC(fs bs:List (List Id))(r d:Int):qg fs bs r d bs.length=j3 fs bs r d:=by
 unfold qg j3;rw[List.take_of_length_le (by simp)]
theorem rB{fs bs:List (List Id)}(h:∀x∈fs,x.length≤4)(h':∀x∈bs,x.length≤4)(r d:Int)(n:Nat)(hn:n≤bs.length):(qg fs bs r d n).length≤16*n:=by
 induction n with
 | zero=>simp[qg]
 | succ n ih=>
   rw[vi _ _ _ _ _ (by omega),List.length_append]
   have:=ih (by omega)
   have:=Be d (front:=(mC fs bs 0 ((n:Int)+1+r - (if d=0 then 1 else 0))).reverse) (back:=bs[n]) (by rw[List.length_reverse];exact jc fs bs _ _ 4 h h') (h' _ (List.getElem_mem _))
   omega
theorem JE{f b:SV}{fs bs:List (List Id)}(r d:Int){H:Heap}{lo:Nat}{Q:Out→Heap→Prop}(ht:Tabs tabs H)(hf:Sl2 H f fs)(hb:Sl2 H b bs)(hlf:fs.length≤1000000)(hlb:bs.length≤1000000)(hl:∀l∈fs,l.length≤1000000)(hl':∀l∈bs,l.length≤1000000)(hlo:lo≤H.n)(hd:0≤d∧d≤255)
  (he:∀H',Keep H.n H H'→iT fs bs r d≠0→Q (.val (.tuple [.nilSlice,.int .i64 (iT fs bs r d)])) H')
  (h:∀H' v,Keep H.n H H'→iT fs bs r d=0→Fresh H.n H' 248 v (kX fs bs r d)→Q (.val (.tuple [v.iv,.int .i64 0])) H'):W E0 lo (.call 157 [bv f b,.int .i64 r,.int .u8 d]) H Q:=by
 refine W.pure aX hlo ?_;rw[XF];simp(disch:=omega) only[ai,↓ah,seval,AJ,bv];generalize hH_H1:Heap.new _ _=H1;have hnH1:H1.n=H.n+1:=by rw[←hH_H1];rfl
 have g0:=congrArg (fun h0=>Heap.get h0 (H.n)) hH_H1.symm;simp(disch:=omega) only[ai,↓ah,seval] at g0
 have kH1:Keep H.n H H1:=⟨by omega,fun x hx _=>by
  have gx:=congrArg (fun h0=>Heap.get h0 x) hH_H1.symm;simp(disch:=omega) only[ai,↓ah,seval] at gx;exact gx⟩
 clear hH_H1;rw[show IV.agg [f.iv,b.iv]=bv f b from rfl];refine ra r d (ht.keep' kH1) (hf.keep kH1) (hb.keep kH1) hlf hlb hl hl' (by omega) hd fun H2 k2=>?_;have hn2:=k2.1;replace g0:=(k2.2 _ (by omega) (by omega)).trans g0;replace kH1:Keep H.n H H2:=kH1.trans (k2.lower (by omega));clear k2;by_cases hc:iT fs bs r d=0
 case neg=>
  have e0:(iT fs bs r d !=0)=true:=by simp[hc]
  simp(disch:=omega) only[ai,↓ah,seval,AJ,e0]
  exact fun hk=>he _ hk hc
 obtain⟨hck,hr,hd01,hr2⟩:aU fs bs=0∧(-4≤r∧r≤4)∧(d=0∨d=1)∧d0 (r+mV d)=true:=by
  unfold iT at hc;split at hc
  ·contradiction
  ·rename_i h1;split at hc
   ·omega
   ·rename_i h2;split at hc
    ·rename_i h3;rw[Decidable.not_not] at h1;unfold bB at h1;split at h1
     ·contradiction
     ·rename_i h4;split at h1
      ·rename_i h5;exact⟨by simpa using h4,rackB_iff.1 h5,by omega,h3⟩
      ·omega
    ·omega
 obtain⟨c1,c2,c3,c4,_⟩:=je hck;have r0:=ae g0;have hb2:=hb.keep kH1;simp(disch:=omega) only[ai,↓ah,seval,AJ,hc,r0,↓hb2.ln]
 have main:∀H9 v9 tm9,Keep H.n H H9→Gr H2.n H9 248 v9 (j3 fs bs r d)→tm9.length=82→tm9.getD 2 IV.undef=.int .u8 d→tm9.getD 9 IV.undef=v9.iv→W E0 H.n (.code (.seq (.seq (gv Tryz.f157 79) (.cond (.tmp 77) (gv Tryz.f157 175) .skip)) (.seq (gv Tryz.f157 95) .ret)) none ⟨tm9,[]⟩) H9 (lQ H.n F157.results fun o H'=>Keep H.n H H'→Q o H'):=by
  intro H9 v9 tm9 k9 g9 htm9 u2 u9;rw[rZ tm9 htm9,u2,u9]
  have hlen:(j3 fs bs r d).length≤1000:=by
   rw[←rC]
   have:=rB c3 c4 r d bs.length (Nat.le_refl _)
   omega
  have hn9:=k9.1;rcases hd01 with rfl | rfl
  ·have e1:kX fs bs r 0=j3 fs bs r 0:=by unfold kX;rw[if_neg (by omega)]
   simp(disch:=omega) only[ai,↓ah,seval,AJ]
   refine sT g9.sl (by omega) (by omega) fun H7 b7 k7 hb7 o7=>?_;simp(disch:=omega) only[ai,↓ah,seval,AJ];exact fun hk=>h H7 (.sl b7 0 (j3 fs bs r 0).length (j3 fs bs r 0).length true) hk hc (.inr ⟨b7,by rw[e1],by omega,by rw[e1];exact o7⟩)
  ·have e1:kX fs bs r 1=(j3 fs bs r 1).reverse:=by unfold kX;rw[if_pos rfl]
   simp(disch:=omega) only[ai,↓ah,seval,AJ]
   refine zB g9.own (by omega) (by omega) fun H8 k8 o8=>?_;have hn8:=k8.1;simp(disch:=omega) only[ai,↓ah,seval,AJ];refine sT o8.sl (by rw[List.length_reverse];omega) (by omega) fun H7 b7 k7 hb7 o7=>?_;simp(disch:=omega) only[ai,↓ah,seval,AJ];exact fun hk=>h H7 (.sl b7 0 (j3 fs bs r 1).reverse.length (j3 fs bs r 1).reverse.length true) hk hc (.inr ⟨b7,by rw[e1],by omega,by rw[e1];exact o7⟩)
 refine aM (fun k fm H'=>∃i v',i+k=bs.length∧Keep H2.n H2 H'∧Gr H2.n H' 248 v' (qg fs bs r d i)∧fm.marks=[]∧fm.tm.length=82∧fm.tm.getD 1 IV.undef=.int .i64 r∧fm.tm.getD 2 IV.undef=.int .u8 d∧fm.tm.getD 3 IV.undef=.ptr H.n 0∧fm.tm.getD 6 IV.undef=.nilSlice∧fm.tm.getD 7 IV.undef=.int .i64 0∧fm.tm.getD 9 IV.undef=v'.iv∧fm.tm.getD 26 IV.undef=b.iv∧fm.tm.getD 27 IV.undef=.int .i64 bs.length∧fm.tm.getD 28 IV.undef=.int .i64 i) ?_ bs.length ⟨0,.nil,by omega,Keep.refl _ _,by simpa [qg] using (Gr.nil:Gr H2.n H2 248 .nil ([]:List Cr)),rfl,rfl,rfl,rfl,rfl,rfl,rfl,rfl,rfl,rfl,rfl⟩;rintro k ⟨tm,mk⟩ H' ⟨i,v',hik,hk,hG,rfl,htm,t1,t2,t3,t6,t7,t9,t26,t27,t28⟩ L hN hJ;have hn:=hk.1;have kk:Keep H.n H H':=kH1.trans (hk.lower (by omega));rw[rZ tm htm,t1,t2,t3,t6,t7,t9,t26,t27,t28];by_cases hi:i < bs.length
 ·have hb3:=hb.keep kk;obtain⟨w,r1,s1,hbl⟩:=hb.elem i hi;have r1':=kk.read b.blk (b.off+i*1) 1 hbl hbl;rw[r1] at r1';have g0':=(hk.2 H.n (by omega) (by omega)).trans g0;have r0':=ae g0';have hrl:=rB c3 c4 r d i (by omega);have hw4:=c4 _ (List.getElem_mem hi)
  have step:∀at_:Int,at_=(i:Int)+1+r - (if d=0 then 1 else 0)→∀H5 v5,Keep H'.n H' H5→Fresh H'.n H5 138 v5 (mC fs bs 0 at_)→∀(Q':Out→Heap→Prop),(∀H6,Keep H'.n H' H6→OwnS H'.n H6 138 v5 (mC fs bs 0 at_).reverse→Q' (.val (.tuple [])) H6)→W E0 H.n (.call 197 [v5.iv]) H5 Q':=by
   intro at_ _ H5 v5 k5 s5 Q' hQ';refine zx s5.own (by omega) (by have:=jc fs bs 0 at_ 4 c3 c4;omega) fun H6 k6 o6=>hQ' H6 (k5.trans (k6.lower (Nat.le_refl _))) o6
  have go:∀(at_:Int) H6 v5 tm6,at_=(i:Int)+1+r - (if d=0 then 1 else 0)→Keep H'.n H' H6→OwnS H'.n H6 138 v5 (mC fs bs 0 at_).reverse→tm6.length=82→tm6.getD 1 IV.undef=.int .i64 r→tm6.getD 2 IV.undef=.int .u8 d→tm6.getD 3 IV.undef=.ptr H.n 0→tm6.getD 6 IV.undef=.nilSlice→tm6.getD 7 IV.undef=.int .i64 0→tm6.getD 9 IV.undef=v'.iv→tm6.getD 10 IV.undef=.int .i64 i→tm6.getD 11 IV.undef=w.iv→tm6.getD 13 IV.undef=v5.iv→tm6.getD 26 IV.undef=b.iv→tm6.getD 27 IV.undef=.int .i64 bs.length→tm6.getD 28 IV.undef=.int .i64 i→tm6.getD 47 IV.undef=w.iv→tm6.getD 48 IV.undef=.int .i64 bs[i].length→tm6.getD 49 IV.undef=.int .i64 0→W E0 H.n (.code (.loop (GU Tryz.f157 653719)) none ⟨tm6,[]⟩) H6 (pM 2 (pM 1 (kW E0 H.n none ((gv Tryz.f157 1943)) L))):=by
   intro at_ H6 v5 tm6 hat k6 o6 htm6 u1 u2 u3 u6 u7 u9 u10 u11 u13 u26 u27 u28 u47 u48 u49;have hn6:=k6.1;refine IF (n0:=H2.n) (w:=v5) (back:=bs[i]) (by omega) (by omega) (by rcases o6 with h | ⟨b,cap,ex,h1,h2,h3⟩;exact .inl h;exact .inr ⟨b,cap,ex,h1,by omega,h3⟩) (fun H9 k9=>(s1.keep kk).same (by have:=k9.1;omega) fun hx=>?_) (by rw[List.length_reverse];exact jc fs bs 0 at_ 4 c3 c4) hw4 (by omega) (hG.keep k6) hd01 htm6 u1 u2 u3 u6 u7 u9 u10 u11 u13 u26 u27 u28 u47 u48 u49 fun H8 v8 TE k8 g8 w w1 w2 w3 w6 w7 w9 w26 w27 w28=>?_
   ·have:=s1.blk_lt hx
    rw[k9.2 _ (by omega) (by omega),k6.2 _ (by omega) (by omega)]
   ·rw[rZ TE w,w1,w2,w3,w6,w7,w9,w26,w27,w28];simp(disch:=omega) only[ai,↓ah,seval,eO,eN,eM,eL,eK,eJ,eI,eH,eG,eE,cF,cE,cD,cC,cz,cx,cw,cv,cu,ct,cq,cp,cn,(Jj Tryz.f157 161085847),ck,cj,(bj Tryz.f157 151),dP,ci,dO,(ax Tryz.f157 1),F157];refine hN (k - 1) _ _ (by omega) ⟨i+1,v8,by omega,(hk.trans (k6.lower (by omega))).trans k8,?_,rfl,rfl,rfl,rfl,rfl,rfl,rfl,rfl,rfl,rfl,rfl⟩;rw[vi _ _ _ _ _ hi,←hat];exact g8
  rcases hd01 with rfl | rfl
  ·have e1:(i:Int)+1+r - (if (0:Int)=0 then 1 else 0)=(i:Int)+1+r - 1:=by rw[if_pos rfl]
   simp(disch:=omega) only[ai,↓ah,seval,eO,eN,eM,eL,eK,eJ,eI,eH,eG,eE,cF,cE,cD,cC,cz,cx,cw,cv,cu,ct,cq,cp,cn,(Jj Tryz.f157 161085847),ck,cj,(bj Tryz.f157 151),dP,ci,dO,(ax Tryz.f157 1),F157,↓hb3.idx,r1',r0']
   rw[show IV.agg [f.iv,b.iv]=bv f b from rfl];refine td 0 ((i:Int)+1+r - 1) (hf.keep kk) hb3 hl hl' (by omega) fun H5 v5 k5 s5=>?_;simp(disch:=omega) only[ai,↓ah,seval,eO,eN,eM,eL,eK,eJ,eI,eH,eG,eE,cF,cE,cD,cC,cz,cx,cw,cv,cu,ct,cq,cp,cn,(Jj Tryz.f157 161085847),ck,cj,(bj Tryz.f157 151),dP,ci,dO,(ax Tryz.f157 1),F157];refine step _ e1.symm H5 v5 k5 s5 _ fun H6 k6 o6=>?_;have s6:=(s1.keep kk).keep k6;simp(disch:=omega) only[ai,↓ah,seval,eO,eN,eM,eL,eK,eJ,eI,eH,eG,eE,cF,cE,cD,cC,cz,cx,cw,cv,cu,ct,cq,cp,cn,(Jj Tryz.f157 161085847),ck,cj,(bj Tryz.f157 151),dP,ci,dO,(ax Tryz.f157 1),F157,↓s6.ln];exact go _ H6 v5 _ e1.symm k6 o6 rfl rfl rfl rfl rfl rfl rfl rfl rfl rfl rfl rfl rfl rfl rfl rfl
  ·have e1:(i:Int)+1+r - (if (1:Int)=0 then 1 else 0)=(i:Int)+1+r:=by rw[if_neg (by omega)];omega
   simp(disch:=omega) only[ai,↓ah,seval,eO,eN,eM,eL,eK,eJ,eI,eH,eG,eE,cF,cE,cD,cC,cz,cx,cw,cv,cu,ct,cq,cp,cn,(Jj Tryz.f157 161085847),ck,cj,(bj Tryz.f157 151),dP,ci,dO,(ax Tryz.f157 1),F157,↓hb3.idx,r1',r0']
   rw[show IV.agg [f.iv,b.iv]=bv f b from rfl];refine td 0 ((i:Int)+1+r) (hf.keep kk) hb3 hl hl' (by omega) fun H5 v5 k5 s5=>?_;simp(disch:=omega) only[ai,↓ah,seval,eO,eN,eM,eL,eK,eJ,eI,eH,eG,eE,cF,cE,cD,cC,cz,cx,cw,cv,cu,ct,cq,cp,cn,(Jj Tryz.f157 161085847),ck,cj,(bj Tryz.f157 151),dP,ci,dO,(ax Tryz.f157 1),F157];refine step _ e1.symm H5 v5 k5 s5 _ fun H6 k6 o6=>?_;have s6:=(s1.keep kk).keep k6;simp(disch:=omega) only[ai,↓ah,seval,eO,eN,eM,eL,eK,eJ,eI,eH,eG,eE,cF,cE,cD,cC,cz,cx,cw,cv,cu,ct,cq,cp,cn,(Jj Tryz.f157 161085847),ck,cj,(bj Tryz.f157 151),dP,ci,dO,(ax Tryz.f157 1),F157,↓s6.ln];exact go _ H6 v5 _ e1.symm k6 o6 rfl rfl rfl rfl rfl rfl rfl rfl rfl rfl rfl rfl rfl rfl rfl rfl
 ·have:i=bs.length:=by omega
  subst this;rw[rC] at hG;simp(disch:=omega) only[ai,↓ah,seval,eO,eN,eM,eL,eK,eJ,eI,eH,eG,eE,cF,cE,cD,cC,cz,cx,cw,cv,cu,ct,cq,cp,cn,(Jj Tryz.f157 161085847),ck,cj,(bj Tryz.f157 151),ci,(ax Tryz.f157 1),F157,hJ];rw[←gS,←gS];exact main H' v' _ kk hG rfl rfl rfl
def kB(fs bs:List (List Id))(r d p:Int):Int:=if iT fs bs r d≠0 then iT fs bs r d else if p.tmod 2=0 then 1 else 0
def wU(d:Int):Int:=if d=0 then 1 else 0
def LT(way:Int)(id:Id):Ps:=⟨id,true,way⟩
def sG(r d p:Int)(i:Nat):Prop:=p=aD 1 ((i:Int)+1) r+mV d∨p=aD 1 ((i:Int)+1) r+3*mV d
instance (r d p:Int)(i:Nat):Decidable (sG r d p i):=by unfold sG;infer_instance
def sH(r d p:Int)(i:Nat)(st:List Id):List Ps:=if sG r d p i then st.map (LT (wU d)) else[]
def j6(bs:List (List Id))(r d p:Int):List Ps:=(bs.mapIdx fun(i:Nat) st=>sH r d p i st).flatten
def j5(bs:List (List Id))(r d p:Int):List Ps:=if d=1 then(j6 bs r d p).reverse else j6 bs r d p
def ni(bs:List (List Id))(r d p:Int)(n:Nat):List Ps:=((bs.mapIdx fun(i:Nat) st=>sH r d p i st).take n).flatten
theorem pG(bs:List (List Id))(r d p:Int)(n:Nat)(h:n < bs.length):ni bs r d p (n+1)=ni bs r d p n++sH r d p n bs[n]:=by
 unfold ni;rw[List.take_succ_eq_append_getElem (by simpa using h),List.flatten_append];simp
theorem rU(bs:List (List Id))(r d p:Int):ni bs r d p bs.length=j6 bs r d p:=by
 unfold ni j6;rw[List.take_of_length_le (by simp)]
theorem rS{bs:List (List Id)}(h':∀x∈bs,x.length≤4)(r d p:Int)(n:Nat)(hn:n≤bs.length):(ni bs r d p n).length≤4*n:=by
 induction n with
 | zero=>simp[ni]
 | succ n ih=>
   rw[pG _ _ _ _ _ (by omega),List.length_append]
   have:=ih (by omega)
   have:(sH r d p n bs[n]).length≤4:=by
    unfold sH;split
    ·rw[List.length_map];exact h' _ (List.getElem_mem _)
    ·simp
   omega
theorem Nc{n0:Nat}{way:Int}{v u:SV}{st:List Id}{acc:List Ps}{y1 y2 y3 y4 y8 y9 y31 y32 y33:IV}{H:Heap}{lo:Nat}{Q:Out→Heap→Prop}{tm:List IV}(hlo:lo≤n0)(hn0:n0≤H.n)(hu:∀H',Keep n0 H H'→Sl H' u st)(hst:st.length≤4)(hacc:acc.length≤100000)
  (hG:Gr n0 H 196 v acc) (htm:tm.length=80) (t1:tm.getD 1 IV.undef=y1) (t2:tm.getD 2 IV.undef=y2) (t3:tm.getD 3 IV.undef=y3) (t4:tm.getD 4 IV.undef=y4) (t8:tm.getD 8 IV.undef=y8) (t9:tm.getD 9 IV.undef=y9) (t11:tm.getD 11 IV.undef=.int .u8 way) (t12:tm.getD 12 IV.undef=v.iv) (t31:tm.getD 31 IV.undef=y31) (t32:tm.getD 32 IV.undef=y32) (t33:tm.getD 33 IV.undef=y33) (t60:tm.getD 60 IV.undef=u.iv) (t61:tm.getD 61 IV.undef=.int .i64 st.length) (t62:tm.getD 62 IV.undef=.int .i64 0)
  (hQ:∀H' v' tm',Keep n0 H H'→Gr n0 H' 196 v' (acc++st.map (LT way))→tm'.length=80→tm'.getD 1 IV.undef=y1→tm'.getD 2 IV.undef=y2→tm'.getD 3 IV.undef=y3→tm'.getD 4 IV.undef=y4→tm'.getD 8 IV.undef=y8→tm'.getD 9 IV.undef=y9→tm'.getD 11 IV.undef=.int .u8 way→tm'.getD 12 IV.undef=v'.iv→tm'.getD 31 IV.undef=y31→tm'.getD 32 IV.undef=y32→tm'.getD 33 IV.undef=y33→Q (.ex (.jmp (.exit 2)) ⟨tm',[]⟩) H'):
  W E0 lo (.code (.loop (GU Tryz.f155 1297599)) none ⟨tm,[]⟩) H Q:=by
 refine aM (fun k fm H'=>∃j v',j+k=st.length∧KeepG n0 196 4 H H'∧Gr n0 H' 196 v' (acc++(st.take j).map (LT way))∧fm.marks=[]∧fm.tm.length=80∧fm.tm.getD 1 IV.undef=y1∧fm.tm.getD 2 IV.undef=y2∧fm.tm.getD 3 IV.undef=y3∧fm.tm.getD 4 IV.undef=y4∧fm.tm.getD 8 IV.undef=y8∧fm.tm.getD 9 IV.undef=y9∧fm.tm.getD 11 IV.undef=.int .u8 way∧fm.tm.getD 12 IV.undef=v'.iv∧fm.tm.getD 31 IV.undef=y31∧fm.tm.getD 32 IV.undef=y32∧fm.tm.getD 33 IV.undef=y33∧fm.tm.getD 60 IV.undef=u.iv∧fm.tm.getD 61 IV.undef=.int .i64 st.length∧fm.tm.getD 62 IV.undef=.int .i64 j) ?_ st.length ⟨0,v,by omega,KeepG.refl _ _ _ _,by simpa using hG,rfl,htm,t1,t2,t3,t4,t8,t9,t11,t12,t31,t32,t33,t60,t61,t62⟩;clear htm t1 t2 t3 t4 t8 t9 t11 t12 t31 t32 t33 t60 t61 t62 hG;rintro k ⟨tm,mk⟩ H' ⟨j,v',hjk,hk,hG,rfl,htm,t1,t2,t3,t4,t8,t9,t11,t12,t31,t32,t33,t60,t61,t62⟩ L hN hJ;have hn:=hk.1;have hu':=hu H' (hk.low hn0);rw[zZ tm htm,t1,t2,t3,t4,t8,t9,t11,t12,t31,t32,t33,t60,t61,t62];by_cases hj:j < st.length
 ·have r1:=hu'.read kJ j hj;have hlen:(acc++(st.take j).map (LT way)).length≤100004:=by rw[List.length_append,List.length_map,List.length_take];omega
  have hk1:KeepG n0 196 4 H' ((H'.new (.cells false 138 2 [.int .u8 0,.int .i64 0])).put H'.n (.cells false 138 2 [.int .u8 st[j].y,.int .i64 st[j].n])):=KeepG.of Keep.newPut;have e2:(st.take (j+1)).map (LT way)=(st.take j).map (LT way)++[LT way st[j]]:=by rw[List.take_succ_eq_append_getElem hj,List.map_append];rfl
  obtain⟨H5,w5,e5,k5,o5⟩:=(hG.keep (Keep.newPut (o:=.cells false 138 2 [.int .u8 0,.int .i64 0]) (o':=.cells false 138 2 [.int .u8 st[j].y,.int .i64 st[j].n]))).pushNew (LT way st[j]) mE 24 lo hlo (by rw[af,ac];omega) (by omega);rw[show Cell.cs (LT way st[j])=[.int .u8 st[j].y,.int .i64 st[j].n,.bool true,.int .u8 way] from rfl] at e5;rw[af,ac] at e5;simp(disch:=omega) only[ai,↓ah,seval,PP,↓hu'.idx,r1,eC,↓e5];refine hN (k - 1) _ _ (by omega) ⟨j+1,w5,by omega,(hk.trans hk1).trans k5,?_,rfl,rfl,rfl,rfl,rfl,rfl,rfl,rfl,rfl,rfl,rfl,rfl,rfl,rfl,rfl,rfl⟩;rw[e2,←List.append_assoc];exact o5
 ·rw[List.take_of_length_le (by omega)] at hG;simp(disch:=omega) only[ai,↓ah,seval,PP,hJ];exact hQ H' v' _ (hk.low hn0) hG rfl rfl rfl rfl rfl rfl rfl rfl rfl rfl rfl rfl
theorem GH{f b:SV}{fs bs:List (List Id)}(r d p:Int){H:Heap}{lo:Nat}{Q:Out→Heap→Prop}(ht:Tabs tabs H)(hf:Sl2 H f fs)(hb:Sl2 H b bs)(hlf:fs.length≤1000000)(hlb:bs.length≤1000000)(hl:∀l∈fs,l.length≤1000000)(hl':∀l∈bs,l.length≤1000000)(hlo:lo≤H.n)(hd:0≤d∧d≤255)
  (he:∀H',Keep H.n H H'→kB fs bs r d p≠0→Q (.val (.tuple [.nilSlice,.int .i64 (kB fs bs r d p)])) H')
  (h:∀H' v,Keep H.n H H'→kB fs bs r d p=0→Fresh H.n H' 196 v (j5 bs r d p)→Q (.val (.tuple [v.iv,.int .i64 0])) H'):W E0 lo (.call 155 [bv f b,.int .i64 r,.int .u8 d,.int .i64 p]) H Q:=by
 refine W.pure aX hlo ?_;rw[XH];simp(disch:=omega) only[ai,↓ah,seval,AK,bv];generalize hH_H1:Heap.new _ _=H1;have hnH1:H1.n=H.n+1:=by rw[←hH_H1];rfl
 have g0:=congrArg (fun h0=>Heap.get h0 (H.n)) hH_H1.symm;simp(disch:=omega) only[ai,↓ah,seval] at g0
 have kH1:Keep H.n H H1:=⟨by omega,fun x hx _=>by
  have gx:=congrArg (fun h0=>Heap.get h0 x) hH_H1.symm;simp(disch:=omega) only[ai,↓ah,seval] at gx;exact gx⟩
 clear hH_H1;rw[show IV.agg [f.iv,b.iv]=bv f b from rfl];refine ra r d (ht.keep' kH1) (hf.keep kH1) (hb.keep kH1) hlf hlb hl hl' (by omega) hd fun H2 k2=>?_;have hn2:=k2.1;replace g0:=(k2.2 _ (by omega) (by omega)).trans g0;replace kH1:Keep H.n H H2:=kH1.trans (k2.lower (by omega));clear k2;unfold kB at he h;by_cases hc:iT fs bs r d=0
 case neg=>
  have e0:(iT fs bs r d !=0)=true:=by simp[hc]
  rw[if_pos hc] at he;simp(disch:=omega) only[ai,↓ah,seval,AK,e0];exact fun hk=>he _ hk hc
 rw[if_neg (by simp[hc])] at he h;by_cases hp:p.tmod 2=0
 ·rw[if_pos hp] at he;simp(disch:=omega) only[ai,↓ah,seval,AK,hc,hp];exact fun hk=>he _ hk (by omega)
 rw[if_neg hp] at h;have hp':(p.tmod 2==0)=false:=by simp[hp]
 obtain⟨hck,hr,hd01⟩:aU fs bs=0∧(-4≤r∧r≤4)∧(d=0∨d=1):=by
  unfold iT at hc;split at hc
  ·contradiction
  ·rename_i h1;split at hc
   ·omega
   ·rename_i h2;rw[Decidable.not_not] at h1;unfold bB at h1;split at h1
    ·contradiction
    ·rename_i h4;split at h1
     ·rename_i h5;exact⟨by simpa using h4,rackB_iff.1 h5,by omega⟩
     ·omega
 obtain⟨c1,c2,c3,c4,_⟩:=je hck;have r0:=ae g0;have hb2:=hb.keep kH1
 have main:∀H9 v9 tm9,Keep H.n H H9→Gr H2.n H9 196 v9 (j6 bs r d p)→tm9.length=80→tm9.getD 11 IV.undef=.int .u8 (wU d)→tm9.getD 12 IV.undef=v9.iv→W E0 H.n (.code (.seq (.seq (gv Tryz.f155 639) (.cond (.tmp 75) (gv Tryz.f155 1407) .skip)) (.seq (gv Tryz.f155 767) .ret)) none ⟨tm9,[]⟩) H9 (lQ H.n F155.results fun o H'=>Keep H.n H H'→Q o H'):=by
  intro H9 v9 tm9 k9 g9 htm9 u2 u9;rw[zZ tm9 htm9,u2,u9]
  have hlen:(j6 bs r d p).length≤1000:=by
   rw[←rU]
   have:=rS c4 r d p bs.length (Nat.le_refl _)
   omega
  have hn9:=k9.1;rcases hd01 with rfl | rfl
  ·have e1:j5 bs r 0 p=j6 bs r 0 p:=by unfold j5;rw[if_neg (by omega)]
   rw[show wU 0=1 from rfl];simp(disch:=omega) only[ai,↓ah,seval,AK];refine kc g9.sl (by omega) (by omega) fun H7 b7 k7 hb7 o7=>?_;simp(disch:=omega) only[ai,↓ah,seval,AK];exact fun hk=>h H7 (.sl b7 0 (j6 bs r 0 p).length (j6 bs r 0 p).length true) hk rfl (.inr ⟨b7,by rw[e1],by omega,by rw[e1];exact o7⟩)
  ·have e1:j5 bs r 1 p=(j6 bs r 1 p).reverse:=by unfold j5;rw[if_pos rfl]
   rw[show wU 1=0 from rfl];simp(disch:=omega) only[ai,↓ah,seval,AK];refine qm g9.own (by omega) (by omega) fun H8 k8 o8=>?_;have hn8:=k8.1;simp(disch:=omega) only[ai,↓ah,seval,AK];refine kc o8.sl (by rw[List.length_reverse];omega) (by omega) fun H7 b7 k7 hb7 o7=>?_;simp(disch:=omega) only[ai,↓ah,seval,AK];exact fun hk=>h H7 (.sl b7 0 (j6 bs r 1 p).reverse.length (j6 bs r 1 p).reverse.length true) hk rfl (.inr ⟨b7,by rw[e1],by omega,by rw[e1];exact o7⟩)
 have loop:∀(tm2:List IV) (v':SV) (i:Nat),v'=.nil→i=0→tm2.length=80→tm2.getD 1 IV.undef=.int .i64 r→tm2.getD 2 IV.undef=.int .u8 d→tm2.getD 3 IV.undef=.int .i64 p→tm2.getD 4 IV.undef=.ptr H.n 0→tm2.getD 8 IV.undef=.nilSlice→tm2.getD 9 IV.undef=.int .i64 0→tm2.getD 11 IV.undef=.int .u8 (wU d)→tm2.getD 12 IV.undef=v'.iv→tm2.getD 31 IV.undef=b.iv→tm2.getD 32 IV.undef=.int .i64 bs.length→tm2.getD 33 IV.undef=.int .i64 i→W E0 H.n (.code (.loop (sK Tryz.f155 1215)) none ⟨tm2,[]⟩) H2 (pM 0 (kW E0 H.n none (.seq (.seq (gv Tryz.f155 639) (.cond (.tmp 75) (gv Tryz.f155 1407) .skip)) (.seq (gv Tryz.f155 767) .ret)) (lQ H.n F155.results fun o H'=>Keep H.n H H'→Q o H'))):=by
  intro tm2 v' i hv' hi0 htm t1 t2 t3 t4 t8 t9 t11 t12 t31 t32 t33;subst hv' hi0;refine aM (fun k fm H'=>∃(i:Nat) (v':SV),i+k=bs.length∧Keep H2.n H2 H'∧Gr H2.n H' 196 v' (ni bs r d p i)∧fm.marks=[]∧fm.tm.length=80∧fm.tm.getD 1 IV.undef=.int .i64 r∧fm.tm.getD 2 IV.undef=.int .u8 d∧fm.tm.getD 3 IV.undef=.int .i64 p∧fm.tm.getD 4 IV.undef=.ptr H.n 0∧fm.tm.getD 8 IV.undef=.nilSlice∧fm.tm.getD 9 IV.undef=.int .i64 0∧fm.tm.getD 11 IV.undef=.int .u8 (wU d)∧fm.tm.getD 12 IV.undef=v'.iv∧fm.tm.getD 31 IV.undef=b.iv∧fm.tm.getD 32 IV.undef=.int .i64 bs.length∧fm.tm.getD 33 IV.undef=.int .i64 i) ?_ bs.length ⟨0,.nil,by omega,Keep.refl _ _,by simpa [ni] using (Gr.nil:Gr H2.n H2 196 .nil ([]:List Ps)),rfl,htm,t1,t2,t3,t4,t8,t9,t11,t12,t31,t32,t33⟩;clear htm t1 t2 t3 t4 t8 t9 t11 t12 t31 t32 t33;rintro k ⟨tm,mk⟩ H' ⟨i,v',hik,hk,hG,rfl,htm,t1,t2,t3,t4,t8,t9,t11,t12,t31,t32,t33⟩ L hN hJ;have hn:=hk.1;have kk:Keep H.n H H':=kH1.trans (hk.lower (by omega));rw[zZ tm htm,t1,t2,t3,t4,t8,t9,t11,t12,t31,t32,t33];by_cases hi:i < bs.length
  ·have hb3:=hb.keep kk;obtain⟨w,r1,s1,hbl⟩:=hb.elem i hi;have r1':=kk.read b.blk (b.off+i*1) 1 hbl hbl;rw[r1] at r1';have hrl:=rS c4 r d p i (by omega);have hw4:=c4 _ (List.getElem_mem hi);simp(disch:=omega) only[ai,↓ah,seval,eY,eX,eW,eV,eU,eT,eS,eR,eQ,eP,cS,cR,cQ,cP,cO,cN,cM,cK,cJ,cI,cH,(bj Tryz.f155 1215),gh,cG,gg,(ax Tryz.f155 1),F155,↓hb3.idx,r1'];refine lN 1 ((i:Int)+1) r (by omega) fun H3 k3=>?_;have hn3:=k3.1;have kk3:Keep H.n H H3:=kk.trans (k3.lower (by omega));have gt:=Pj (ht.keep' kk3);have rt:=ae gt;have s3:=s1.keep kk3
   have hsb: -12≤aD 1 ((i:Int)+1) r∧aD 1 ((i:Int)+1) r≤176:=by
    unfold aD;split
    ·rename_i h;have:=dV h.1;rw[if_neg (by omega)];omega
    ·omega
   have hd0: -1≤mV d∧mV d≤1:=by unfold mV;split<;>omega
   have inner:∀tm9:List IV,sG r d p i→tm9.length=80→tm9.getD 1 IV.undef=.int .i64 r→tm9.getD 2 IV.undef=.int .u8 d→tm9.getD 3 IV.undef=.int .i64 p→tm9.getD 4 IV.undef=.ptr H.n 0→tm9.getD 8 IV.undef=.nilSlice→tm9.getD 9 IV.undef=.int .i64 0→tm9.getD 11 IV.undef=.int .u8 (wU d)→tm9.getD 12 IV.undef=v'.iv→tm9.getD 31 IV.undef=b.iv→tm9.getD 32 IV.undef=.int .i64 bs.length→tm9.getD 33 IV.undef=.int .i64 i→tm9.getD 60 IV.undef=w.iv→tm9.getD 61 IV.undef=.int .i64 bs[i].length→tm9.getD 62 IV.undef=.int .i64 0→W E0 H.n (.code (.loop (GU Tryz.f155 1297599)) none ⟨tm9,[]⟩) H3 (pM 2 (pM 1 (kW E0 H.n none (gv Tryz.f155 15551) L))):=by
    intro tm9 hm htm9 u1 u2 u3 u4 u8 u9 u11 u12 u31 u32 u33 u60 u61 u62;refine Nc (n0:=H2.n) (st:=bs[i]) (by omega) (by omega) (fun H9 k9=>(s1.keep kk3).same (by have:=k9.1;omega) fun hx=>k9.2 _ (by have:=s1.blk_lt hx;omega) (by have:=s1.blk_lt hx;omega)) hw4 (by omega) (hG.keep k3) htm9 u1 u2 u3 u4 u8 u9 u11 u12 u31 u32 u33 u60 u61 u62 fun H8 v8 TE k8 g8 w w1 w2 w3 w4 w8 w9 w11 w12 w31 w32 w33=>?_;rw[zZ TE w,w1,w2,w3,w4,w8,w9,w11,w12,w31,w32,w33];simp(disch:=omega) only[ai,↓ah,seval,eY,eX,eW,eV,eU,eT,eS,eR,eQ,eP,cS,cR,cQ,cP,cO,cN,cM,cK,cJ,cI,cH,(bj Tryz.f155 1215),gh,cG,gg,(ax Tryz.f155 1),F155];refine hN (k - 1) _ _ (by omega) ⟨i+1,v8,by omega,(hk.trans (k3.lower (by omega))).trans k8,?_,rfl,rfl,rfl,rfl,rfl,rfl,rfl,rfl,rfl,rfl,rfl,rfl,rfl⟩;rw[pG _ _ _ _ _ hi];unfold sH;rw[if_pos hm];exact g8
   have skip:¬sG r d p i→ni bs r d p (i+1)=ni bs r d p i:=fun hm=>by
    rw[pG _ _ _ _ _ hi];unfold sH;rw[if_neg hm,List.append_nil]
   rcases hd01 with rfl | rfl
   ·by_cases m1:p=aD 1 ((i:Int)+1) r+ -1
    ·have b1:(p !=aD 1 ((i:Int)+1) r+ -1)=false:=by simp[m1]
     simp(disch:=omega) only[ai,↓ah,seval,eY,eX,eW,eV,eU,eT,eS,eR,eQ,eP,cS,cR,cQ,cP,cO,cN,cM,cK,cJ,cI,cH,(bj Tryz.f155 1215),gh,cG,gg,(ax Tryz.f155 1),F155,Pv,rt,b1,↓s3.ln]
     exact inner _ (.inl m1) rfl rfl rfl rfl rfl rfl rfl rfl rfl rfl rfl rfl rfl rfl rfl
    ·have b1:(p !=aD 1 ((i:Int)+1) r+ -1)=true:=by simp[m1]
     by_cases m2:p=aD 1 ((i:Int)+1) r+ -3
     ·have b2:(p !=aD 1 ((i:Int)+1) r+ -3)=false:=by simp[m2]
      simp(disch:=omega) only[ai,↓ah,seval,eY,eX,eW,eV,eU,eT,eS,eR,eQ,eP,cS,cR,cQ,cP,cO,cN,cM,cK,cJ,cI,cH,(bj Tryz.f155 1215),gh,cG,gg,(ax Tryz.f155 1),F155,Pv,rt,b1,b2,Int.reduceMul,↓s3.ln]
      exact inner _ (.inr m2) rfl rfl rfl rfl rfl rfl rfl rfl rfl rfl rfl rfl rfl rfl rfl
     ·have b2:(p !=aD 1 ((i:Int)+1) r+ -3)=true:=by simp[m2]
      simp(disch:=omega) only[ai,↓ah,seval,eY,eX,eW,eV,eU,eT,eS,eR,eQ,eP,cS,cR,cQ,cP,cO,cN,cM,cK,cJ,cI,cH,(bj Tryz.f155 1215),gh,cG,gg,(ax Tryz.f155 1),F155,Pv,rt,b1,b2,Int.reduceMul]
      refine hN (k - 1) _ _ (by omega) ⟨i+1,v',by omega,hk.trans (k3.lower (by omega)),?_,rfl,rfl,rfl,rfl,rfl,rfl,rfl,rfl,rfl,rfl,rfl,rfl,rfl⟩;rw[skip (by unfold sG;rw[show mV 0= -1 from rfl];omega)];exact hG.keep k3
   ·by_cases m1:p=aD 1 ((i:Int)+1) r+1
    ·have b1:(p !=aD 1 ((i:Int)+1) r+1)=false:=by simp[m1]
     simp(disch:=omega) only[ai,↓ah,seval,eY,eX,eW,eV,eU,eT,eS,eR,eQ,eP,cS,cR,cQ,cP,cO,cN,cM,cK,cJ,cI,cH,(bj Tryz.f155 1215),gh,cG,gg,(ax Tryz.f155 1),F155,Pv,rt,b1,↓s3.ln]
     exact inner _ (.inl m1) rfl rfl rfl rfl rfl rfl rfl rfl rfl rfl rfl rfl rfl rfl rfl
    ·have b1:(p !=aD 1 ((i:Int)+1) r+1)=true:=by simp[m1]
     by_cases m2:p=aD 1 ((i:Int)+1) r+3
     ·have b2:(p !=aD 1 ((i:Int)+1) r+3)=false:=by simp[m2]
      simp(disch:=omega) only[ai,↓ah,seval,eY,eX,eW,eV,eU,eT,eS,eR,eQ,eP,cS,cR,cQ,cP,cO,cN,cM,cK,cJ,cI,cH,(bj Tryz.f155 1215),gh,cG,gg,(ax Tryz.f155 1),F155,Pv,rt,b1,b2,Int.reduceMul,↓s3.ln]
      exact inner _ (.inr m2) rfl rfl rfl rfl rfl rfl rfl rfl rfl rfl rfl rfl rfl rfl rfl
     ·have b2:(p !=aD 1 ((i:Int)+1) r+3)=true:=by simp[m2]
      simp(disch:=omega) only[ai,↓ah,seval,eY,eX,eW,eV,eU,eT,eS,eR,eQ,eP,cS,cR,cQ,cP,cO,cN,cM,cK,cJ,cI,cH,(bj Tryz.f155 1215),gh,cG,gg,(ax Tryz.f155 1),F155,Pv,rt,b1,b2,Int.reduceMul]
      refine hN (k - 1) _ _ (by omega) ⟨i+1,v',by omega,hk.trans (k3.lower (by omega)),?_,rfl,rfl,rfl,rfl,rfl,rfl,rfl,rfl,rfl,rfl,rfl,rfl,rfl⟩;rw[skip (by unfold sG;rw[show mV 1=1 from rfl];omega)];exact hG.keep k3
  ·have:i=bs.length:=by omega
   subst this;rw[rU] at hG;simp(disch:=omega) only[ai,↓ah,seval,eY,eX,eW,eV,eU,eT,eS,eR,eQ,eP,cS,cR,cQ,cP,cO,cN,cM,cK,cJ,cI,cH,(bj Tryz.f155 1215),cG,(ax Tryz.f155 1),F155,hJ];rw[←gS,←gS];exact main H' v' _ kk hG rfl rfl rfl
 rcases hd01 with rfl | rfl
 ·simp(disch:=omega) only[ai,↓ah,seval,eY,eX,eW,eV,eU,eT,eS,eR,eQ,eP,cS,cR,cQ,cP,cO,cN,cM,cK,cJ,cI,cH,cG,(ax Tryz.f155 1),F155,hc,hp',r0,↓hb2.ln]
  exact loop _ .nil 0 rfl rfl rfl rfl rfl rfl rfl rfl rfl rfl rfl rfl rfl rfl
 ·simp(disch:=omega) only[ai,↓ah,seval,eY,eX,eW,eV,eU,eT,eS,eR,eQ,eP,cS,cR,cQ,cP,cO,cN,cM,cK,cJ,cI,cH,cG,(ax Tryz.f155 1),F155,hc,hp',r0,↓hb2.ln]
  exact loop _ .nil 0 rfl rfl rfl rfl rfl rfl rfl rfl rfl rfl rfl rfl rfl rfl
def Nt(low high:Int)(h:Hd):Bool:=decide (h.spot>low)&&decide (h.spot < high)
def TF(dir:Int)(h:Hd):Ps:=⟨h.id,h.bed==1,dir⟩
def mr(l:List Hd)(low high dir:Int):List Ps:=(l.filter (Nt low high)).map (TF dir)
def rc(l:List Hd)(a b:Int):List Ps:=if b>a then mr l a b 1 else(mr l b a 0).reverse
theorem Hp(l:List Hd)(low high dir:Int)(j:Nat)(hj:j < l.length):mr (l.take (j+1)) low high dir=mr (l.take j) low high dir++(if Nt low high l[j]=true then[TF dir l[j]] else[]):=by
 unfold mr;rw[List.take_succ_eq_append_getElem hj,List.filter_append,List.map_append];congr 1;by_cases h:Nt low high l[j]=true
 ·rw[if_pos h];simp[h]
 ·rw[if_neg h];simp[h]
theorem nW(l:List Hd)(low high dir:Int):(mr l low high dir).length≤l.length:=by
 unfold mr;rw[List.length_map];exact List.length_filter_le _ _
def Aa(tm:List IV)(h:tm.length=54):=(bL tm 54 h).trans (by simp only[List.range,List.range.loop,List.map_cons,List.map_nil];exact rfl)
theorem Ct{n0:Nat}{low high dir:Int}{v u:SV}{l:List Hd}{y1 y2 y6:IV}{H:Heap}{lo:Nat}{Q:Out→Heap→Prop}{tm:List IV}(hlo:lo≤n0)(hn0:n0=H.n)(hu:Sl H u l)(hl:l.length≤1000000)
  (hv:v=.nil) (htm:tm.length=54) (t1:tm.getD 1 IV.undef=y1) (t2:tm.getD 2 IV.undef=y2) (t6:tm.getD 6 IV.undef=y6) (t7:tm.getD 7 IV.undef=.int .i64 low) (t8:tm.getD 8 IV.undef=.int .i64 high) (t9:tm.getD 9 IV.undef=.int .u8 dir) (t10:tm.getD 10 IV.undef=v.iv) (t20:tm.getD 20 IV.undef=u.iv) (t21:tm.getD 21 IV.undef=.int .i64 l.length) (t22:tm.getD 22 IV.undef=.int .i64 0)
  (hQ:∀H' v' tm',Keep n0 H H'→Gr n0 H' 196 v' (mr l low high dir)→tm'.length=54→tm'.getD 9 IV.undef=.int .u8 dir→tm'.getD 10 IV.undef=v'.iv→Q (.ex (.jmp (.exit 0)) ⟨tm',[]⟩) H'):
  W E0 lo (.code (.loop (sK Tryz.f159 303)) none ⟨tm,[]⟩) H Q:=by
 refine aM (fun k fm H'=>∃j v',j+k=l.length∧KeepG n0 196 4 H H'∧Gr n0 H' 196 v' (mr (l.take j) low high dir)∧fm.marks=[]∧fm.tm.length=54∧fm.tm.getD 1 IV.undef=y1∧fm.tm.getD 2 IV.undef=y2∧fm.tm.getD 6 IV.undef=y6∧fm.tm.getD 7 IV.undef=.int .i64 low∧fm.tm.getD 8 IV.undef=.int .i64 high∧fm.tm.getD 9 IV.undef=.int .u8 dir∧fm.tm.getD 10 IV.undef=v'.iv∧fm.tm.getD 20 IV.undef=u.iv∧fm.tm.getD 21 IV.undef=.int .i64 l.length∧fm.tm.getD 22 IV.undef=.int .i64 j) ?_ l.length ⟨0,v,by omega,KeepG.refl _ _ _ _,by rw[hv];simpa [mr] using (Gr.nil:Gr n0 H 196 .nil ([]:List Ps)),rfl,htm,t1,t2,t6,t7,t8,t9,t10,t20,t21,t22⟩;clear htm t1 t2 t6 t7 t8 t9 t10 t20 t21 t22;rintro k ⟨tm,mk⟩ H' ⟨j,v',hjk,hk,hG,rfl,htm,t1,t2,t6,t7,t8,t9,t10,t20,t21,t22⟩ L hN hJ;have hn:=hk.1;have hu':Sl H' u l:=hu.keep (hn0▸hk.low (by omega));rw[Aa tm htm,t1,t2,t6,t7,t8,t9,t10,t20,t21,t22];by_cases hj:j < l.length
 ·have r1:=hu'.read iX j hj;have hlen:=nW (l.take j) low high dir;rw[List.length_take] at hlen;have hk1:KeepG n0 196 4 H' ((H'.new (.cells false 204 5 [.int .u8 0,.int .i64 0,.int .u8 0,.int .i64 0,.int .i64 0])).put H'.n (.cells false 204 5 [.int .u8 l[j].id.y,.int .i64 l[j].id.n,.int .u8 l[j].bed,.int .i64 l[j].at_,.int .i64 l[j].spot])):=KeepG.of Keep.newPut;have hG1:=hG.keep (Keep.newPut (o:=.cells false 204 5 [.int .u8 0,.int .i64 0,.int .u8 0,.int .i64 0,.int .i64 0]) (o':=.cells false 204 5 [.int .u8 l[j].id.y,.int .i64 l[j].id.n,.int .u8 l[j].bed,.int .i64 l[j].at_,.int .i64 l[j].spot]));have e2:=Hp l low high dir j hj;by_cases c1:l[j].spot>low
  ·by_cases c2:l[j].spot < high
   ·have hin:Nt low high l[j]=true:=by unfold Nt;simp[c1,c2]
    rw[if_pos hin] at e2;obtain⟨H5,w5,e5,k5,o5⟩:=hG1.pushNew (TF dir l[j]) mE 24 lo hlo (by rw[af,ac];omega) (by omega);rw[show Cell.cs (TF dir l[j])=[.int .u8 l[j].id.y,.int .i64 l[j].id.n,.bool (l[j].bed==1),.int .u8 dir] from rfl] at e5;rw[af,ac] at e5;simp(disch:=omega) only[ai,↓ah,seval,FK,↓hu'.idx,r1,yc,↓e5];refine hN (k - 1) _ _ (by omega) ⟨j+1,w5,by omega,(hk.trans hk1).trans k5,?_,rfl,rfl,rfl,rfl,rfl,rfl,rfl,rfl,rfl,rfl,rfl,rfl⟩;rw[e2];exact o5
   ·have hin:¬Nt low high l[j]=true:=by unfold Nt;simp;omega
    rw[if_neg hin,List.append_nil] at e2;simp(disch:=omega) only[ai,↓ah,seval,FK,↓hu'.idx,r1,yc];refine hN (k - 1) _ _ (by omega) ⟨j+1,v',by omega,hk.trans hk1,?_,rfl,rfl,rfl,rfl,rfl,rfl,rfl,rfl,rfl,rfl,rfl,rfl⟩;rw[e2];exact hG1
  ·have hin:¬Nt low high l[j]=true:=by unfold Nt;simp;omega
   rw[if_neg hin,List.append_nil] at e2;simp(disch:=omega) only[ai,↓ah,seval,FK,↓hu'.idx,r1,yc];refine hN (k - 1) _ _ (by omega) ⟨j+1,v',by omega,hk.trans hk1,?_,rfl,rfl,rfl,rfl,rfl,rfl,rfl,rfl,rfl,rfl,rfl,rfl⟩;rw[e2];exact hG1
 ·rw[List.take_of_length_le (by omega)] at hG;simp(disch:=omega) only[ai,↓ah,seval,FK,hJ];exact hQ H' v' _ (hk.low (by omega)) hG rfl rfl rfl
theorem Ed{u:SV}{l:List Hd}(a b:Int){H:Heap}{lo:Nat}{Q:Out→Heap→Prop}(hu:Sl H u l)(hl:l.length≤1000000)(hlo:lo≤H.n)
  (h:∀H' v,Keep H.n H H'→Fresh H.n H' 196 v (rc l a b)→Q (.val v.iv) H'):W E0 lo (.call 159 [u.iv,.int .i64 a,.int .i64 b]) H Q:=by
 refine W.pure aX hlo ?_;rw[XD];by_cases hba:b>a
 ·have e1:rc l a b=mr l a b 1:=by unfold rc;rw[if_pos hba]
  have hlen:=nW l a b 1;simp(disch:=omega) only[ai,↓ah,seval,CS,↓hu.ln];refine Ct (v:=.nil) (Nat.le_refl _) rfl hu hl rfl rfl rfl rfl rfl rfl rfl rfl rfl rfl rfl rfl fun H2 v2 tm2 k2 g2 w w9 w10=>?_;have hn2:=k2.1;rw[Aa tm2 w,w9,w10];simp(disch:=omega) only[ai,↓ah,seval,CS];refine kc g2.sl (by omega) (by omega) fun H7 b7 k7 hb7 o7=>?_;simp(disch:=omega) only[ai,↓ah,seval,CS];exact fun hk=>h H7 (.sl b7 0 (mr l a b 1).length (mr l a b 1).length true) hk (.inr ⟨b7,by rw[e1],by omega,by rw[e1];exact o7⟩)
 ·have e1:rc l a b=(mr l b a 0).reverse:=by unfold rc;rw[if_neg hba]
  have hlen:=nW l b a 0;simp(disch:=omega) only[ai,↓ah,seval,CS,↓hu.ln];refine Ct (v:=.nil) (Nat.le_refl _) rfl hu hl rfl rfl rfl rfl rfl rfl rfl rfl rfl rfl rfl rfl fun H2 v2 tm2 k2 g2 w w9 w10=>?_;have hn2:=k2.1;rw[Aa tm2 w,w9,w10];simp(disch:=omega) only[ai,↓ah,seval,CS];refine qm g2.own (by omega) (by omega) fun H8 k8 o8=>?_;have hn8:=k8.1;simp(disch:=omega) only[ai,↓ah,seval,CS];refine kc o8.sl (by rw[List.length_reverse];omega) (by omega) fun H7 b7 k7 hb7 o7=>?_;simp(disch:=omega) only[ai,↓ah,seval,CS];exact fun hk=>h H7 (.sl b7 0 (mr l b a 0).reverse.length (mr l b a 0).reverse.length true) hk (.inr ⟨b7,by rw[e1],by omega,by rw[e1];exact o7⟩)
def WT(tm:List IV)(h:tm.length=94):=(bL tm 94 h).trans (by simp only[List.range,List.range.loop,List.map_cons,List.map_nil];exact rfl)
def SC(p:Ps):Ps:=⟨p.id,p.front,if p.dir=1 then 0 else 1⟩
def aad(l:List Ps):List Ps:=(l.map SC).reverse
def W1(tm:List IV)(h:tm.length=31):=(bL tm 31 h).trans (by simp only[List.range,List.range.loop,List.map_cons,List.map_nil];exact rfl)
def crF(c:Cr):Cr:=⟨c.b,c.a, -c.s⟩
theorem xp{fs bs:List (List Id)}(h1:bs.length≤40)(h:∀x∈fs,x.length≤4)(h':∀x∈bs,x.length≤4)(r d:Int):(kX fs bs r d).length≤640:=by
 have:=rB h h' r d bs.length (Nat.le_refl _)
 rw[rC] at this;unfold kX;split
 ·rw[List.length_reverse];omega
 ·omega
theorem TE(a:Nat):(a:Int).tmod 8=((a%8:Nat):Int):=Iu a 8
def TN(tm:List IV)(h:tm.length=146):=(bL tm 146 h).trans (by simp only[List.range,List.range.loop,List.map_cons,List.map_nil];exact rfl)
def Xa(p:Int)(x y:Hd):Bool:=decide (y.id=x.id)&&(decide (x.spot < p) !=decide (y.spot < p))
def UM(p way:Int)(behind:List Hd)(x:Hd):List Ps:=(behind.filter (Xa p x)).map fun _=>LT way x.id
def TM(tm:List IV)(h:tm.length=180):=(bL tm 180 h).trans (by simp only[List.range,List.range.loop,List.map_cons,List.map_nil];exact rfl)
def aa6(fs bs:List (List Id)):List (List Id):=fs++List.replicate (40 - fs.length) []++bs
def UQ(r' p:Int)(x:Hd):Bool:=decide (x.spot < p) !=decide (aD x.bed x.at_ r' < p)
def UK(way:Int)(l:List Hd):List Hd:=if way=0 then l.reverse else l
def Y0(p way:Int)(before behind:List Hd):List Ps:=(UK way before).flatMap (UM p way behind)
def Zz(bs:List (List Id))(r d p:Int):List Hd:=(bs.mapIdx fun(i:Nat) st=>if sG r d p i then aW 1 ((i:Int)+1) (aD 1 ((i:Int)+1) r) (8*(40+i)) st else[]).flatten
def Adj(c:Cr)(l l':List Hd):Prop:=∃P x y S,l=P++x::y::S∧l'=P++y::x::S∧x.id=c.a∧y.id=c.b∧x.bed≠y.bed∧c.s=(if x.bed=0 then 1 else -1)
def Tc:List Cr→List Hd→List Hd→Prop
 | [],l,l'=>l=l'
 | c::cs,l,l'=>∃m,Adj c l m∧Tc cs m l'
def UF(fs bs:List (List Id))(r q:Int):List Hd:=aW 1 (q - r) (4*q) (8*(39+(q - r))).toNat (mC fs bs 1 (q - r))
def UE(fs bs:List (List Id))(q:Int):List Hd:=aW 0 q (4*q+2) (8*(q - 1)).toNat (mC fs bs 0 q)
def Zx(fs bs:List (List Id))(r:Int):List Hd:=(List.range 48).flatMap fun(u:Nat)=>UF fs bs r ((u:Int) - 3)++UE fs bs ((u:Int) - 3)
def TL(tm:List IV)(h:tm.length=201):=(bL tm 201 h).trans (by simp only[List.range,List.range.loop,List.map_cons,List.map_nil];exact rfl)
def W8(y:Int):UInt8:=UInt8.ofNat (IntKind.u8.wrap (48+y)).toNat
def W7(n:Int):UInt8:=UInt8.ofNat (IntKind.u8.wrap (48+IntKind.u8.wrap (n.tmod 10))).toNat
def elS(p:Ps):List UInt8:=W8 p.id.y::46::W7 p.id.n::((if p.front=true then[43] else[])++(if p.dir=0 then[60,32] else[62,32]))
def Y2(l:List Ps):List UInt8:=l.flatMap elS
def WY(tm:List IV)(h:tm.length=49):=(bL tm 49 h).trans (by simp only[List.range,List.range.loop,List.map_cons,List.map_nil];exact rfl)
def kh(q p:Ps):Bool:=(q.dir !=p.dir)&&(q.id.y==p.id.y&&(q.id.n==p.id.n&&q.front==p.front))
theorem yh(q p:Ps){H:Heap}{lo:Nat}{Q:Out→Heap→Prop}(hq:q.dir=0∨q.dir=1)(hp:p.dir=0∨p.dir=1)(hlo:lo≤H.n)
  (h:∀H',Keep H.n H H'→Q (.val (.bool (kh q p))) H'):W E0 lo (.call 115 [.agg [.int .u8 q.id.y,.int .i64 q.id.n,.bool q.front,.int .u8 q.dir],.agg [.int .u8 p.id.y,.int .i64 p.id.n,.bool p.front,.int .u8 p.dir]]) H Q:=by
 refine gu _ hlo h fun R hR=>?_;rw[X8];rcases q with⟨⟨qy,qn⟩,qf,qd⟩;rcases p with⟨⟨py,pn⟩,pf,pd⟩;simp only at hq hp;rcases hq with rfl | rfl<;>rcases hp with rfl | rfl
 all_goals
  simp(disch:=omega) only[ai,↓ah,seval,YU,SQ,Tx]
  exact hR _
theorem N2{H:Heap}{b e cap:Nat}{s:List Ps}{q:Ps}(h:Own H b e cap (s++[q])):Own H b e cap s:=by
 obtain⟨h1,h2,r,h3,h4⟩:=h;rw[List.length_append,List.length_singleton] at h1 h4;refine⟨by omega,h2,Cell.cs q++r,?_,?_⟩
 ·rw[h3,bY,List.append_assoc];simp[aB]
 ·rw[List.length_append,h4,mE]
  show 4+_=_
  omega
def d5(st:List Ps)(p:Ps):List Ps:=match st.getLast? with
 | some q=>if kh q p then st.dropLast else st++[p]
 | none=>st++[p]
theorem oK(p:Ps):d5 [] p=[p]:=rfl
theorem kZ(s:List Ps)(q p:Ps):d5 (s++[q]) p=if kh q p then s else s++[q]++[p]:=by
 unfold d5;rw[List.getLast?_concat];simp only[List.dropLast_concat]
def Zw(l:List Ps):List Ps:=l.foldl d5 []
theorem Gn(st:List Ps)(p q:Ps)(h:q∈d5 st p):q∈st∨q=p:=by
 rcases List.eq_nil_or_concat st with rfl | ⟨s,x,rfl⟩
 ·rw[oK] at h;exact .inr (by simpa using h)
 ·rw[List.concat_eq_append] at h⊢;rw[kZ] at h;split at h
  ·exact .inl (by simp[h])
  ·rw[List.mem_append] at h;rcases h with h | h
   ·exact .inl h
   ·exact .inr (by simpa using h)
theorem Bj(l:List Ps):∀(st:List Ps) (q:Ps),q∈l.foldl d5 st→q∈st∨q∈l:=by
 induction l with
 | nil=>intro st q h;exact .inl h
 | cons a l ih=>
   intro st q h;rcases ih _ _ h with h | h
   ·rcases Gn _ _ _ h with h | rfl
    ·exact .inl h
    ·exact .inr (by simp)
   ·exact .inr (by simp[h])
theorem Gp(st:List Ps)(p:Ps):(d5 st p).length≤st.length+1:=by
 rcases List.eq_nil_or_concat st with rfl | ⟨s,x,rfl⟩
 ·rw[oK];simp
 ·rw[List.concat_eq_append,kZ];split
  ·simp;omega
  ·simp
theorem Bk(l:List Ps):∀st:List Ps,(l.foldl d5 st).length≤st.length+l.length:=by
 induction l with
 | nil=>intro st;simp
 | cons a l ih=>
   intro st;have h1:=ih (d5 st a);have h2:=Gp st a;rw[List.foldl_cons,List.length_cons];omega
theorem Bq{H:Heap}{b e cap lo:Nat}{st:List Ps}(ho:Own H b e cap st)(p:Ps)(hr:st.length+1≤cap)(hlo:lo≤b):
  ∃H4,ev1 (.append e 4 24) [.slice b 0 st.length cap true,.slice H.n 0 1 1 true] lo (H.new (.cells false e 4 (Cell.cs p)))=some (.slice b 0 (st.length+1) cap true,H4)∧(∀n0,n0≤b→Keep n0 H H4)∧Own H4 b e cap (st++[p]):=by
 have ho1:=ho.keep (.new _ (.cells false e 4 (Cell.cs p)));obtain⟨H4,e1,n1,k1,o1⟩:=ca (ex:=true) (m:=[p]) (v:=.sl H.n 0 1 1 true) ho1 ((oN mE p).sl true) mE 24 lo hr hlo;exact⟨H4,e1,fun n0 hn0=>(Keep.new _ _).trans ⟨by omega,fun x h1 h2=>k1 x (by omega)⟩,o1⟩
theorem wz{v:SV}{l:List Ps}{H:Heap}{lo:Nat}{Q:Out→Heap→Prop}(hv:Sl H v l)(hl:l.length≤1000000)(hlo:lo≤H.n)
  (h:∀H' b,Keep H.n H H'→H.n≤b→Own H' b 196 l.length l→Q (.val (SV.sl b 0 l.length l.length true).iv) H'):W E0 lo (.call 196 [v.iv]) H Q:=by
 refine W.pure aX hlo ?_;rw[Xn];obtain⟨H2,e1,e2,e3,e4⟩:=gI hv (z:=4) rfl 196 H.n [IV.int .u8 0,.int .i64 0,.bool false,.int .u8 0] rfl (Nat.le_refl _);simp(disch:=omega) only[ai,↓ah,seval,YB,↓hv.ln,↓e1,Int.reducePow];exact fun hk=>h _ _ hk (Nat.le_refl _) e4
def Zc(p:Ps):Ps:=⟨p.id,p.front,1 - p.dir⟩
theorem K0(l:List Hd)(a b:Int):∀p∈rc l a b,p.dir=if b>a then 1 else 0:=by
 have key:∀(l:List Hd) (x y d:Int),∀p∈mr l x y d,p.dir=d:=fun l x y d p hp=>by
  unfold mr at hp;obtain⟨h,_,rfl⟩:=List.mem_map.1 hp;rfl
 intro p hp;unfold rc at hp;split at hp
 ·rename_i h;rw[if_pos h];exact key _ _ _ _ _ hp
 ·rename_i h;rw[if_neg h];exact key _ _ _ _ _ (List.mem_reverse.1 hp)
theorem KZ(l:List Hd)(a b:Int):(rc l a b).length≤l.length:=by
 unfold rc;split
 ·exact nW _ _ _ _
 ·rw[List.length_reverse];exact nW _ _ _ _
def Zy(a b:Int)(l:List Hd):List Hd:=if b>a then l else l.reverse
end Go.Iso.Gen
end
