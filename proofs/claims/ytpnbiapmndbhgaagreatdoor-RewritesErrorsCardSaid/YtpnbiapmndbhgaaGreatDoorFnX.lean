/-
  what is told of programs.
-/
import Derived.Test.YtpnbiapmndbhgaaGreatDoorFnW
import Derived.Test.YtpnbiapmndbhgaaGreatDoorFnUb
import Derived.Test.YtpnbiapmndbhgaaGreatDoorFnU
import Derived.Test.YtpnbiapmndbhgaaGreatDoorIsoP7
import Derived.Test.YtpnbiapmndbhgaaGreatDoorFnV
import Derived.Test.YtpnbiapmndbhgaaGreatDoorFnT
set_option linter.unusedSimpArgs false
set_option linter.unusedVariables false
set_option maxHeartbeats 8000000
set_option maxRecDepth 10000
set_option linter.defProp false
section
namespace Go.Iso.Gen
open Go.Iso Go.Proofs
structure Bf where
 r:Int
 p:Int
 a:Bool
 deriving Inhabited,DecidableEq
instance:Cell Bf where
 z:=3
 cs b:=[.int .i64 b.r,.int .i64 b.p,.bool b.a]
 len _:=rfl
 one _:=rfl
 pos:=by omega
theorem SH(b:Bf):Cell.cs b=[.int .i64 b.r,.int .i64 b.p,.bool b.a]:=rfl
theorem HL:Cell.z Bf=3:=rfl
theorem pc{H:Heap}{v:SV}{l:List Opn}(h:Sl H v l)(i:Nat)(hi:i < l.length):
  H.read v.blk (v.off+i*6) 6=some [.int .u8 l[i].k,.int .u8 l[i].d,.int .u8 l[i].b,.int .i64 l[i].a,.int .u8 l[i].y,.int .i64 l[i].r]∧H.read v.blk (v.off+i*6) 1=some [.int .u8 l[i].k]∧H.read v.blk (v.off+(i*6+1)) 1=some [.int .u8 l[i].d]∧H.read v.blk (v.off+(i*6+2)) 2=some [.int .u8 l[i].b,.int .i64 l[i].a]∧H.read v.blk (v.off+(i*6+4)) 1=some [.int .u8 l[i].y]∧H.read v.blk (v.off+(i*6+5)) 1=some [.int .i64 l[i].r]:=by
 have r:=h.read jP i hi;rw[An] at r;refine⟨r,ew (a:=0) (m:=1) r (by omega),?_,?_,?_,?_⟩<;>rw[←Nat.add_assoc]
 ·exact ew (a:=1) (m:=1) r (by omega)
 ·exact ew (a:=2) (m:=2) r (by omega)
 ·exact ew (a:=4) (m:=1) r (by omega)
 ·exact ew (a:=5) (m:=1) r (by omega)
theorem K6{H:Heap}{v:SV}{l:List Bf}(h:Sl H v l)(i:Nat)(hi:i < l.length):
  H.read v.blk (v.off+i*3) 3=some [.int .i64 l[i].r,.int .i64 l[i].p,.bool l[i].a]∧H.read v.blk (v.off+i*3) 1=some [.int .i64 l[i].r]∧H.read v.blk (v.off+(i*3+1)) 1=some [.int .i64 l[i].p]∧H.read v.blk (v.off+(i*3+2)) 1=some [.bool l[i].a]:=by
 have r:=h.read HL i hi;rw[SH] at r;refine⟨r,ew (a:=0) (m:=1) r (by omega),?_,?_⟩<;>rw[←Nat.add_assoc]
 ·exact ew (a:=1) (m:=1) r (by omega)
 ·exact ew (a:=2) (m:=1) r (by omega)
def wP(b:Bf):Prop:= -4≤b.r∧b.r≤4
def yp(f:Nat):Prop:=∀{v w:SV} {l:List Opn} {bs:List Bf} {H:Heap} {i:Nat} {lo:Nat} {Q:Out→Heap→Prop},Sl H v l→Sl H w bs→bs.length=l.length→l.length≤100→(∀b∈bs,wP b)→(∀o∈l,zH o=0)→i < l.length→lo≤H.n→
 (∀H' (r:Nat),Keep H.n H H'→(r=0∨i < r∧r≤l.length)→Q (.val (.int .i64 r)) H')→W E0 lo (.call f [v.iv,w.iv,.int .i64 i]) H Q
theorem q0{Q:Out→Heap→Prop}{H':Heap}{i n:Nat}{H:Heap}(h:∀H' (r:Nat),Keep H.n H H'→(r=0∨i < r∧r≤n)→Q (.val (.int .i64 r)) H')(k:Keep H.n H H'):Q (.val (.int .i64 0)) H':=h H' 0 k (.inl rfl)
theorem IG:yp 100:=by
 intro v w l bs H i lo Q hv hw hb hl hok hop hi hlo h;refine W.pure aX hlo ?_;rw[Yj];have r1:=pc hv i hi;have r2:=K6 hw i (by omega);generalize l[i]=o at r1;generalize bs[i]'(by omega)=b at r2;have iv:=hv.idx;have iw:=hw.idx;rw[hb] at iw;by_cases h3:o.k=3
 ·by_cases hr:o.r=b.r
  ·simp(disch:=omega) only[ai,↓ah,seval,RP,↓iv,↓iw,r1,r2,h3,hr,ak,↓FR,FW]
   exact fun k=>h _ (i+1) k (.inr ⟨by omega,by omega⟩)
  ·simp(disch:=omega) only[ai,↓ah,seval,RP,↓iv,↓iw,r1,r2,h3,hr,ak,↓FR,FW]
   exact fun k=>q0 h k
 ·simp(disch:=omega) only[ai,↓ah,seval,RP,↓iv,↓iw,r1,r2,h3,ak,↓FR,FW]
  exact fun k=>q0 h k
theorem Gm:yp 101:=by
 intro v w l bs H i lo Q hv hw hb hl hok hop hi hlo h;refine W.pure aX hlo ?_;rw[Yi];have r1:=pc hv i hi;generalize l[i]=o at r1;have iv:=hv.idx;by_cases h3:o.k=3
 ·by_cases h1:i+1 < l.length
  ·have r2:=pc hv (i+1) h1;generalize l[i+1]=o2 at r2;by_cases h4:o2.k=3
   ·simp(disch:=omega) only[ai,↓ah,seval,Pi,↓iv,↓hv.ln,r1,r2,h3,h4,show((i:Int)+1).toNat=i+1 by omega,ak,↓FR,FW]
    exact fun k=>h _ (i+1) k (.inr ⟨by omega,by omega⟩)
   ·simp(disch:=omega) only[ai,↓ah,seval,Pi,↓iv,↓hv.ln,r1,r2,h3,h4,show((i:Int)+1).toNat=i+1 by omega,ak,↓FR,FW]
    exact fun k=>q0 h k
  ·simp(disch:=omega) only[ai,↓ah,seval,Pi,↓iv,↓hv.ln,r1,h3,h1,ak,↓FR,FW]
   exact fun k=>q0 h k
 ·simp(disch:=omega) only[ai,↓ah,seval,Pi,↓iv,↓hv.ln,r1,h3,ak,↓FR,FW]
  exact fun k=>q0 h k
theorem G9:yp 104:=by
 intro v w l bs H i lo Q hv hw hb hl hok hop hi hlo h;refine W.pure aX hlo ?_;rw[Yf];have r1:=pc hv i hi;generalize l[i]=o at r1;have iv:=hv.idx;by_cases h3:o.k=1
 ·by_cases h1:i+1 < l.length
  ·have r2:=pc hv (i+1) h1;generalize l[i+1]=o2 at r2;have r3:=pc (hv.keep (Keep.newPut (H:=H) (o:=.cells false 56 6 [.int .u8 0,.int .u8 0,.int .u8 0,.int .i64 0,.int .u8 0,.int .i64 0]) (o':=.cells false 56 6 [.int .u8 o2.k,.int .u8 o2.d,.int .u8 o2.b,.int .i64 o2.a,.int .u8 o2.y,.int .i64 o2.r]))) i hi;have hbl:=hv.blk_lt (show l≠[] by rintro rfl;simp at hi);simp(disch:=omega) only[ai,↓ah,seval,EM,EL,EK,EJ,EI,EH,(ax Tryz.f104 1),Lx,↓iv,↓hv.ln,r1,r2,h3,show((i:Int)+1).toNat=i+1 by omega,ak,↓FR,FW];generalize hH:Heap.put _ _ _=H1;rw[hH] at r3;generalize l[i]=o1 at r3;have gN:=congrArg (fun h0=>Heap.get h0 H.n) hH.symm;simp(disch:=omega) only[ai,↓ah,seval] at gN;have rN:=ae gN;have kN:Keep H.n H H1:=by rw[←hH];exact Keep.newPut
   have hn1:H1.n=H.n+1:=by rw[←hH];rfl
   clear hH;by_cases h4:o2.k=2
   ·by_cases h5:o2.y=o1.y
    ·simp(disch:=omega) only[ai,↓ah,seval,LR,↓iv,r3,rN,h4,h5,ak,↓FR,FW]
     exact fun k=>h _ (i+2) k (.inr ⟨by omega,by omega⟩)
    ·simp(disch:=omega) only[ai,↓ah,seval,LR,↓iv,r3,rN,h4,h5,ak,↓FR,FW]
     exact fun k=>q0 h k
   ·simp(disch:=omega) only[ai,↓ah,seval,LR,↓iv,r3,rN,h4,ak,↓FR,FW]
    exact fun k=>q0 h k
  ·simp(disch:=omega) only[ai,↓ah,seval,LR,↓iv,↓hv.ln,r1,h3,h1,ak,↓FR,FW]
   exact fun k=>q0 h k
 ·simp(disch:=omega) only[ai,↓ah,seval,LR,↓iv,↓hv.ln,r1,h3,ak,↓FR,FW]
  exact fun k=>q0 h k
theorem Sh{o:Opn}(h:zH o=0):0≤o.y∧o.y≤6:=by
 unfold zH at h
 have hp:ay o=true:=by
  cases e:ay o
  ·rw[e,if_pos rfl] at h;omega
  ·rfl
 unfold ay at hp;rcases vc o.k with e | e | e | e | e | e<;>rw[e] at hp<;>simp at hp<;>omega
def NM(es:List (IV×IV×Nat)):Prop:=∀e∈es,∃(b a:Int) (v:Bool),e.1=.agg [.int .u8 b,.int .i64 a]∧e.2.1=.bool v
theorem Sm(b a b' a':Int):∃r,dU (true,[.int,.int]) (.agg [.int .u8 b,.int .i64 a]) (.agg [.int .u8 b',.int .i64 a'])=some r:=⟨_,rfl⟩
theorem NM.find:∀{es:List (IV×IV×Nat)} (h:NM es) (b a:Int) (i:Nat),∃r,aF (true,[Pk.int,Pk.int]) (.agg [.int .u8 b,.int .i64 a]) es i=some r∧∀j v,r=some (j,v)→∃n:Bool,v=.bool n
 | [],_,b,a,i=>⟨none,rfl,fun _ _ h=>by cases h⟩
 | (k,v,s)::es,h,b,a,i=>by
   obtain⟨b0,a0,n0,h1,h2⟩:=h _ List.mem_cons_self;have h1:k=.agg [.int .u8 b0,.int .i64 a0]:=h1;have h2:v=.bool n0:=h2;subst h1 h2;obtain⟨r,hr⟩:=Sm b a b0 a0
   cases r with
   | true=>
     refine⟨some (i,.bool n0),?_,fun j v e=>by injection e with e;injection e with _ e;exact⟨n0,e.symm⟩⟩
     simp only[aF,hr]
   | false=>
     obtain⟨r,h3,h4⟩:=NM.find (es:=es) (fun e he=>h e (List.mem_cons_of_mem _ he)) b a (i+1);refine⟨r,?_,h4⟩;simp only[aF,hr];exact h3
def MapNM(H:Heap)(mb:Nat):Prop:=∃es c,H.get mb=some (.map es c)∧NM es
theorem JP(b a:Int):bS (true,[Pk.int,Pk.int]) (.agg [.int .u8 b,.int .i64 a])=true:=rfl
theorem MapNM.look{H:Heap}{mb:Nat}(h:MapNM H mb)(b a:Int)(t lo:Nat):∃v:Bool,ev1 (.lookup t (true,[.int,.int]) (.bool false) false) [.map mb,.agg [.int .u8 b,.int .i64 a]] lo H=some (.bool v,H):=by
 obtain⟨es,c,hg,h⟩:=h;obtain⟨r,h1,h2⟩:=h.find b a 0;simp only[ev1,az,hg,Option.map_some,JP,if_true,h1]
 cases r with
 | none=>exact⟨false,rfl⟩
 | some p=>
   obtain⟨j,v⟩:=p;obtain⟨n,rfl⟩:=h2 j v rfl;exact⟨n,rfl⟩
theorem NM.set{es:List (IV×IV×Nat)}(h:NM es)(b a:Int)(n:Bool):∀i,NM (bP (.agg [.int .u8 b,.int .i64 a]) (.bool n) es i):=by
 induction es with
 | nil=>intro i;exact h
 | cons e es ih=>
   intro i x hx;obtain⟨k,v,s⟩:=e
   cases i with
   | zero=>
     simp only[bP,List.mem_cons] at hx;rcases hx with rfl | hx
     ·exact⟨b,a,n,rfl,rfl⟩
     ·exact h x (List.mem_cons_of_mem _ hx)
   | succ i=>
     simp only[bP,List.mem_cons] at hx;rcases hx with rfl | hx
     ·exact h _ List.mem_cons_self
     ·exact ih (fun e he=>h e (List.mem_cons_of_mem _ he)) i x hx
theorem MapNM.upd{H:Heap}{mb:Nat}(h:MapNM H mb)(b a:Int)(n:Bool)(lo:Nat)(hlo:lo≤mb):∃o,ev1 (.mapUpd (true,[.int,.int])) [.map mb,.agg [.int .u8 b,.int .i64 a],.bool n] lo H=some (IV.undef,H.put mb o)∧MapNM (H.put mb o) mb:=by
 obtain⟨es,c,hg,h⟩:=h;obtain⟨r,h1,h2⟩:=h.find b a 0;simp only[ev1,az,hg,JP,hlo,and_self,if_true,h1]
 cases r with
 | none=>exact⟨_,rfl,_,_,by rw[aa,if_pos rfl],fun e he=>by
   rcases List.mem_append.1 he with he | he
   ·exact h e he
   ·rw[List.mem_singleton.1 he];exact⟨b,a,n,rfl,rfl⟩⟩
 | some p=>exact⟨_,rfl,_,_,by rw[aa,if_pos rfl],h.set b a n p.1⟩
theorem MapNM.del{H:Heap}{mb:Nat}(h:MapNM H mb)(b a:Int)(lo:Nat)(hlo:lo≤mb):∃H',ev1 (.delete (true,[.int,.int])) [.map mb,.agg [.int .u8 b,.int .i64 a]] lo H=some (IV.undef,H')∧MapNM H' mb∧KeepO [mb] H H':=by
 obtain⟨es,c,hg,h⟩:=h;obtain⟨r,h1,h2⟩:=h.find b a 0;simp only[ev1,az,hg,JP,hlo,and_self,if_true,h1]
 cases r with
 | none=>exact⟨H,rfl,⟨es,c,hg,h⟩,KeepO.refl _ _⟩
 | some p=>exact⟨_,rfl,⟨_,_,by rw[aa,if_pos rfl],fun e he=>h e ((iI es p.1).subset he)⟩,KeepO.put (by simp)⟩
theorem MapNM.same{H H':Heap}{mb:Nat}(h:MapNM H mb)(hg:H'.get mb=H.get mb):MapNM H' mb:=by
 obtain⟨es,c,h1,h2⟩:=h;exact⟨es,c,hg.trans h1,h2⟩
structure FwOk(n:Nat)(H:Heap)(b pb mb:Nat)(bs:List Bf):Prop where
 own:Own H b 180 n bs
 len:bs.length=n
 pl:NZ 7 H pb 96
 mp:MapNM H mb
 ok:∀x∈bs,wP x
theorem FwOk.same{n:Nat}{H H':Heap}{b pb mb:Nat}{bs:List Bf}(h:FwOk n H b pb mb bs)(hn:H.n≤H'.n)(hg:∀x,x=b∨x=pb∨x=mb→H'.get x=H.get x):FwOk n H' b pb mb bs:=
 ⟨h.own.same hn (hg b (.inl rfl)),h.len,h.pl.same (hg pb (.inr (.inl rfl))),h.mp.same (hg mb (.inr (.inr rfl))),h.ok⟩
theorem FwOk.cell{n:Nat}{H:Heap}{b pb mb:Nat}{bs:List Bf}(h:FwOk n H b pb mb bs)(i f:Nat)(hi:i < n)(hf:f < 3)(x:IV)(hx:IV.one x=true)(a:Bf)(hc:Cell.cs a=(Cell.cs (bs[i]'(by rw[h.len];exact hi))).set f x)(ha:wP a)(h1:b≠pb)(h2:b≠mb){lo:Nat}(hlo:lo≤b):
  ∃o,H.write lo b (i*3+f) [x]=some (H.put b o)∧FwOk n (H.put b o) b pb mb (bs.set i a):=by
 obtain⟨o,hw,ho⟩:=h.own.cell HL i f (by rw[h.len];exact hi) hf x hx a hc lo hlo;refine⟨o,hw,ho,by rw[List.length_set];exact h.len,h.pl.same (by rw[aa,if_neg h1]),h.mp.same (by rw[aa,if_neg h2]),fun y hy=>?_⟩;rcases List.mem_or_eq_of_mem_set hy with hy | rfl
 ·exact h.ok y hy
 ·exact ha
theorem FwOk.place{n:Nat}{H:Heap}{b pb mb:Nat}{bs:List Bf}(h:FwOk n H b pb mb bs)(i:Nat)(hi:i < 7)(m:Int)(h1:b≠pb)(h2:mb≠pb){lo:Nat}(hlo:lo≤pb):
  ∃o,H.write lo pb i [.int .i64 m]=some (H.put pb o)∧FwOk n (H.put pb o) b pb mb bs:=by
 obtain⟨o,hw,ho⟩:=h.pl.write i hi m hlo;exact⟨o,hw,h.own.same (by rw[af];exact Nat.le_refl _) (by rw[aa,if_neg (Ne.symm h1)]),h.len,ho,h.mp.same (by rw[aa,if_neg (Ne.symm h2)]),h.ok⟩
theorem FwOk.mark{n:Nat}{H:Heap}{b pb mb:Nat}{bs:List Bf}(h:FwOk n H b pb mb bs)(nb na:Int)(v:Bool)(h1:b≠mb)(h2:mb≠pb){lo:Nat}(hlo:lo≤mb):
  ∃o,ev1 (.mapUpd (true,[.int,.int])) [.map mb,.agg [.int .u8 nb,.int .i64 na],.bool v] lo H=some (IV.undef,H.put mb o)∧FwOk n (H.put mb o) b pb mb bs:=by
 obtain⟨o,hw,ho⟩:=h.mp.upd nb na v lo hlo;exact⟨o,hw,h.own.same (by rw[af];exact Nat.le_refl _) (by rw[aa,if_neg (Ne.symm h1)]),h.len,h.pl.same (by rw[aa,if_neg h2]),ho,h.ok⟩
theorem FwOk.del{n:Nat}{H:Heap}{b pb mb:Nat}{bs:List Bf}(h:FwOk n H b pb mb bs)(hb:b < H.n)(hp:pb < H.n)(nb na:Int)(h1:b≠mb)(h2:mb≠pb){lo:Nat}(hlo:lo≤mb):
  ∃H',ev1 (.delete (true,[.int,.int])) [.map mb,.agg [.int .u8 nb,.int .i64 na]] lo H=some (IV.undef,H')∧FwOk n H' b pb mb bs∧KeepO [mb] H H':=by
 obtain⟨H',hw,ho,hk⟩:=h.mp.del nb na lo hlo;exact⟨H',hw,⟨h.own.same hk.1 (hk.2 b hb (by simpa using h1)),h.len,h.pl.same (hk.2 pb hp (by simpa using Ne.symm h2)),ho,h.ok⟩,hk⟩
def Fm(tm:List IV)(h:tm.length=115):=(bL tm 115 h).trans (by simp only[List.range,List.range.loop,List.map_cons,List.map_nil];exact rfl)
theorem xU{v:SV}{l:List Opn}{H:Heap}(hv:Sl H v l)(hl:l.length≤100)(hop:∀o∈l,zH o=0){lo:Nat}{Q:Out→Heap→Prop}(hlo:lo≤H.n)
  (hq:∀H' b bs,Keep H.n H H'→H.n≤b→Own H' b 180 l.length bs→bs.length=l.length→(∀x∈bs,wP x)→Q (.val (.slice b 0 l.length l.length true)) H'):
  W E0 lo (.call 46 [v.iv]) H Q:=by
 refine W.pure aX hlo ?_;rw[c46];obtain⟨n,hn⟩:∃n,n=l.length:=⟨_,rfl⟩;have hln:=hv.ln;rw[←hn] at hln hq hl;simp(disch:=omega) only[ai,↓ah,seval,Zs,↓hln,ak,↓FR,FW];obtain⟨b,hb⟩:∃b,b=H.n:=⟨_,rfl⟩;obtain⟨pb,hpb⟩:∃pb,pb=H.n+1:=⟨_,rfl⟩;obtain⟨mb,hmb⟩:∃mb,mb=H.n+2:=⟨_,rfl⟩;have hO:Own (H.new (.cells false 180 3 (iU n [.int .i64 0,.int .i64 0,.bool false]))) H.n 180 n (List.replicate n (⟨0,0,false⟩:Bf)):=Own.mksl HL ⟨0,0,false⟩;generalize hH_H1:Heap.new _ _=H1;have hnH1:H1.n=H.n+3:=by rw[←hH_H1];rfl
 have g0:=congrArg (fun h0=>Heap.get h0 (H.n)) hH_H1.symm;simp(disch:=omega) only[ai,↓ah,seval] at g0;have g1:=congrArg (fun h0=>Heap.get h0 (H.n+1)) hH_H1.symm;simp(disch:=omega) only[ai,↓ah,seval] at g1;have g2:=congrArg (fun h0=>Heap.get h0 (H.n+2)) hH_H1.symm;simp(disch:=omega) only[ai,↓ah,seval] at g2
 have kH1:Keep H.n H H1:=⟨by omega,fun x hx _=>by
  have gx:=congrArg (fun h0=>Heap.get h0 x) hH_H1.symm;simp(disch:=omega) only[ai,↓ah,seval] at gx;exact gx⟩
 clear hH_H1;rw[←hpb,←hmb,←hb];rw[←hb] at g0;rw[←hpb] at g1;rw[←hmb] at g2;rw[←hb] at hO
 have hf1:FwOk n H1 b pb mb (List.replicate n (⟨0,0,false⟩:Bf)):=by
  refine⟨hO.same (by rw[ac];omega) (by rw[g0,hb,aj,if_pos rfl]),List.length_replicate,⟨_,g1,rfl,fun i hi=>?_⟩,⟨[],0,g2,fun e he=>by cases he⟩,fun x hx=>?_⟩
  ·rcases(by omega:i=0∨i=1∨i=2∨i=3∨i=4∨i=5∨i=6) with h | h | h | h | h | h | h<;>subst h<;>exact⟨_,rfl⟩
  ·rw[List.eq_of_mem_replicate hx];exact⟨by decide,by decide⟩
 have hv1:=hv.keep kH1;clear hO g0 g1 g2 hln
 refine aM (fun k fr H'=>∃(i:Nat) (rk:Int) (bs:List Bf),i+k=n∧ -4≤rk∧rk≤4∧FwOk n H' b pb mb bs∧KeepO [b,pb,mb] H1 H'∧fr.marks=[]∧fr.tm.length=115∧fr.tm.getD 3 IV.undef=.slice b 0 n n true∧fr.tm.getD 4 IV.undef=.int .i64 rk∧fr.tm.getD 5 IV.undef=.ptr pb 0∧fr.tm.getD 6 IV.undef=.map mb∧fr.tm.getD 15 IV.undef=v.iv∧fr.tm.getD 16 IV.undef=.int .i64 n∧fr.tm.getD 17 IV.undef=.int .i64 i) ?_ n
  ⟨0,0,_,by omega,by omega,by omega,hf1,KeepO.refl _ _,rfl,rfl,rfl,rfl,rfl,rfl,rfl,rfl,rfl⟩
 clear hf1;rintro k ⟨tm,mk⟩ H' ⟨i,rk,bs,hik,hrk1,hrk2,hf,hk,rfl,htm,t3,t4,t5,t6,t15,t16,t17⟩ L1 hN hJ;have hn':=hk.1;have hlow:∀x,x < b→H'.get x=H1.get x:=fun x hx=>hk.2 x (by omega) (by simp;omega);have hv':Sl H' v l:=hv1.same hn' fun hne=>hlow _ (by have:=hv.blk_lt hne;omega);rw[Fm tm htm,t3,t4,t5,t6,t15,t16,t17];by_cases hi:i < n
 ·have r1:=hv'.read jP i (by omega);have hoe:=hop _ (List.getElem_mem (show i < l.length by omega));obtain⟨q1,q2,q3,q4,q5,q6,q7,q8⟩:=zG hoe;obtain⟨y1,y2⟩:=Sh hoe;generalize hoo:l[i]'(by omega)=o at r1 q1 q2 q3 q4 q5 q6 q7 q8 y1 y2;clear hoo hoe;obtain⟨j,hj,hjy⟩:∃j:Nat,j < 7∧o.y=(j:Int):=⟨o.y.toNat,by omega,by omega⟩;rw[An,hjy] at r1;have iv:=hv'.idx;rw[←hn] at iv;have kN:Keep H'.n H' ((H'.new (.cells false 56 6 [.int .u8 0,.int .u8 0,.int .u8 0,.int .i64 0,.int .u8 0,.int .i64 0])).put H'.n (.cells false 56 6 [.int .u8 o.k,.int .u8 o.d,.int .u8 o.b,.int .i64 o.a,.int .u8 (j:Int),.int .i64 o.r])):=Keep.newPut;have gN:((H'.new (.cells false 56 6 [.int .u8 0,.int .u8 0,.int .u8 0,.int .i64 0,.int .u8 0,.int .i64 0])).put H'.n (.cells false 56 6 [.int .u8 o.k,.int .u8 o.d,.int .u8 o.b,.int .i64 o.a,.int .u8 (j:Int),.int .i64 o.r])).get H'.n=some (.cells false 56 6 [.int .u8 o.k,.int .u8 o.d,.int .u8 o.b,.int .i64 o.a,.int .u8 (j:Int),.int .i64 o.r]):=by rw[aa,if_pos rfl]
  have hnN:((H'.new (.cells false 56 6 [.int .u8 0,.int .u8 0,.int .u8 0,.int .i64 0,.int .u8 0,.int .i64 0])).put H'.n (.cells false 56 6 [.int .u8 o.k,.int .u8 o.d,.int .u8 o.b,.int .i64 o.a,.int .u8 (j:Int),.int .i64 o.r])).n=H'.n+1:=rfl;simp(maxSteps:=4000000) (disch:=omega) only[ai,↓ah,seval,jo,jn,jm,jl,jk,jj,ji,jh,kl,iu,fQ,fP,fN,fM,fK,fJ,fI,fH,fG,fF,fE,fD,iq,fC,iZ,fB,fA,fy,iY,fw,ip,im,fu,ft,fq,(bj Tryz.f46 607),fl,(ax Tryz.f46 1),FI,↓iv,r1,ak,↓FR,FW];generalize Heap.put _ _ _=HN at kN gN hnN⊢;have hfN:=hf.same kN.1 fun x hx=>kN.2 x (by omega) (by omega);have hbl:=hfN.len;obtain⟨o1,w1,hf2⟩:=hfN.cell i 0 hi (by omega) (.int .i64 rk) rfl ⟨rk,bs[i].p,bs[i].a⟩ rfl ⟨hrk1,hrk2⟩ (by omega) (by omega) (lo:=b) (by omega);have idb:=(hfN.own.sl true).idx;rw[hbl] at idb;rw[Nat.add_zero] at w1;simp(maxSteps:=4000000) (disch:=omega) only[LK,↓ah,seval,jo,jn,jm,jl,jk,jj,ji,jh,km,iu,fQ,fP,fN,fM,fK,fJ,fI,fH,fG,fF,fE,fD,iq,fC,iZ,fB,fA,fy,iY,fw,ip,im,fu,ft,fq,(bj Tryz.f46 607),fl,(ax Tryz.f46 1),FI,↓idb,w1,ak,↓FR,FW];have g2:(HN.put b o1).get H'.n=_:=(by rw[aa,if_neg (by omega)]:(HN.put b o1).get H'.n=HN.get H'.n).trans gN;have hn2:(HN.put b o1).n=HN.n:=rfl;have k2:KeepO [b,pb,mb] H' (HN.put b o1):=(KeepO.of kN).trans (KeepO.put (ow:=[b,pb,mb]) (by simp)) fun x hx=>.inl hx;generalize HN.put b o1=H2 at hf2 g2 hn2 k2⊢;generalize bs.set i _=bs2 at hf2;have hbl2:=hf2.len;have ok2:=hf2.ok _ (List.getElem_mem (show i < bs2.length by omega));obtain⟨m,rm⟩:=hf2.pl.read (j*1) (by omega);obtain⟨o2,w2,hf3⟩:=hf2.cell i 1 hi (by omega) (.int .i64 m) rfl ⟨(bs2[i]'(by omega)).r,m,(bs2[i]'(by omega)).a⟩ rfl ⟨ok2.1,ok2.2⟩ (by omega) (by omega) (lo:=b) (by omega);have idb2:=(hf2.own.sl true).idx;rw[hbl2] at idb2;have r2:=ae g2;simp(maxSteps:=4000000) (disch:=omega) only[LK,↓ah,seval,jo,jn,jm,jl,jk,jj,ji,jh,km,kl,fQ,fP,fN,fM,fK,fJ,fI,fH,fG,fF,fE,fD,iq,fC,iZ,fB,fA,fy,iY,fw,ip,im,fu,ft,fq,(bj Tryz.f46 607),fl,(ax Tryz.f46 1),FI,↓idb2,r2,rm,w2,ak,↓FR,FW];generalize bs2.set i _=bs3 at hf3;have hbl3:=hf3.len;have g3:(H2.put b o2).get H'.n=_:=(by rw[aa,if_neg (by omega)]:(H2.put b o2).get H'.n=H2.get H'.n).trans g2;have hn3:(H2.put b o2).n=H2.n:=rfl;have k3:KeepO [b,pb,mb] H' (H2.put b o2):=k2.trans (KeepO.put (ow:=[b,pb,mb]) (by simp)) fun x hx=>.inl hx;generalize H2.put b o2=H3 at hf3 g3 hn3 k3⊢;have r3:=ae g3;have kk3:KeepO [b,pb,mb] H1 H3:=hk.trans k3 fun x hx=>.inl hx;clear hf2 g2 k2 rm w2 idb2 r2 hfN idb w1 kN gN iv r1 hv';rcases(by omega:o.k=1∨o.k=2∨o.k=3∨(o.k=4∨o.k=5∨o.k=6)∨o.k=7∨o.k=8) with h1 | h1 | h1 | h1 | h1 | h1
  ·obtain⟨x1,z1,hf4⟩:=hf3.place (j*1) (by omega) (-13) (by omega) (by omega) (lo:=b) (by omega);by_cases hd1:o.d=1
   ·obtain⟨x2,z2,hf5⟩:=hf4.place (j*1) (by omega) 179 (by omega) (by omega) (lo:=b) (by omega);have r4:=ae (show(H3.put pb x1).get H'.n=_ by rw[aa,if_neg (by omega)];exact g3);simp(maxSteps:=4000000) (disch:=omega) only[LK,↓ah,seval,tA,r3,r4,h1,hd1,z1,z2,ak,↓FR,FW];exact hN (k - 1) _ _ (by omega) ⟨i+1,rk,_,by omega,hrk1,hrk2,hf5,(kk3.trans (KeepO.put (ow:=[b,pb,mb]) (by simp)) fun x hx=>.inl hx).trans (KeepO.put (by simp)) fun x hx=>.inl hx,rfl,rfl,rfl,rfl,rfl,rfl,rfl,rfl,rfl⟩
   ·have r4:=ae (show(H3.put pb x1).get H'.n=_ by rw[aa,if_neg (by omega)];exact g3);simp(maxSteps:=4000000) (disch:=omega) only[LK,↓ah,seval,tA,r3,r4,h1,hd1,z1,ak,↓FR,FW];exact hN (k - 1) _ _ (by omega) ⟨i+1,rk,_,by omega,hrk1,hrk2,hf4,kk3.trans (KeepO.put (ow:=[b,pb,mb]) (by simp)) fun x hx=>.inl hx,rfl,rfl,rfl,rfl,rfl,rfl,rfl,rfl,rfl⟩
  ·obtain⟨x1,z1,hf4⟩:=hf3.place (j*1) (by omega) 0 (by omega) (by omega) (lo:=b) (by omega);simp(maxSteps:=4000000) (disch:=omega) only[LK,↓ah,seval,tA,r3,h1,z1,ak,↓FR,FW];exact hN (k - 1) _ _ (by omega) ⟨i+1,rk,_,by omega,hrk1,hrk2,hf4,kk3.trans (KeepO.put (ow:=[b,pb,mb]) (by simp)) fun x hx=>.inl hx,rfl,rfl,rfl,rfl,rfl,rfl,rfl,rfl,rfl⟩
  ·simp(maxSteps:=4000000) (disch:=omega) only[ai,↓ah,seval,tA,r3,h1,ak,↓FR,FW]
   exact hN (k - 1) _ _ (by omega) ⟨i+1,o.r,_,by omega,q1,q2,hf3,kk3,rfl,rfl,rfl,rfl,rfl,rfl,rfl,rfl,rfl⟩
  ·rcases h1 with h1 | h1 | h1<;>
   ·simp(maxSteps:=4000000) (disch:=omega) only[ai,↓ah,seval,tA,r3,h1,ak,↓FR,FW]
    refine lN o.b o.a rk (by omega) fun H4 k4=>?_;have hn4:=k4.1;have g4:=(k4.2 H'.n (by omega) (by omega)).trans g3;have hf4:=hf3.same k4.1 fun x hx=>k4.2 x (by omega) (by omega);have kk4:KeepO [b,pb,mb] H1 H4:=kk3.trans (KeepO.of (ow:=[b,pb,mb]) k4) fun x hx=>.inl hx;generalize aD o.b o.a rk=sp;obtain⟨x1,z1,hf5⟩:=hf4.place (j*1) (by omega) (IntKind.i64.wrap (sp - 1)) (by omega) (by omega) (lo:=b) (by omega);rw[h1] at g4;simp(maxSteps:=4000000) (disch:=omega) only[LK,↓ah,seval,jo,jn,jm,jl,jk,jj,ji,jh,km,kl,iu,fQ,fP,fN,fM,fK,fJ,fI,fH,fG,fF,fE,fD,fC,iZ,fB,fA,fy,iY,fw,ip,im,fu,ft,fq,(bj Tryz.f46 607),fl,(ax Tryz.f46 1),FI,h1,z1,ak,↓FR,FW];have g5:=(by rw[aa,if_neg (by omega)]:(H4.put pb x1).get H'.n=H4.get H'.n).trans g4;have hn5:(H4.put pb x1).n=H4.n:=rfl;have kk5:KeepO [b,pb,mb] H1 (H4.put pb x1):=kk4.trans (KeepO.put (ow:=[b,pb,mb]) (by simp)) fun x hx=>.inl hx;generalize H4.put pb x1=H5 at hf5 g5 hn5 kk5⊢;have r5:=ae g5;obtain⟨m5,rm5⟩:=hf5.pl.read (j*1) (by omega);obtain⟨x2,z2,hf6⟩:=hf5.place (j*1) (by omega) (IntKind.i64.wrap (m5+2)) (by omega) (by omega) (lo:=b) (by omega)
    have key:∀(H6:Heap) (fr:Fr),FwOk n H6 b pb mb bs3→KeepO [b,pb,mb] H1 H6→H6.get H'.n=H5.get H'.n→H5.n≤H6.n→fr.marks=[]→fr.tm.length=115→fr.tm.getD 8 IV.undef=.ptr H'.n 0→fr.tm.getD 3 IV.undef=.slice b 0 n n true→fr.tm.getD 4 IV.undef=.int .i64 rk→fr.tm.getD 5 IV.undef=.ptr pb 0→fr.tm.getD 6 IV.undef=.map mb→fr.tm.getD 15 IV.undef=v.iv→fr.tm.getD 16 IV.undef=.int .i64 n→fr.tm.getD 17 IV.undef=.int .i64 i→W E0 b (.code (gv Tryz.f46 771614303) none fr) H6 (kW E0 b none (.cond (.tmp 80) (gv Tryz.f46 1576920671) .skip) (pM 2 (pM 1 (kW E0 b none (gv Tryz.f46 7775) L1)))):=by
     rintro H6 ⟨tm',mk'⟩ hf6 kk6 e6 hn6 hmk htm' a8 t3 t4 t5 t6 t15 t16 t17;have hmk:mk'=[]:=hmk;subst hmk;have g6:=e6.trans g5;have r6:=ae g6;rw[Fm tm' htm',a8,t3,t4,t5,t6,t15,t16,t17]
     first
     | (obtain⟨x3,z3,hf7⟩:=hf6.mark o.b o.a true (by omega) (by omega) (lo:=b) (by omega)
        simp(maxSteps:=4000000) (disch:=omega) only[ai,↓ah,seval,tA,r6,↓z3,ak,↓FR,FW]
        exact hN (k - 1) _ _ (by omega) ⟨i+1,rk,_,by omega,hrk1,hrk2,hf7,kk6.trans (KeepO.put (ow:=[b,pb,mb]) (by simp)) fun x hx=>.inl hx,rfl,rfl,rfl,rfl,rfl,rfl,rfl,rfl,rfl⟩)
     | (simp(maxSteps:=4000000) (disch:=omega) only[ai,↓ah,seval,tA,r6,ak,↓FR,FW]
        exact hN (k - 1) _ _ (by omega) ⟨i+1,rk,_,by omega,hrk1,hrk2,hf6,kk6,rfl,rfl,rfl,rfl,rfl,rfl,rfl,rfl,rfl⟩)
    by_cases hd1:o.d=1
    ·simp(maxSteps:=4000000) (disch:=omega) only[LK,↓ah,seval,jo,jn,jm,jl,jk,jj,ji,jh,km,kl,iu,fQ,fP,fN,fM,fK,fJ,fI,fH,fG,fF,fE,fD,iq,fC,fB,fA,fy,iY,fw,ip,im,fu,ft,fq,(bj Tryz.f46 607),fl,(ax Tryz.f46 1),FI,r5,hd1,rm5,z2,ak,↓FR,FW]
     exact key _ _ hf6 (kk5.trans (KeepO.put (ow:=[b,pb,mb]) (by simp)) fun x hx=>.inl hx) (by rw[aa,if_neg (by omega)]) (Nat.le_refl _) rfl rfl rfl rfl rfl rfl rfl rfl rfl rfl
    ·simp(maxSteps:=4000000) (disch:=omega) only[ai,↓ah,seval,jo,jn,jm,jl,jk,jj,ji,jh,km,kl,iu,fQ,fP,fN,fM,fK,fJ,fI,fH,fG,fF,fE,fD,iq,fC,fB,fA,fy,iY,fw,ip,im,fu,ft,fq,(bj Tryz.f46 607),fl,(ax Tryz.f46 1),FI,r5,hd1,ak,↓FR,FW]
     exact key _ _ hf5 kk5 rfl (Nat.le_refl _) rfl rfl rfl rfl rfl rfl rfl rfl rfl rfl
  ·have hne:=q8 (.inl h1);simp(maxSteps:=4000000) (disch:=omega) only[ai,↓ah,seval,tA,r3,h1,ak,↓FR,FW];refine Dw hne ⟨hrk1,hrk2⟩ (by omega) (fun H4 k4 he=>?_) fun H4 k4 he=>?_
   ·have hn4:=k4.1;have k5:=k4.trans ((Keep.newPut (H:=H4) (o:=.cells false 54 2 [.int .u8 0,.int .i64 0]) (o':=.cells false 54 2 [.int .u8 0,.int .i64 0])).lower hn4);simp(maxSteps:=4000000) (disch:=omega) only[ai,↓ah,seval,jo,jn,jm,jl,jk,jj,ji,jh,km,kl,iu,fQ,fP,fN,fM,fK,fJ,fI,fH,fG,fF,fE,fD,iq,fC,iZ,fB,fA,fy,fw,ip,im,fu,ft,fq,(bj Tryz.f46 607),fl,(ax Tryz.f46 1),FI,ak,↓FR,FW];generalize Heap.put _ _ _=H5 at k5⊢;have hn5:=k5.1;have hf5:=hf3.same k5.1 fun x hx=>k5.2 x (by omega) (by omega);have r5:=ae ((k5.2 H'.n (by omega) (by omega)).trans g3);obtain⟨H6,z1,hf6,k6⟩:=hf5.del (by omega) (by omega) o.b o.a (by omega) (by omega) (lo:=b) (by omega);simp(maxSteps:=4000000) (disch:=omega) only[ai,↓ah,seval,tA,r5,h1,↓z1,ak,↓FR,FW];exact hN (k - 1) _ _ (by omega) ⟨i+1,rk,_,by omega,hrk1,hrk2,hf6,(kk3.trans (KeepO.of (ow:=[b,pb,mb]) k5) fun x hx=>.inl hx).trans k6 fun x hx=>.inl (by simp at hx⊢;exact .inr (.inr hx)),rfl,rfl,rfl,rfl,rfl,rfl,rfl,rfl,rfl⟩
   ·have hn4:=k4.1;have k5:=k4.trans ((Keep.newPut (H:=H4) (o:=.cells false 54 2 [.int .u8 0,.int .i64 0]) (o':=.cells false 54 2 [.int .u8 (lT o.b),.int .i64 (lU o.b o.a rk)])).lower hn4);have g5:((H4.new (.cells false 54 2 [.int .u8 0,.int .i64 0])).put H4.n (.cells false 54 2 [.int .u8 (lT o.b),.int .i64 (lU o.b o.a rk)])).get H4.n=some (.cells false 54 2 [.int .u8 (lT o.b),.int .i64 (lU o.b o.a rk)]):=by rw[aa,if_pos rfl]
    have hn5:((H4.new (.cells false 54 2 [.int .u8 0,.int .i64 0])).put H4.n (.cells false 54 2 [.int .u8 (lT o.b),.int .i64 (lU o.b o.a rk)])).n=H4.n+1:=rfl;simp(maxSteps:=4000000) (disch:=omega) only[ai,↓ah,seval,jo,jn,jm,jl,jk,jj,ji,jh,km,kl,iu,fQ,fP,fN,fM,fK,fJ,fI,fH,fG,fF,fE,fD,iq,fC,iZ,fB,fA,fy,fw,ip,im,fu,ft,fq,(bj Tryz.f46 607),fl,(ax Tryz.f46 1),FI,ak,↓FR,FW];generalize Heap.put _ _ _=H5 at k5 g5 hn5⊢;generalize lT o.b=tb at g5;generalize lU o.b o.a rk=ta at g5;have hf5:=hf3.same k5.1 fun x hx=>k5.2 x (by omega) (by omega);have hbl5:=hf5.len;have r9:=ae g5;have ok3:=hf5.ok _ (List.getElem_mem (show i < bs3.length by omega));have g8:=(k5.2 H'.n (by omega) (by omega)).trans g3;obtain⟨vb,hlk⟩:=hf5.mp.look tb ta 178 b;obtain⟨x1,z1,hf6⟩:=hf5.cell i 2 hi (by omega) (.bool (!vb)) rfl ⟨(bs3[i]'(by omega)).r,(bs3[i]'(by omega)).p,!vb⟩ rfl ⟨ok3.1,ok3.2⟩ (by omega) (by omega) (lo:=b) (by omega);have idb:=(hf5.own.sl true).idx;rw[hbl5] at idb;simp(maxSteps:=4000000) (disch:=omega) only[LK,↓ah,seval,jo,jn,jm,jl,jk,jj,ji,jh,km,kl,iu,fQ,fP,fN,fM,fK,fJ,fI,fH,fG,fF,fE,fD,iq,fC,iZ,fB,fA,fy,iY,fw,im,fu,ft,fq,(bj Tryz.f46 607),fl,(ax Tryz.f46 1),FI,h1,↓hlk,↓idb,r9,z1,ak,↓FR,FW];have g56:=(by rw[aa,if_neg (by omega)]:(H5.put b x1).get H4.n=H5.get H4.n).trans g5;have g86:=(by rw[aa,if_neg (by omega)]:(H5.put b x1).get H'.n=H5.get H'.n).trans g8;have hn6:(H5.put b x1).n=H5.n:=rfl;have k6:KeepO [b,pb,mb] H3 (H5.put b x1):=(KeepO.of k5).trans (KeepO.put (ow:=[b,pb,mb]) (by simp)) fun x hx=>.inl hx;generalize H5.put b x1=H6 at hf6 g56 g86 hn6 k6⊢;have r96:=ae g56;obtain⟨x2,z2,hf7⟩:=hf6.mark tb ta true (by omega) (by omega) (lo:=b) (by omega);simp(maxSteps:=4000000) (disch:=omega) only[ai,↓ah,seval,jo,jn,jm,jl,jk,jj,ji,jh,km,kl,iu,fQ,fP,fN,fM,fK,fJ,fI,fH,fG,fF,fE,fD,iq,fC,iZ,fB,fA,fy,iY,fw,ip,fu,ft,fq,(bj Tryz.f46 607),fl,(ax Tryz.f46 1),FI,h1,r96,↓z2,ak,↓FR,FW];have g87:=(by rw[aa,if_neg (by omega)]:(H6.put mb x2).get H'.n=H6.get H'.n).trans g86;have hn7:(H6.put mb x2).n=H6.n:=rfl;have k7:KeepO [b,pb,mb] H3 (H6.put mb x2):=k6.trans (KeepO.put (ow:=[b,pb,mb]) (by simp)) fun x hx=>.inl hx;generalize H6.put mb x2=H7 at hf7 g87 hn7 k7⊢;have r87:=ae g87;obtain⟨H8,z3,hf8,k8⟩:=hf7.del (by omega) (by omega) o.b o.a (by omega) (by omega) (lo:=b) (by omega);simp(maxSteps:=4000000) (disch:=omega) only[ai,↓ah,seval,tA,h1,r87,↓z3,ak,↓FR,FW];exact hN (k - 1) _ _ (by omega) ⟨i+1,rk,_,by omega,hrk1,hrk2,hf8,(kk3.trans k7 fun x hx=>.inl hx).trans k8 fun x hx=>.inl (by simp at hx⊢;exact .inr (.inr hx)),rfl,rfl,rfl,rfl,rfl,rfl,rfl,rfl,rfl⟩
  ·have hlt:b < H3.n∧pb < H3.n:=by omega
   obtain⟨H5,z1,hf5,k5⟩:=hf3.del hlt.1 hlt.2 o.b o.a (by omega) (by omega) (lo:=b) (by omega);simp(maxSteps:=4000000) (disch:=omega) only[ai,↓ah,seval,tA,r3,h1,↓z1,ak,↓FR,FW];exact hN (k - 1) _ _ (by omega) ⟨i+1,rk,_,by omega,hrk1,hrk2,hf5,kk3.trans k5 fun x hx=>.inl (by simp at hx⊢;exact .inr (.inr hx)),rfl,rfl,rfl,rfl,rfl,rfl,rfl,rfl,rfl⟩
 ·simp(disch:=omega) only[ai,↓ah,seval,tA,hJ,↓FR,FW]
  refine fun hkk=>hq _ _ _ (by rw[←hb];exact hkk) (by omega) hf.own hf.len hf.ok
theorem K8:yp 102:=by
 intro v w l bs H i lo Q hv hw hb hl hok hop hi hlo h;refine W.pure aX hlo ?_;rw[Yh];have r1:=pc hv i hi;have r2:=K6 hw i (by omega);obtain⟨q1,q2,q3,q4,q5,q6,q7,q8⟩:=zG (hop _ (List.getElem_mem hi));obtain⟨b1,b2⟩:=hok _ (List.getElem_mem (show i < bs.length by omega));generalize l[i]=o at r1 q1 q2 q3 q4 q5 q6 q7 q8;generalize bs[i]'(by omega)=b at r2 b1 b2;have iv:=hv.idx;have iw:=hw.idx;rw[hb] at iw;by_cases h3:o.k=7
 case neg=>
  simp(disch:=omega) only[ai,↓ah,seval,CX,↓iv,↓iw,↓hv.ln,r1,r2,h3,ak,↓FR,FW]
  exact fun k=>q0 h k
 cases ha:b.a with
 | false=>
   simp(disch:=omega) only[ai,↓ah,seval,CX,↓iv,↓iw,↓hv.ln,r1,r2,h3,ha,ak,↓FR,FW]
   exact fun k=>q0 h k
 | true=>
 by_cases h1:i+1 < l.length
 case neg=>
  have h1':(i:Int)+1=(l.length:Int):=by omega
  simp(disch:=omega) only[ai,↓ah,seval,CX,↓iv,↓iw,↓hv.ln,r1,r2,h3,ha,h1',ak,↓FR,FW]
  exact fun k=>q0 h k
 have h1':¬(i:Int)+1=(l.length:Int):=by omega
 have r3:=pc hv (i+1) h1;have hi1:((i:Int)+1).toNat=i+1:=by omega
 by_cases h4:l[i+1].k=7
 case neg=>
  simp(disch:=omega) only[ai,↓ah,seval,CX,↓iv,↓iw,↓hv.ln,r1,r2,r3,h3,h4,ha,h1',hi1,ak,↓FR,FW]
  exact fun k=>q0 h k
 simp(disch:=omega) only[ai,↓ah,seval,CX,↓iv,↓iw,↓hv.ln,r1,r2,r3,h3,h4,ha,h1',hi1,ak,↓FR,FW]
 have hne:an o.b o.a=0:=q8 (.inl h3);refine Dw hne ⟨b1,b2⟩ (by omega) (fun H2 k2 he=>?_) fun H2 k2 he=>?_
 ·have hn2:=k2.1;simp(disch:=omega) only[ai,↓ah,seval,CX,ak,↓FR,FW];exact fun k=>q0 h k
 ·have hn2:=k2.1;have r4:=pc (hv.keep (k2.trans ((Keep.newPut (H:=H2) (o:=.cells false 54 2 [.int .u8 0,.int .i64 0]) (o':=.cells false 54 2 [.int .u8 (lT o.b),.int .i64 (lU o.b o.a b.r)])).lower hn2))) (i+1) h1;simp(disch:=omega) only[ai,↓ah,seval,ES,ER,EQ,EP,EO,EN,(ax Tryz.f102 1),Lz,ak,↓FR,FW];generalize hH:Heap.put _ _ _=H3;rw[hH] at r4;have gN:=congrArg (fun h0=>Heap.get h0 H2.n) hH.symm;simp(disch:=omega) only[ai,↓ah,seval] at gN;have rN:=ae gN;have kN:Keep H2.n H2 H3:=by rw[←hH];exact Keep.newPut
  have hn1:H3.n=H2.n+1:=by rw[←hH];rfl
  clear hH;generalize l[i+1]=o2 at r4;obtain⟨r,hr⟩:∃r,hU [.int,.int] [.int .u8 o2.b,.int .i64 o2.a] [.int .u8 (lT o.b),.int .i64 (lU o.b o.a b.r)]=some r:=⟨_,rfl⟩
  cases r with
  | true=>
    simp(disch:=omega) only[ai,↓ah,seval,CX,↓iv,r4,rN,hi1,↓hr,ak,↓FR,FW]
    exact fun k=>h _ (i+2) k (.inr ⟨by omega,by omega⟩)
  | false=>
    simp(disch:=omega) only[ai,↓ah,seval,CX,↓iv,r4,rN,hi1,↓hr,ak,↓FR,FW]
    exact fun k=>q0 h k
theorem Dr(o:Opn)(b:Bf){H:Heap}{lo:Nat}{Q:Out→Heap→Prop}(hlo:lo≤H.n)(h:∀H' r,Keep H.n H H'→Q (.val (.bool r)) H'):
  W E0 lo (.call 141 [.agg [.int .u8 o.k,.int .u8 o.d,.int .u8 o.b,.int .i64 o.a,.int .u8 o.y,.int .i64 o.r],.agg [.int .i64 b.r,.int .i64 b.p,.bool b.a]]) H Q:=by
 refine W.pure aX hlo ?_;rw[XP];by_cases h4:o.k=4∨o.k=5∨o.k=6
 ·simp(disch:=omega) only[ai,↓ah,seval,EG,EF,EE,ED,EC,EB,EA,Ez,Ey,(ax Tryz.f141 1),Lw,ak,↓FR,FW]
  generalize hH_H1:Heap.new _ _=H1;have hnH1:H1.n=H.n+2:=by rw[←hH_H1];rfl
  have g0:=congrArg (fun h0=>Heap.get h0 (H.n)) hH_H1.symm;simp(disch:=omega) only[ai,↓ah,seval] at g0;have g1:=congrArg (fun h0=>Heap.get h0 (H.n+1)) hH_H1.symm;simp(disch:=omega) only[ai,↓ah,seval] at g1
  have kH1:Keep H.n H H1:=⟨by omega,fun x hx _=>by
   have gx:=congrArg (fun h0=>Heap.get h0 x) hH_H1.symm;simp(disch:=omega) only[ai,↓ah,seval] at gx;exact gx⟩
  clear hH_H1;have r0:=ae g0;have r1:=ae g1;rcases h4 with h4 | h4 | h4<;>
  ·simp(disch:=omega) only[ai,↓ah,seval,Pg,r0,r1,h4,ak,↓FR,FW]
   refine lN o.b o.a b.r (by omega) fun H2 k2=>?_;have g02:=(k2.2 _ (by omega) (by omega)).trans g0;have g12:=(k2.2 _ (by omega) (by omega)).trans g1;have r02:=ae g02;have r12:=ae g12;clear g02 g12 r0 r1;by_cases hd:o.d=1
   ·simp(disch:=omega) only[ai,↓ah,seval,Pg,r02,r12,hd,ak,↓FR,FW]
    exact fun k=>h _ _ k
   ·simp(disch:=omega) only[ai,↓ah,seval,Pg,r02,r12,hd,ak,↓FR,FW]
    exact fun k=>h _ _ k
 ·simp(disch:=omega) only[ai,↓ah,seval,Pg,show ¬o.k=4 by omega,show ¬o.k=5 by omega,show ¬o.k=6 by omega,ak,↓FR,FW]
  exact fun k=>h _ _ k
def zY(tm:List IV)(h:tm.length=91):=(bL tm 91 h).trans (by simp only[List.range,List.range.loop,List.map_cons,List.map_nil];exact rfl)
theorem BD{v w:SV}{l:List Opn}{bs:List Bf}{H:Heap}{i:Nat}(hv:Sl H v l)(hw:Sl H w bs)(hb:bs.length=l.length){j:Nat}(hij:i < j)(hj:j < l.length)(hl:l.length≤100){y:Int}{tm:List IV}{lo:Nat}{Q:Out→Heap→Prop}(hlo:lo≤H.n)(htm:tm.length=91)(t0:tm.getD 0 IV.undef=v.iv)(t1:tm.getD 1 IV.undef=w.iv)(t2:tm.getD 2 IV.undef=.int .i64 i)(t7:tm.getD 7 IV.undef=.int .u8 y)(t8:tm.getD 8 IV.undef=.int .i64 j)
  (hret:∀H' tm' (r:Nat),Keep H.n H H'→i < r→r≤l.length→tm'.length=91→tm'.getD 6 IV.undef=.int .i64 r→Q (.ex (.jmp .ret) ⟨tm',[]⟩) H') (hex:∀H' tm',Keep H.n H H'→tm'.length=91→Q (.ex (.jmp (.exit 2)) ⟨tm',[]⟩) H'):
  W E0 lo (.code (.loop (sK Tryz.f103 575)) none ⟨tm,[]⟩) H Q:=by
 refine aM (fun k fr H'=>∃(j:Nat),j=k∧i≤j∧j < l.length∧Keep H.n H H'∧fr.marks=[]∧fr.tm.length=91∧fr.tm.getD 0 IV.undef=v.iv∧fr.tm.getD 1 IV.undef=w.iv∧fr.tm.getD 2 IV.undef=.int .i64 i∧fr.tm.getD 7 IV.undef=.int .u8 y∧fr.tm.getD 8 IV.undef=.int .i64 j) ?_ j ⟨j,rfl,by omega,hj,Keep.refl _ _,rfl,htm,t0,t1,t2,t7,t8⟩;clear htm t0 t1 t2 t7 t8;rintro k ⟨tm,mk⟩ H' ⟨j,hjk,hij,hj,hk,rfl,htm,t0,t1,t2,t7,t8⟩ L1 hN hJ;have hn':=hk.1;rw[zY tm htm,t0,t1,t2,t7,t8];by_cases hji:i < j
 case neg=>
  simp(disch:=omega) only[ai,↓ah,seval,CP,hJ,hji,↓FR,FW]
  exact hex _ _ hk rfl
 have hv':=hv.keep hk;have hw':=hw.keep hk;have r1:=pc hv' j hj;have r2:=K6 hw' i (by omega);generalize l[j]=o at r1;generalize bs[i]'(by omega)=b at r2;have iv:=hv'.idx;have iw:=hw'.idx;rw[hb] at iw;have hji':(j:Int)>(i:Int):=by omega
 have e1:(j:Int) - 1=((j - 1:Nat):Int):=by omega
 by_cases hy:o.y=y
 ·simp(maxSteps:=4000000) (disch:=omega) only[ai,↓ah,seval,CP,↓iv,↓iw,r1,r2,hji',hy,ak,↓FR,FW]
  rw[←hy];refine Dr o b (by omega) fun H2 r k2=>?_;have kk:=hk.trans (k2.lower hn')
  cases r with
  | true=>
    simp(maxSteps:=4000000) (disch:=omega) only[ai,↓ah,seval,CP,hJ,ak,↓FR,FW]
    exact hret _ _ j kk hji (by omega) rfl rfl
  | false=>
    simp(maxSteps:=4000000) (disch:=omega) only[ai,↓ah,seval,CP,e1,hy,ak,↓FR,FW]
    exact hN (k - 1) _ _ (by omega) ⟨j - 1,by omega,by omega,by omega,kk,rfl,rfl,rfl,rfl,rfl,rfl,rfl⟩
 ·simp(maxSteps:=4000000) (disch:=omega) only[ai,↓ah,seval,CP,↓iv,↓iw,r1,r2,hji',hy,e1,ak,↓FR,FW]
  exact hN (k - 1) _ _ (by omega) ⟨j - 1,by omega,by omega,by omega,hk,rfl,rfl,rfl,rfl,rfl,rfl,rfl⟩
theorem DJ:yp 103:=by
 intro v w l bs H i lo Q hv hw hb hl hok hop hi hlo h;refine W.pure aX hlo ?_;rw[Yg];have r1:=pc hv i hi;generalize l[i]=o at r1;have iv:=hv.idx;by_cases h3:o.k=6
 case neg=>
  simp(disch:=omega) only[ai,↓ah,seval,LS,↓iv,↓hv.ln,r1,h3,ak,↓FR,FW]
  exact fun k=>q0 h k
 simp(disch:=omega) only[ai,↓ah,seval,LS,↓iv,↓hv.ln,r1,h3,ak,↓FR,FW]
 obtain⟨y,hy⟩:∃y,y=o.y:=⟨_,rfl⟩
 rw[←hy];clear hy r1 h3;refine aM (fun k fr H'=>∃(j:Nat),j+k=l.length∧i < j∧H'=H∧fr.marks=[]∧fr.tm.length=91∧fr.tm.getD 0 IV.undef=v.iv∧fr.tm.getD 1 IV.undef=w.iv∧fr.tm.getD 2 IV.undef=.int .i64 i∧fr.tm.getD 7 IV.undef=.int .u8 y∧fr.tm.getD 8 IV.undef=.int .i64 j) ?_ (l.length - (i+1)) ⟨i+1,by omega,by omega,rfl,rfl,rfl,rfl,rfl,rfl,rfl,rfl⟩;rintro k ⟨tm,mk⟩ H' ⟨j,hjk,hij,rfl,rfl,htm,t0,t1,t2,t7,t8⟩ L1 hN hJ;rw[zY tm htm,t0,t1,t2,t7,t8];by_cases hj:j < l.length
 ·have hj':¬(j:Int)=(l.length:Int):=by omega
  have r1:=pc hv j hj;generalize l[j]=oj at r1
  have down:∀tm',tm'.length=91→tm'.getD 0 IV.undef=v.iv→tm'.getD 1 IV.undef=w.iv→tm'.getD 2 IV.undef=.int .i64 i→tm'.getD 7 IV.undef=.int .u8 y→tm'.getD 8 IV.undef=.int .i64 j→W E0 H'.n (.code (.loop (sK Tryz.f103 575)) none ⟨tm',[]⟩) H' (pM 2 (kW E0 H'.n none (.seq (gv Tryz.f103 383) .ret) (lQ H'.n F103.results fun o H''=>Keep H'.n H' H''→Q o H''))):=by
   intro tm' htm' t0 t1 t2 t7 t8;refine BD hv hw hb hij hj hl (Nat.le_refl _) htm' t0 t1 t2 t7 t8 (fun H2 tm2 r k2 hr1 hr2 ht2 h6=>?_) fun H2 tm2 k2 ht2=>?_
   ·rw[zY tm2 ht2,h6];simp(disch:=omega) only[ai,↓ah,seval,LS];exact fun k=>h _ r k (.inr ⟨hr1,hr2⟩)
   ·rw[zY tm2 ht2];simp(disch:=omega) only[ai,↓ah,seval,LS];exact fun k=>q0 h k
  by_cases c6:oj.k=6
  ·by_cases cy:oj.y=y
   ·simp(maxSteps:=4000000) (disch:=omega) only[ai,↓ah,seval,lG,lF,lE,lD,lC,lB,lA,(bj Tryz.f103 143),lz,ly,jv,ju,jt,js,jr,(ax Tryz.f103 1),F103,↓iv,↓hv.ln,r1,c6,cy,↓FR,FW]
    exact hN (k - 1) _ _ (by omega) ⟨j+1,by omega,by omega,rfl,rfl,rfl,rfl,rfl,rfl,rfl,rfl⟩
   ·simp(maxSteps:=4000000) (disch:=omega) only[ai,↓ah,seval,lG,lF,lE,lD,lC,lB,lA,(bj Tryz.f103 143),lz,ly,jv,ju,jt,js,jr,(ax Tryz.f103 1),F103,↓iv,↓hv.ln,r1,c6,cy,hJ,hj',↓FR,FW]
    exact down _ rfl rfl rfl rfl rfl rfl
  ·by_cases c2:oj.k=2
   ·by_cases cy:oj.y=y
    ·simp(maxSteps:=4000000) (disch:=omega) only[ai,↓ah,seval,lG,lF,lE,lD,lC,lB,lA,(bj Tryz.f103 143),lz,ly,jv,ju,jt,js,jr,(ax Tryz.f103 1),F103,↓iv,↓hv.ln,r1,c2,cy,hJ,hj',↓FR,FW]
     exact fun k=>h _ j k (.inr ⟨hij,by omega⟩)
    ·simp(maxSteps:=4000000) (disch:=omega) only[ai,↓ah,seval,lG,lF,lE,lD,lC,lB,lA,(bj Tryz.f103 143),lz,ly,jv,ju,jt,js,jr,(ax Tryz.f103 1),F103,↓iv,↓hv.ln,r1,c2,cy,hJ,hj',↓FR,FW]
     exact down _ rfl rfl rfl rfl rfl rfl
   ·simp(maxSteps:=4000000) (disch:=omega) only[ai,↓ah,seval,lG,lF,lE,lD,lC,lB,lA,(bj Tryz.f103 143),lz,ly,jv,ju,jt,js,jr,(ax Tryz.f103 1),F103,↓iv,↓hv.ln,r1,c6,c2,hJ,hj',↓FR,FW]
    exact down _ rfl rfl rfl rfl rfl rfl
 ·have hj':(j:Int)=(l.length:Int):=by omega
  simp(maxSteps:=4000000) (disch:=omega) only[ai,↓ah,seval,lG,lF,lE,lD,lC,lB,lA,(bj Tryz.f103 143),lz,ly,jv,ju,jt,js,jr,(ax Tryz.f103 1),F103,↓iv,↓hv.ln,hJ,hj',↓FR,FW]
  exact fun k=>h _ l.length k (.inr ⟨hi,Nat.le_refl _⟩)
def wayC:List IV:=[.int .u8 1,.fn 100 [] [],.int .u8 2,.fn 101 [] [],.int .u8 3,.fn 102 [] [],.int .u8 4,.fn 103 [] [],.int .u8 5,.fn 104 [] []]
def RW(w:Nat):Nat:=[100,101,102,103,104].getD w 0
theorem Ev(w:Nat)(hw:w < 5):yp (RW w):=by
 rcases(by omega:w=0∨w=1∨w=2∨w=3∨w=4) with rfl | rfl | rfl | rfl | rfl
 ·exact IG
 ·exact Gm
 ·exact K8
 ·exact DJ
 ·exact G9
theorem AR{H:Heap}{b e:Nat}(hg:H.get b=some (.cells false e 10 wayC))(w:Nat)(hw:w < 5):H.read b (w*2+1) 1=some [.fn (RW w) [] []]:=by
 rw[ae hg];rcases(by omega:w=0∨w=1∨w=2∨w=3∨w=4) with rfl | rfl | rfl | rfl | rfl<;>rfl
theorem Eu{H:Heap}{lo:Nat}{Q:Out→Heap→Prop}(hlo:lo≤H.n)(h:∀H',Keep H.n H H'→Q (.val (.agg wayC)) H'):W E0 lo (.call 47 []) H Q:=by
 refine W.pure aX hlo ?_;rw[c47];simp(disch:=omega) only[ai,↓ah,seval,B47,ak,↓FR,FW];exact fun k=>h _ k
structure FdOk(n:Nat)(ps es:List Nw):Prop where
 len:es.length=ps.length
 ok:∀(i:Nat) (h:i < ps.length) (h':i < es.length),∃p e:Nat,ps[i].v=p∧es[i].v=e∧p < e∧e≤n
theorem FdOk.nil(n:Nat):FdOk n [] []:=⟨rfl,fun i h=>by simp at h⟩
theorem FdOk.push{n:Nat}{ps es:List Nw}(h:FdOk n ps es){p e:Nat}(h1:p < e)(h2:e≤n):FdOk n (ps++[⟨p⟩]) (es++[⟨e⟩]):=by
 have hl:=h.len;refine⟨by simp[hl],fun i hi hi'=>?_⟩;rw[List.length_append,List.length_singleton] at hi;by_cases c:i < ps.length
 ·rw[List.getElem_append_left c,List.getElem_append_left (by omega)];exact h.ok i c (by omega)
 ·have e1:i=ps.length:=by omega
  subst e1;rw[List.getElem_append_right (Nat.le_refl _),List.getElem_append_right (by omega)];simp only[hl,Nat.sub_self,List.getElem_cons_zero];exact⟨p,e,rfl,rfl,h1,h2⟩
def QV(tm:List IV)(h:tm.length=66):=(bL tm 66 h).trans (by simp only[List.range,List.range.loop,List.map_cons,List.map_nil];exact rfl)
theorem Fh{v:SV}{l:List Opn}{H:Heap}(ht:Tabs tabs H)(hv:Sl H v l)(hl:l.length≤100)(r:Int){lo:Nat}{Q:Out→Heap→Prop}(hlo:lo≤H.n)
  (hbad:∀H',Keep H.n H H'→¬(1≤r∧r≤5)→Q (.val (.tuple [.nilSlice,.nilSlice,.int .i64 1])) H')
  (herr:∀H',Keep H.n H H'→1≤r∧r≤5→jN l≠0→Q (.val (.tuple [.nilSlice,.nilSlice,.int .i64 (jN l)])) H')
  (hq:∀H' u x ps es,Keep H.n H H'→1≤r∧r≤5→jN l=0→Gr H.n H' 3 u ps→Gr H.n H' 3 x es→FdOk l.length ps es→ps.length≤l.length→Q (.val (.tuple [u.iv,x.iv,.int .i64 0])) H'):
  W E0 lo (.call 42 [v.iv,.int .u8 r]) H Q:=by
 refine W.pure aX hlo ?_;rw[c42];simp(disch:=omega) only[ai,↓ah,seval,Pf,ak,↓FR,FW];refine Eu (by omega) fun H1 k1=>?_;have hn1:=k1.1;have kN:Keep H1.n H1 ((H1.new (.cells false 115 10 [.int .u8 0,.nilFunc,.int .u8 0,.nilFunc,.int .u8 0,.nilFunc,.int .u8 0,.nilFunc,.int .u8 0,.nilFunc])).put H1.n (.cells false 115 10 wayC)):=Keep.newPut;have gN:((H1.new (.cells false 115 10 [.int .u8 0,.nilFunc,.int .u8 0,.nilFunc,.int .u8 0,.nilFunc,.int .u8 0,.nilFunc,.int .u8 0,.nilFunc])).put H1.n (.cells false 115 10 wayC)).get H1.n=some (.cells false 115 10 wayC):=by rw[aa,if_pos rfl]
 have hnN:((H1.new (.cells false 115 10 [.int .u8 0,.nilFunc,.int .u8 0,.nilFunc,.int .u8 0,.nilFunc,.int .u8 0,.nilFunc,.int .u8 0,.nilFunc])).put H1.n (.cells false 115 10 wayC)).n=H1.n+1:=rfl;have hwl:wayC.length=10:=rfl;have hwo:wayC.all IV.one=true:=rfl;have hws:ar [.int .u8 0,.nilFunc,.int .u8 0,.nilFunc,.int .u8 0,.nilFunc,.int .u8 0,.nilFunc,.int .u8 0,.nilFunc] 0 wayC=wayC:=rfl;simp(disch:=omega) only[ai,↓ah,seval,C7,C6,C5,C4,C3,C2,C1,C0,CZ,yG,yF,yE,yD,Ew,yC,yB,(ax Tryz.f42 1),RS,hwl,hwo,hws,ak,↓FR,FW];generalize Heap.put _ _ _=H2 at kN gN hnN⊢;obtain⟨wb,hwb⟩:∃wb,wb=H1.n:=⟨_,rfl⟩;rw[←hwb] at gN⊢;have k12:Keep H.n H H2:=k1.trans (kN.lower hn1);have r0:H2.read wb 0 1=some [.int .u8 1]:=by rw[ae gN];rfl
 have r8:H2.read wb 8 1=some [.int .u8 5]:=by rw[ae gN];rfl
 by_cases hr1:r < 1
 ·simp(disch:=omega) only[ai,↓ah,seval,Pf,r0,r8,hr1,ak,↓FR,FW]
  exact fun k=>hbad _ k (by omega)
 by_cases hr5:r>5
 ·simp(disch:=omega) only[ai,↓ah,seval,Pf,r0,r8,hr1,hr5,ak,↓FR,FW]
  exact fun k=>hbad _ k (by omega)
 have hr:1≤r∧r≤5:=by omega
 simp(disch:=omega) only[ai,↓ah,seval,Pf,r0,r8,hr1,hr5,ak,↓FR,FW]
 refine vj (by omega) fun H3 k3 hn3 gy gt0=>?_;simp(disch:=omega) only[ai,↓ah,seval,Pf,↓FR,FW];have k13:Keep H.n H H3:=k12.trans (k3.lower (by omega));refine Dl (ht.keep' k13) gy gt0 (by omega) (by omega) (hv.keep k13) hl (by omega) fun H4 cs k4 hcs hone=>?_;have hn4:=k4.1;have k14:Keep H.n H H4:=k13.trans (k4.lower (by omega));by_cases he:jN l=0
 case neg=>
  simp(disch:=omega) only[ai,↓ah,seval,Pf,he,hcs,hone,ak,↓FR,FW]
  exact fun k=>herr _ k hr he
 have kS:Keep H4.n H4 ((H4.new (.cells false 35 8 [.int .i64 0,.nilSlice,.nilSlice,.nilSlice,.nilSlice,.nilSlice,.nilSlice,.nilSlice])).put H4.n (.cells false 35 8 (ar [.int .i64 0,.nilSlice,.nilSlice,.nilSlice,.nilSlice,.nilSlice,.nilSlice,.nilSlice] 0 cs))):=Keep.newPut;simp(disch:=omega) only[ai,↓ah,seval,Pf,he,hcs,hone,ak,↓FR,FW];generalize Heap.put _ _ _=H5 at kS⊢;have hn5:=kS.1;have k15:Keep H.n H H5:=k14.trans (kS.lower (by omega));have hall:=xy he;refine xU (hv.keep k15) hl hall (by omega) fun H6 bb bs k6 hbb oB hbl hbok=>?_;have hn6:=k6.1;have k16:Keep H.n H H6:=k15.trans (k6.lower (by omega));have k26:Keep H2.n H2 H6:=k3.trans ((k4.lower (by omega)).trans ((kS.lower (by omega)).trans (k6.lower (by omega))));have g6:=(k26.2 wb (by omega) (by omega)).trans gN;have hv6:=hv.keep k16;obtain⟨n,hn⟩:∃n,n=l.length:=⟨_,rfl⟩;have hln:=hv6.ln;rw[←hn] at hln oB hbl hq hl;obtain⟨w,hw,rfl⟩:∃w:Nat,w < 5∧r=(w:Int)+1:=⟨(r - 1).toNat,by omega,by omega⟩;simp(disch:=omega) only[ai,↓ah,seval,Pf,↓hln,←hn,ak,↓FR,FW];clear r0 r8 k3 gy gt0 k4 hcs hone kS k6 gN kN k1
 refine aM (fun k fr H'=>∃(i:Nat) (u x:SV) (ps es:List Nw),i+k=n∧Keep H6.n H6 H'∧Gr H6.n H' 3 u ps∧Gr H6.n H' 3 x es∧FdOk n ps es∧(ps≠[]→u.blk≠x.blk)∧ps.length≤i∧fr.marks=[]∧fr.tm.length=66∧fr.tm.getD 0 IV.undef=v.iv∧fr.tm.getD 1 IV.undef=.int .u8 ((w:Int)+1)∧fr.tm.getD 4 IV.undef=u.iv∧fr.tm.getD 5 IV.undef=x.iv∧fr.tm.getD 7 IV.undef=.ptr wb 0∧fr.tm.getD 11 IV.undef=.slice bb 0 n n true∧fr.tm.getD 40 IV.undef=.int .i64 n∧fr.tm.getD 41 IV.undef=.int .i64 i) ?_ n
  ⟨0,.nil,.nil,[],[],by omega,Keep.refl _ _,Gr.nil,Gr.nil,FdOk.nil n,fun h=>absurd rfl h,by simp,rfl,rfl,rfl,rfl,rfl,rfl,rfl,rfl,rfl,rfl⟩
 rintro k ⟨tm,mk⟩ H' ⟨i,u,x,ps,es,hik,hk,hgu,hgx,hfd,hne,hpl,rfl,htm,t0,t1,t4,t5,t7,t11,t40,t41⟩ L1 hN hJ;have hn':=hk.1;have hw':=hv6.keep hk;have oB':=oB.keep hk;have g':=(hk.2 wb (by omega) (by omega)).trans g6;have hpe:=hfd.len;rw[QV tm htm,t0,t1,t4,t5,t7,t11,t40,t41];have kk':Keep H.n H H':=k16.trans (hk.lower (by omega));by_cases hi:i < n
 ·have rw1:=AR g' w hw;have hsB:Sl H' (.sl bb 0 n n true) bs:=by have:=oB'.sl true;rw[hbl] at this;exact this
  rw[show((w:Int)+1)=((w+1:Nat):Int) by omega];simp(maxSteps:=4000000) (disch:=omega) only[ai,↓ah,seval,Pb,rw1,show(((w+1:Nat):Int) - 1)=(w:Int) by omega,ak,↓FR,FW];refine Ev w hw hw' hsB (by omega) (by omega) hbok hall (by omega) (by omega) fun H7 r k7 hr7=>?_;have hn7:=k7.1;have k67:Keep H6.n H6 H7:=hk.trans (k7.lower (by omega));have hgu7:=hgu.keep k7;have hgx7:=hgx.keep k7;by_cases hr0:r=0
  ·subst hr0;simp(maxSteps:=4000000) (disch:=omega) only[ai,↓ah,seval,Pb,ak,↓FR,FW];exact hN (k - 1) _ _ (by omega) ⟨i+1,u,x,ps,es,by omega,k67,hgu7,hgx7,hfd,hne,by omega,rfl,rfl,by rfl,rfl,rfl,rfl,rfl,rfl,rfl,rfl⟩
  ·obtain⟨q1,q2⟩:i < r∧r≤n:=by rcases hr7 with h | h;exact absurd h hr0;exact⟨h.1,by omega⟩
   obtain⟨H8,u8,e8,n8,k8,o8,b8⟩:=hgu7.pushNewO (⟨i⟩:Nw) AN 8 H.n (by omega) (by omega) (by omega);rw[ya] at e8;have hr0':(r:Int)>0:=by omega
   simp(maxSteps:=4000000) (disch:=omega) only[ai,↓ah,seval,C7,C6,HW,C5,C4,C3,C2,C1,C0,CZ,yG,yF,yE,yD,yC,(bj Tryz.f42 607),yB,(ax Tryz.f42 1),RS,↓e8,hr0',ak,↓FR,FW]
   have hgx8:Gr H6.n H8 3 x es:=hgx7.sameO n8 fun hne'=>k8 _ (hgx7.blkLt hne').1 fun hpn=>Ne.symm (hne hpn);obtain⟨H9,x9,e9,n9,k9,o9,b9⟩:=hgx8.pushNewO (⟨r⟩:Nw) AN 8 H.n (by omega) (by omega) (by omega);rw[ya] at e9;simp(maxSteps:=4000000) (disch:=omega) only[ai,↓ah,seval,Pb,↓e9,ak,↓FR,FW]
   have hu9:Gr H6.n H9 3 u8 (ps++[⟨i⟩]):=o8.sameO n9 fun _=>k9 _ (o8.blkLt (by simp)).1 fun hen=>by
    have:=(hgx7.blkLt hen).1
    omega
   refine hN (k - 1) _ _ (by omega) ⟨i+1,u8,x9,_,_,by omega,⟨by omega,fun y h1 h2=>?_⟩,hu9,o9,hfd.push q1 q2,fun _=>by have:=(o8.blkLt (by simp)).1;omega,by simp;omega,rfl,rfl,by rfl,rfl,rfl,rfl,rfl,rfl,rfl,rfl⟩;rw[k9 y (by omega) (fun hen=>by have:=(hgx7.blkLt hen).2;omega),k8 y (by omega) (fun hpn=>by have:=(hgu7.blkLt hpn).2;omega)];exact k67.2 y (by omega) (by omega)
 ·simp(maxSteps:=4000000) (disch:=omega) only[ai,↓ah,seval,Pb,hJ,↓FR,FW]
  exact fun hkk=>hq _ u x ps es hkk hr he (hgu.lower (by omega)) (hgx.lower (by omega)) hfd (by omega)
theorem wC{v:SV}{l:List Nw}{H:Heap}(hv:Sl H v l)(hs:E3 1 H v){lo:Nat}{Q:Out→Heap→Prop}(h:Q (.val (v.clip 1 l.length).iv) H):W E0 lo (.call 43 [v.iv]) H Q:=by
 rw[c43];simp(disch:=omega) only[ai,↓ah,seval,B43,↓hv.ln,↓hv.slcClip hs,↓FR,FW];exact h
theorem J2(a b:Int){H:Heap}{lo:Nat}{Q:Out→Heap→Prop}(h:Q (.val (.bool (decide (a < b)))) H):W E0 lo (.call 97 [.int .i64 a,.int .i64 b]) H Q:=by
 rw[c97];by_cases hab:a < b
 ·rw[decide_eq_true hab] at h;simp(disch:=omega) only[ai,↓ah,seval,Zn,HE,Ho,hab,↓FR,FW];exact h
 ·rw[decide_eq_false hab] at h;simp(disch:=omega) only[ai,↓ah,seval,Zn,HE,Ho,hab,↓FR,FW];exact h
theorem NT{v:SV}{l:List Nw}{H:Heap}(hv:Sl H v l)(hl:l.length≤1000000)(x:Int){lo:Nat}{Q:Out→Heap→Prop}
  (h:∀(at_:Nat) (b:Bool),at_≤l.length→(b=true→∃h:at_ < l.length,l[at_].v=x)→Q (.val (.tuple [.int .i64 at_,.bool b])) H):W E0 lo (.call 44 [v.iv,.int .i64 x]) H Q:=by
 rw[c44];simp(disch:=omega) only[ai,↓ah,seval,Zt,↓hv.ln,↓FR,FW];refine aM (fun k fr H'=>∃(i j:Nat),i≤j∧j≤l.length∧j - i=k∧H'=H∧fr.marks=[]∧fr.tm.length=54∧fr.tm.getD 0 IV.undef=v.iv∧fr.tm.getD 1 IV.undef=.int .i64 x∧fr.tm.getD 6 IV.undef=.int .i64 l.length∧fr.tm.getD 7 IV.undef=.int .i64 i∧fr.tm.getD 8 IV.undef=.int .i64 j) ?_ l.length ⟨0,l.length,by omega,by omega,by omega,rfl,rfl,rfl,rfl,rfl,rfl,rfl,rfl⟩;rintro k ⟨tm,mk⟩ H' ⟨i,j,hij,hj,hk,rfl,rfl,htm,t0,t1,t6,t7,t8⟩ L1 hN hJ;rw[Aa tm htm,t0,t1,t6,t7,t8];have iv:=hv.idx;by_cases hlt:i < j
 ·obtain⟨q,hq⟩:∃q,q=(i+j) / 2:=⟨_,rfl⟩
  have e1:((i:Int)+(j:Int)) / 2=(q:Int):=by omega
  have hm:q < l.length:=by omega
  have r1:=hv.read AN q hm;rw[ya] at r1;have e2:(q:Int).toNat=q:=by omega
  simp(maxSteps:=4000000) (disch:=omega) only[ai,↓ah,seval,HB,FS,↓oT,↓iv,e1,e2,r1,ak,↓FR,FW]
  refine J2 _ _ ?_;by_cases hx:(l[q]'(by omega)).v < x
  ·rw[decide_eq_true hx];simp(maxSteps:=4000000) (disch:=omega) only[ai,↓ah,seval,HB,ak,↓FR,FW];exact hN (j - (q+1)) _ _ (by omega) ⟨q+1,j,by omega,hj,rfl,rfl,rfl,rfl,rfl,rfl,rfl,rfl,rfl⟩
  ·rw[decide_eq_false hx];simp(maxSteps:=4000000) (disch:=omega) only[ai,↓ah,seval,HB,ak,↓FR,FW];exact hN (q - i) _ _ (by omega) ⟨i,q,by omega,by omega,rfl,rfl,rfl,rfl,rfl,rfl,rfl,rfl,rfl⟩
 ·by_cases hi:i < l.length
  ·have r1:=hv.read AN i hi;rw[ya] at r1;by_cases hx:l[i].v=x
   ·simp(maxSteps:=4000000) (disch:=omega) only[ai,↓ah,seval,HB,Zm,Zd,hJ,↓iv,r1,hx,ak,↓FR,FW]
    exact h i true (by omega) fun _=>⟨hi,hx⟩
   ·simp(maxSteps:=4000000) (disch:=omega) only[ai,↓ah,seval,HB,Zm,Zd,hJ,↓iv,r1,hx,ak,↓FR,FW]
    exact h i false (by omega) fun hh=>by cases hh
  ·simp(maxSteps:=4000000) (disch:=omega) only[ai,↓ah,seval,HB,hJ,ak,↓FR,FW]
   exact h i false (by omega) fun hh=>by cases hh
def Ky(r:Int)(l:List Opn):Int:=if ¬(1≤r∧r≤5) then 1 else jN l
theorem Gs{v:SV}{l:List Opn}{H:Heap}(ht:Tabs tabs H)(hv:Sl H v l)(hl:l.length≤100)(r:Int){lo:Nat}{Q:Out→Heap→Prop}(hlo:lo≤H.n)
  (hq:∀H' (u:SV) (ps:List Nw),Keep H.n H H'→Sl H' u ps→(Ky r l≠0→ps=[])→Q (.val (.tuple [u.iv,.int .i64 (Ky r l)])) H'):
  W E0 lo (.call 18 [v.iv,.int .u8 r]) H Q:=by
 refine W.pure aX hlo ?_;rw[c18];unfold Ky at hq;simp(disch:=omega) only[ai,↓ah,seval,RK,ak,↓FR,FW];refine Fh ht hv hl r (by omega) (fun H2 k2 hr=>?_) (fun H2 k2 hr he=>?_) fun H2 u x ps es k2 hr he hu hx hfd hpl=>?_
 ·rw[if_pos hr] at hq;simp(disch:=omega) only[ai,↓ah,seval,RK,ak,↓FR,FW];refine wC (v:=.nil) (l:=[]) Sl.empty (fun _ _ _ _ _ h=>by cases h) ?_;simp(disch:=omega) only[ai,↓ah,seval,RK,ak,↓FR,FW];exact fun k=>hq _ .nil [] k Sl.empty fun _=>rfl
 ·rw[if_neg (fun h=>h hr)] at hq;simp(disch:=omega) only[ai,↓ah,seval,RK,ak,↓FR,FW];refine wC (v:=.nil) (l:=[]) Sl.empty (fun _ _ _ _ _ h=>by cases h) ?_;simp(disch:=omega) only[ai,↓ah,seval,RK,ak,↓FR,FW];exact fun k=>hq _ .nil [] k Sl.empty fun _=>rfl
 ·rw[if_neg (fun h=>h hr),he] at hq;simp(disch:=omega) only[ai,↓ah,seval,RK,ak,↓FR,FW];refine wC hu.sl (hu.slO AN) ?_;simp(disch:=omega) only[ai,↓ah,seval,RK,ak,↓FR,FW];exact fun k=>hq _ (u.clip 1 ps.length) ps k (hu.sl.clipS AN) fun h=>absurd rfl h
theorem La{v:SV}{l:List Opn}{H:Heap}(ht:Tabs tabs H)(hv:Sl H v l)(hs:∀H',E3 6 H' v)(hl:l.length≤100)(r i:Int){lo:Nat}{Q:Out→Heap→Prop}(hlo:lo≤H.n)
  (hq:∀H' (u:SV) (m:List Opn) (e:Int),Keep H.n H H'→Sl H' u m→(Ky r l≠0→m=[]∧e=Ky r l)→(Ky r l=0→e=0∨e=7)→Q (.val (.tuple [u.iv,.int .i64 e])) H'):
  W E0 lo (.call 19 [v.iv,.int .u8 r,.int .i64 i]) H Q:=by
 refine W.pure aX hlo ?_;rw[c19];unfold Ky at hq;simp(disch:=omega) only[ai,↓ah,seval,RU,ak,↓FR,FW];refine Fh ht hv hl r (by omega) (fun H2 k2 hr=>?_) (fun H2 k2 hr he=>?_) fun H2 u x ps es k2 hr he hu hx hfd hpl=>?_
 ·rw[if_pos hr] at hq;simp(disch:=omega) only[ai,↓ah,seval,RU,ak,↓FR,FW];exact fun k=>hq _ .nil [] 1 k Sl.empty (fun _=>⟨rfl,rfl⟩) fun h=>by cases h
 ·rw[if_neg (fun h=>h hr)] at hq;simp(disch:=omega) only[ai,↓ah,seval,RU,he,ak,↓FR,FW];exact fun k=>hq _ .nil [] _ k Sl.empty (fun _=>⟨rfl,rfl⟩) fun h=>absurd h he
 ·rw[if_neg (fun h=>h hr),he] at hq;have hn2:=k2.1;simp(disch:=omega) only[ai,↓ah,seval,RU,ak,↓FR,FW];refine NT hu.sl (by omega) i fun a b ha hb=>?_
  cases b with
  | false=>
    simp(disch:=omega) only[ai,↓ah,seval,RU,ak,↓FR,FW]
    exact fun k=>hq _ .nil [] 7 k Sl.empty (fun h=>absurd rfl h) fun _=>.inr rfl
  | true=>
    obtain⟨ha,hai⟩:=hb rfl;have hpe:=hfd.len;obtain⟨p,e,hp,he',hpe1,hpe2⟩:=hfd.ok a ha (by omega);rw[hp] at hai;subst hai;have rx:=hx.sl.read AN a (by omega);rw[ya,he'] at rx;have ix:=hx.sl.idx;rw[hpe] at ix;have hv2:=hv.keep k2;have s1:=hv2.slcHi (z:=6) (a:=p) (hs H2) (by omega) H.n;have hcl:(l.length:Int) - ((e:Int) - (p:Int))=((l.length - (e - p):Nat):Int):=by omega
    obtain⟨c,hc⟩:∃c,c=l.length - (e - p):=⟨_,rfl⟩
    rw[←hc] at hcl;simp(disch:=omega) only[ai,↓ah,seval,Ii,Ih,Ig,If,Ie,Ic,Ib,Ia,HZ,(ax Tryz.f19 1),S9,↓hv2.ln,↓ix,rx,hcl,ak,Int.toNat_natCast,↓FR,FW]
    have oO:Own (H2.new (.cells false 56 6 (iU c [.int .u8 0,.int .u8 0,.int .u8 0,.int .i64 0,.int .u8 0,.int .i64 0]))) H2.n 56 c ([]:List Opn):=yu jP (by
     have:=vv c (⟨0,0,0,0,0,0⟩:Opn)
     rw[An] at this;rw[this,ao,List.length_replicate,jP])
    have k3:Keep H2.n H2 (H2.new (.cells false 56 6 (iU c [.int .u8 0,.int .u8 0,.int .u8 0,.int .i64 0,.int .u8 0,.int .i64 0]))):=Keep.new _ _;have hn3:=ac H2 (.cells false 56 6 (iU c [.int .u8 0,.int .u8 0,.int .u8 0,.int .i64 0,.int .u8 0,.int .i64 0]));obtain⟨ob,hob⟩:∃ob,ob=H2.n:=⟨_,rfl⟩;rw[←hob] at oO⊢;generalize H2.new _=H3 at oO k3 hn3⊢;have hv3:=hv2.keep k3;have s1:=hv3.slcHi (z:=6) (a:=p) (hs H3) (by omega) H.n;have m1:=hv3.cutS jP (a:=0) (n:=p) (by omega);have l1:((l.drop 0).take p).length=p:=by rw[List.length_take,List.length_drop];omega
    obtain⟨H4,e4,n4,g4,o4⟩:=ca (ex:=true) oO m1 jP 40 H.n (by rw[l1];simp;omega) (by omega);rw[l1,List.length_nil,Nat.zero_add] at e4;generalize (l.drop 0).take p=l1' at l1 o4;rw[List.nil_append] at o4;have hx4:=(hx.sl.keep k3).same (H':=H4) (by omega) fun hne=>g4 _ (by have:=(hx.blkLt hne).1;omega);have rx4:=hx4.read AN a (by omega);rw[ya,he'] at rx4;have hv4:Sl H4 v l:=hv3.same (by omega) fun hne=>g4 _ (by have:=hv.blk_lt hne;omega);have s2:=hv4.slcLo (z:=6) (a:=e) (hs H4) (by omega) H.n;have m2:=hv4.cutS jP (a:=e) (n:=l.length - e) (by omega);have l2:((l.drop e).take (l.length - e)).length=l.length - e:=by rw[List.length_take,List.length_drop];omega
    obtain⟨H5,e5,n5,g5,o5⟩:=ca (ex:=true) o4 m2 jP 40 H.n (by rw[l1,l2];omega) (by omega);rw[l1,l2] at e5;simp(maxSteps:=4000000) (disch:=omega) only[ai,↓ah,seval,RU,↓s1,↓e4,↓ix,rx4,↓s2,↓e5,ak,↓FR,FW];have hol:=(o5.sl true);rw[List.length_append,l1,l2] at hol;exact fun k=>hq _ (.sl ob 0 (p+(l.length - e)) c true) _ 0 k hol (fun h=>absurd rfl h) fun _=>.inl rfl
theorem NL{b cap:Nat}{ex:Bool}{l:List Opn}{H:Heap}{lo:Nat}{Q:Out→Heap→Prop}(ho:Own H b 56 cap l)(i j:Nat)(hij:i < j)(hj:j≤l.length)(hl:l.length≤1000000)(hlo:lo≤b)
  (h:∀H',H'.n=H.n→(∀x,x≠b→H'.get x=H.get x)→Own H' b 56 cap (l.take i++l.drop j)→Q (.val (.slice b 0 (l.take i++l.drop j).length cap ex)) H'):W E0 lo (.call 105 [.slice b 0 l.length cap ex,.int .i64 i,.int .i64 j]) H Q:=by
 rw[Ye];have hcap:=ho.1;have s1:=E2 ho (z:=6) rfl l.length i j l.length ex (by omega) hj hcap hcap lo;have s2:=IR ho (z:=6) rfl l.length i ex (by omega) hcap lo;have s3:=IP ho (z:=6) rfl l.length j ex hj hcap lo;have hlt:(l.take i).length=i:=by rw[List.length_take];omega
 have hld:(l.drop j).length=l.length - j:=List.length_drop
 have hv:Sl H (.sl b (j*6) (l.length - j) (cap - j) ex) (l.drop j):=by
  have:=(ho.sl ex).part (z:=6) rfl (a:=j) (m:=l.length - j) (c':=cap - j) (ex':=ex) (by omega) (by omega)
  rw[Nat.zero_add,List.take_of_length_le (by omega)] at this;exact this
 obtain⟨H2,e1,hn2,k2,o2⟩:=ca (ex:=ex) (Bp ho i) hv (z:=6) rfl 40 lo (by omega) hlo;have hla:(l.take i++l.drop j).length=i+(l.length - j):=by rw[List.length_append,hlt,hld]
 rw[hlt,hld] at e1;have s4:=IQ o2 (z:=6) rfl (i+(l.length - j)) (i+(l.length - j)) l.length ex (by omega) hcap (by omega) lo;obtain⟨H3,e2,hn3,k3,o3⟩:=xF o2 (z:=6) rfl (zs:=[.int .u8 0,.int .u8 0,.int .u8 0,.int .i64 0,.int .u8 0,.int .i64 0]) rfl rfl (l.length - (i+(l.length - j))) (cap - (i+(l.length - j))) ex (by omega) lo hlo;rw[hla] at e2;have hne:¬((i:Nat):Int)=(j:Int):=by omega
 simp only[iN] at e1;have ez:(ex||rX H b 6)=true:=by rw[rW ho (z:=6) rfl,Bool.or_true]
 have b1:=K2 (len:=l.length) (top:=cap) (a:=i) (by omega);have b2:=K1 (len:=l.length) (top:=cap) (a:=j) (by omega);simp(disch:=omega) only[ai,↓ah,seval,YY,↓s1,↓s4,↓e1,↓e2,ez,b1,b2,hne,Nat.sub_zero,↓FR,FW];rw[←hla];exact h H3 (hn3.trans hn2) (fun x hx=>(k3 x hx).trans (k2 x hx)) o3
theorem NN{b cap:Nat}{ex:Bool}{l:List Bf}{H:Heap}{lo:Nat}{Q:Out→Heap→Prop}(ho:Own H b 180 cap l)(i j:Nat)(hij:i < j)(hj:j≤l.length)(hl:l.length≤1000000)(hlo:lo≤b)
  (h:∀H',H'.n=H.n→(∀x,x≠b→H'.get x=H.get x)→Own H' b 180 cap (l.take i++l.drop j)→Q (.val (.slice b 0 (l.take i++l.drop j).length cap ex)) H'):W E0 lo (.call 106 [.slice b 0 l.length cap ex,.int .i64 i,.int .i64 j]) H Q:=by
 rw[Yd];have hcap:=ho.1;have s1:=E2 ho (z:=3) rfl l.length i j l.length ex (by omega) hj hcap hcap lo;have s2:=IR ho (z:=3) rfl l.length i ex (by omega) hcap lo;have s3:=IP ho (z:=3) rfl l.length j ex hj hcap lo;have hlt:(l.take i).length=i:=by rw[List.length_take];omega
 have hld:(l.drop j).length=l.length - j:=List.length_drop
 have hv:Sl H (.sl b (j*3) (l.length - j) (cap - j) ex) (l.drop j):=by
  have:=(ho.sl ex).part (z:=3) rfl (a:=j) (m:=l.length - j) (c':=cap - j) (ex':=ex) (by omega) (by omega)
  rw[Nat.zero_add,List.take_of_length_le (by omega)] at this;exact this
 obtain⟨H2,e1,hn2,k2,o2⟩:=ca (ex:=ex) (Bp ho i) hv (z:=3) rfl 24 lo (by omega) hlo;have hla:(l.take i++l.drop j).length=i+(l.length - j):=by rw[List.length_append,hlt,hld]
 rw[hlt,hld] at e1;have s4:=IQ o2 (z:=3) rfl (i+(l.length - j)) (i+(l.length - j)) l.length ex (by omega) hcap (by omega) lo;obtain⟨H3,e2,hn3,k3,o3⟩:=xF o2 (z:=3) rfl (zs:=[.int .i64 0,.int .i64 0,.bool false]) rfl rfl (l.length - (i+(l.length - j))) (cap - (i+(l.length - j))) ex (by omega) lo hlo;rw[hla] at e2;have hne:¬((i:Nat):Int)=(j:Int):=by omega
 simp only[iN] at e1;have ez:(ex||rX H b 3)=true:=by rw[rW ho (z:=3) rfl,Bool.or_true]
 have b1:=K2 (len:=l.length) (top:=cap) (a:=i) (by omega);have b2:=K1 (len:=l.length) (top:=cap) (a:=j) (by omega);simp(disch:=omega) only[ai,↓ah,seval,YX,↓s1,↓s4,↓e1,↓e2,ez,b1,b2,hne,Nat.sub_zero,↓FR,FW];rw[←hla];exact h H3 (hn3.trans hn2) (fun x hx=>(k3 x hx).trans (k2 x hx)) o3
theorem kp{α:Type}(l:List α){i e:Nat}(h1:i < e)(h2:e≤l.length):(l.take i++l.drop e).length=l.length - (e - i):=by
 rw[List.length_append,List.length_take,List.length_drop];omega
theorem Iy{α:Type}{l:List α}{i e:Nat}{x:α}(h:x∈l.take i++l.drop e):x∈l:=by
 rcases List.mem_append.1 h with h | h
 ·exact List.mem_of_mem_take h
 ·exact List.mem_of_mem_drop h
theorem Re{lb bb lc bc:Nat}{x1 x2:Bool}{l:List Opn}{bs:List Bf}{H:Heap}(hO:Own H lb 56 lc l)(hB:Own H bb 180 bc bs)(hb:bs.length=l.length)(hl:l.length≤100)(hok:∀b∈bs,wP b)(hne:lb≠bb){i e:Nat}(hie:i < e)(he:e≤l.length){lo:Nat}(hlo:lo≤lb∧lo≤bb){Q:Out→Heap→Prop}
  (hq:∀H' bs',H'.n=H.n→(∀x,x≠lb→x≠bb→H'.get x=H.get x)→Own H' lb 56 lc (l.take i++l.drop e)→Own H' bb 180 bc bs'→bs'.length=l.length - (e - i)→(∀b∈bs',wP b)→
   Q (.val (.tuple [.slice lb 0 (l.length - (e - i)) lc x1,.slice bb 0 (l.length - (e - i)) bc x2])) H'):
  W E0 lo (.call 48 [.slice lb 0 l.length lc x1,.slice bb 0 l.length bc x2,.int .i64 i,.int .i64 e]) H Q:=by
 rw[c48];have hv:=hO.sl x1;have hw:=hB.sl x2;have iv:=hv.idx;have iw:=hw.idx;rw[hb] at iw
 have tail:∀(H1:Heap) (bs1:List Bf) (fr:Fr),H1.n=H.n→(∀x,x≠bb→H1.get x=H.get x)→Own H1 bb 180 bc bs1→bs1.length=l.length→(∀b∈bs1,wP b)→fr.marks=[]→fr.tm.length=51→fr.tm.getD 0 IV.undef=.slice lb 0 l.length lc x1→fr.tm.getD 1 IV.undef=.slice bb 0 l.length bc x2→fr.tm.getD 2 IV.undef=.int .i64 i→fr.tm.getD 3 IV.undef=.int .i64 e→
   W E0 lo (.code (gv Tryz.f48 11) none fr) H1 (kW E0 lo none .ret (lQ lo F48.results Q)):=by
  rintro H1 bs1 ⟨tm,mk⟩ hn1 k1 hB1 hb1 hok1 hmk htm t0 t1 t2 t3;have hmk:mk=[]:=hmk;subst hmk;have hO1:=hO.same (H':=H1) (by omega) (k1 lb hne);have htm:tm.length=51:=htm;rw[bL tm 51 htm];have t0:tm.getD 0 IV.undef=.slice lb 0 l.length lc x1:=t0;have t1:tm.getD 1 IV.undef=.slice bb 0 l.length bc x2:=t1;have t2:tm.getD 2 IV.undef=.int .i64 i:=t2;have t3:tm.getD 3 IV.undef=.int .i64 e:=t3;simp only[List.range,List.range.loop,List.map_cons,List.map_nil,t0,t1,t2,t3];simp(disch:=omega) only[ai,↓ah,seval,Yx,ak,↓FR,FW];refine NL hO1 i e hie he (by omega) (by omega) fun H2 n2 k2 o2=>?_;have hB2:=hB1.same (H':=H2) (by omega) (k2 bb (Ne.symm hne));have e1:=kp l hie he;rw[e1];simp(disch:=omega) only[ai,↓ah,seval,Yx,ak,↓FR,FW];rw[←hb1];refine NN hB2 i e hie (by omega) (by omega) (by omega) fun H3 n3 k3 o3=>?_;have e2:=kp bs1 hie (by omega);rw[e2,hb1];simp(disch:=omega) only[ai,↓ah,seval,Yx,ak,↓FR,FW];exact hq H3 _ (by omega) (fun x hx hx'=>(k3 x hx').trans ((k2 x hx).trans (k1 x hx'))) (o2.same (by omega) (k3 lb hne)) o3 (by rw[e2,hb1]) fun b hb=>hok1 b (Iy hb)
 by_cases hel:e < l.length
 ·have r1:=K6 hw i (by omega);have oki:=hok _ (List.getElem_mem (show i < bs.length by omega));obtain⟨o1,w1,hB1⟩:=hB.cell HL e 0 (by omega) (by omega) (.int .i64 (bs[i]'(by omega)).r) rfl ⟨(bs[i]'(by omega)).r,(bs[e]'(by omega)).p,(bs[e]'(by omega)).a⟩ rfl lo (by omega);rw[Nat.add_zero] at w1;simp only[fj,jg,Nat.zero_add] at r1;simp(disch:=omega) only[LK,↓ah,seval,uA,uz,uy,ux,HV,(ax Tryz.f48 1),F48,↓iv,↓iw,r1,w1,ak,↓FR,FW];have k1:∀x,x≠bb→(H.put bb o1).get x=H.get x:=fun x hx=>by rw[aa,if_neg (Ne.symm hx)]
  have hn1:(H.put bb o1).n=H.n:=rfl;generalize H.put bb o1=H1 at hB1 k1 hn1⊢
  have hok1:∀b∈bs.set e ⟨(bs[i]'(by omega)).r,(bs[e]'(by omega)).p,(bs[e]'(by omega)).a⟩,wP b:=fun b hb=>by
   rcases List.mem_or_eq_of_mem_set hb with h | rfl
   ·exact hok b h
   ·exact⟨oki.1,oki.2⟩
  have hl1:(bs.set e ⟨(bs[i]'(by omega)).r,(bs[e]'(by omega)).p,(bs[e]'(by omega)).a⟩).length=l.length:=by rw[List.length_set,hb]
  generalize bs.set e _=bs1 at hB1 hok1 hl1;have hv1:=(hO.same (H':=H1) (by omega) (k1 lb hne)).sl x1;have q1:=pc hv1 i (by omega);have q2:=pc hv1 e hel;simp only[fj,jg,Nat.zero_add] at q1 q2;have iv1:=hv1.idx;by_cases hy:l[e].y=(l[i]'(by omega)).y
  ·have hw1:=hB1.sl x2;have iw1:=hw1.idx;rw[hl1] at iw1;have r2:=K6 hw1 i (by omega);simp only[fj,jg,Nat.zero_add] at r2;obtain⟨o2,w2,hB2⟩:=hB1.cell HL e 1 (by omega) (by omega) (.int .i64 (bs1[i]'(by omega)).p) rfl ⟨(bs1[e]'(by omega)).r,(bs1[i]'(by omega)).p,(bs1[e]'(by omega)).a⟩ rfl lo (by omega);have ok2:=hok1 _ (List.getElem_mem (show e < bs1.length by omega));simp(disch:=omega) only[LK,↓ah,seval,uA,uz,uy,yA,ux,(ax Tryz.f48 1),F48,↓iv1,↓iw1,q1,q2,hy,r2,w2,ak,↓FR,FW];refine tail _ _ _ (by rw[af];omega) (fun x hx=>by rw[aa,if_neg (Ne.symm hx)];exact k1 x hx) hB2 (by rw[List.length_set];exact hl1) (fun b hb=>?_) rfl rfl rfl rfl rfl rfl;rcases List.mem_or_eq_of_mem_set hb with h | rfl
   ·exact hok1 b h
   ·exact⟨ok2.1,ok2.2⟩
  ·simp(disch:=omega) only[ai,↓ah,seval,uA,uz,uy,yA,ux,(ax Tryz.f48 1),F48,↓iv1,q1,q2,hy,ak,↓FR,FW]
   exact tail _ _ _ hn1 k1 hB1 hl1 hok1 rfl rfl rfl rfl rfl rfl
 ·simp(disch:=omega) only[ai,↓ah,seval,uA,uz,uy,yA,ux,(ax Tryz.f48 1),F48,↓hv.ln,hel,ak,↓FR,FW]
  exact tail _ _ _ rfl (fun _ _=>rfl) hB hb hok rfl rfl rfl rfl rfl rfl
def Q1(tm:List IV)(h:tm.length=45):=(bL tm 45 h).trans (by simp only[List.range,List.range.loop,List.map_cons,List.map_nil];exact rfl)
theorem Dn{v:SV}{l:List Opn}{H:Heap}(hv:Sl H v l)(hl:l.length≤100){i:Nat}(hi:i≤l.length){lo:Nat}{Q:Out→Heap→Prop}(hq:∀j:Nat,j≤i→Q (.val (.int .i64 j)) H):W E0 lo (.call 49 [v.iv,.int .i64 i]) H Q:=by
 rw[c49];by_cases h0:i=0
 ·subst h0;simp(disch:=omega) only[ai,↓ah,seval,Yw,ak,↓FR,FW];exact hq 0 (Nat.le_refl _)
 have e1:(i:Int) - 1=((i - 1:Nat):Int):=by omega
 have e0:¬(i:Int)=0:=by omega
 simp(disch:=omega) only[ai,↓ah,seval,Yw,e1,e0,ak,↓FR,FW]
 refine aM (fun k fr H'=>∃(j:Nat),j=k∧j < i∧H'=H∧fr.marks=[]∧fr.tm.length=45∧fr.tm.getD 0 IV.undef=v.iv∧fr.tm.getD 1 IV.undef=.int .i64 j) ?_ (i - 1) ⟨i - 1,rfl,by omega,rfl,rfl,rfl,rfl,rfl⟩;rintro k ⟨tm,mk⟩ H' ⟨j,hjk,hji,rfl,rfl,htm,t0,t1⟩ L1 hN hJ;rw[Q1 tm htm,t0,t1];have iv:=hv.idx;by_cases hj0:(j:Int)>0
 case neg=>
  simp(maxSteps:=4000000) (disch:=omega) only[ai,↓ah,seval,LA,hJ,hj0,ak,↓FR,FW]
  exact hq j (by omega)
 have q1:=pc hv j (by omega);have q2:=pc hv (j - 1) (by omega);have e2:(j:Int) - 1=((j - 1:Nat):Int):=by omega
 generalize l[j]'(by omega)=a at q1;generalize l[j - 1]'(by omega)=b at q2;by_cases h1:a.k=6∧b.k=6∧a.y=b.y
 ·simp(maxSteps:=4000000) (disch:=omega) only[ai,↓ah,seval,LA,↓iv,q1,q2,hj0,e2,h1.1,h1.2.1,h1.2.2,ak,↓FR,FW]
  exact hN (k - 1) _ _ (by omega) ⟨j - 1,by omega,by omega,rfl,rfl,rfl,rfl,rfl⟩
 ·by_cases c1:a.k=6
  ·by_cases c2:b.k=6
   ·have c3:¬a.y=b.y:=fun h=>h1 ⟨c1,c2,h⟩;simp(maxSteps:=4000000) (disch:=omega) only[ai,↓ah,seval,LA,↓iv,q1,q2,hj0,e2,c1,c2,c3,hJ,ak,↓FR,FW];exact hq j (by omega)
   ·simp(maxSteps:=4000000) (disch:=omega) only[ai,↓ah,seval,LA,↓iv,q1,q2,hj0,e2,c1,c2,hJ,ak,↓FR,FW]
    exact hq j (by omega)
  ·simp(maxSteps:=4000000) (disch:=omega) only[ai,↓ah,seval,LA,↓iv,q1,q2,hj0,e2,c1,hJ,ak,↓FR,FW]
   exact hq j (by omega)
theorem Sl.none{b o c:Nat}{ex:Bool}{H:Heap}:Sl H (.sl b o 0 c ex) ([]:List Opn):=⟨rfl,Nat.zero_le _,fun h=>absurd rfl h⟩
theorem QC:iE Nk.sl IV.nilSlice=some true:=rfl
theorem QB{b o n c:Nat}{ex:Bool}:iE Nk.sl (IV.slice b o n c ex)=some false:=rfl
theorem KT{v:SV}{l:List Opn}{H:Heap}(hv:Sl H v l)(hl:l.length≤100){lo:Nat}{Q:Out→Heap→Prop}(hlo:lo≤H.n)
  (hq:∀H' u,Keep H.n H H'→Sl H' u l→(l=[]→∀H'',E3 6 H'' u)→(l≠[]→∃b,u=.sl b 0 l.length l.length false∧H.n≤b∧Own H' b 56 l.length l)→Q (.val u.iv) H'):
  W E0 lo (.call 45 [v.iv]) H Q:=by
 refine W.pure aX hlo ?_;rw[c45]
 cases v with
 | nil=>
   have h:l=[]:=hv;subst h;simp(disch:=omega) only[ai,↓ah,seval,Yy,SV.iv,QC,QB,ak,↓FR,FW];exact fun k=>hq _ .nil k Sl.empty (fun _ H'' b o n c ex h=>by cases h) fun h=>absurd rfl h
 | sl b o m c ex=>
   have k1:Keep H.n H (H.new (.cells false 56 6 [])):=.new _ _;have hv1:=hv.keep k1;by_cases h0:l=[]
   ·subst h0
    have ha:ev1 (.append 56 6 40) [.slice H.n 0 0 0 true,.slice b o m c ex] H.n (H.new (.cells false 56 6 []))=some (.slice H.n 0 0 0 true,H.new (.cells false 56 6 [])):=by
     have e1:=hv1.lenI;have e2:=hv1.srcI jP;simp only[SV.iv] at e1 e2;simp only[ev1,e1,e2,Option.bind_some,bF];rw[if_neg (by rw[gD];decide)];simp
    simp(disch:=omega) only[ai,↓ah,seval,Yy,SV.iv,QC,QB,↓ha,ak,↓FR,FW]
    exact fun k=>hq _ (.sl H.n 0 0 0 true) k Sl.none (fun _ H''=>Di) fun h=>absurd rfl h
   ·obtain⟨H2,e1,n2,k2,o2⟩:=ki (l:=[]) (n:=0) (b:=H.n) (o:=0) (e:=56) (Sl.none (H:=H.new (.cells false 56 6 []))) hv1 jP 40 H.n h0 (by have:=List.length_pos_iff.2 h0;simp;omega) (by simp;omega);simp only[List.length_nil,Nat.zero_add,List.nil_append,SV.iv] at e1 o2;simp(disch:=omega) only[ai,↓ah,seval,Yy,SV.iv,QC,QB,↓e1,ak,↓FR,FW];exact fun k=>hq _ (.sl (H.new (.cells false 56 6 [])).n 0 l.length l.length false) k (o2.sl false) (fun h=>absurd h h0) fun _=>⟨_,rfl,by rw[ac];omega,o2⟩
theorem Cq{v:SV}{l:List Opn}{H:Heap}(hv:Sl H v l)(hs:E3 6 H v){lo:Nat}{Q:Out→Heap→Prop}(h:Q (.val (v.clip 6 l.length).iv) H):W E0 lo (.call 50 [v.iv]) H Q:=by
 rw[c50];simp(disch:=omega) only[ai,↓ah,seval,B50,↓hv.ln,↓hv.slcClip hs,↓FR,FW];exact h
def wd(tm:List IV)(h:tm.length=70):=(bL tm 70 h).trans (by simp only[List.range,List.range.loop,List.map_cons,List.map_nil];exact rfl)
theorem Qs{lb bb lc wb e i:Nat}{rz:Int}{l:List Opn}{bs:List Bf}{H:Heap}(hO:Own H lb 56 lc l)(hB:Own H bb 180 lc bs)(hb:bs.length=l.length)(hl:l.length≤100)(hok:∀b∈bs,wP b)(hop:∀o∈l,zH o=0)(hi:i < l.length)(gw:H.get wb=some (.cells false e 10 wayC))(hwb:wb < H.n)
  {tm:List IV} {lo:Nat} {Q:Out→Heap→Prop} (hlo:lo≤H.n) (htm:tm.length=70) (hfr:∃(w r:Nat),w=0∧r=0∧(Fr.mk tm []).tm.getD 8 IV.undef=.slice lb 0 l.length lc false∧(Fr.mk tm []).tm.getD 9 IV.undef=.slice bb 0 l.length lc true∧(Fr.mk tm []).tm.getD 10 IV.undef=.ptr wb 0∧(Fr.mk tm []).tm.getD 11 IV.undef=.int .i64 rz∧(Fr.mk tm []).tm.getD 12 IV.undef=.int .i64 i∧(Fr.mk tm []).tm.getD 13 IV.undef=.int .i64 r∧(Fr.mk tm []).tm.getD 14 IV.undef=.int .i64 w)
  (hQ:∀H' tm' (r:Nat),Keep H.n H H'→(r=0∨i < r∧r≤l.length)→tm'.length=70→(Fr.mk tm' []).tm.getD 8 IV.undef=.slice lb 0 l.length lc false∧(Fr.mk tm' []).tm.getD 9 IV.undef=.slice bb 0 l.length lc true∧(Fr.mk tm' []).tm.getD 10 IV.undef=.ptr wb 0∧(Fr.mk tm' []).tm.getD 11 IV.undef=.int .i64 rz∧(Fr.mk tm' []).tm.getD 12 IV.undef=.int .i64 i∧(Fr.mk tm' []).tm.getD 13 IV.undef=.int .i64 r→Q (.ex (.jmp (.exit 2)) ⟨tm',[]⟩) H'):
  W E0 lo (.code (.loop (GU Tryz.f20 152767)) none ⟨tm,[]⟩) H Q:=by
 obtain⟨w0,r0,rfl,rfl,hfr⟩:=hfr;refine aM (fun k fr H'=>∃(w r:Nat),w+k=5∧(r=0∨i < r∧r≤l.length)∧Keep H.n H H'∧fr.marks=[]∧fr.tm.length=70∧fr.tm.getD 8 IV.undef=.slice lb 0 l.length lc false∧fr.tm.getD 9 IV.undef=.slice bb 0 l.length lc true∧fr.tm.getD 10 IV.undef=.ptr wb 0∧fr.tm.getD 11 IV.undef=.int .i64 rz∧fr.tm.getD 12 IV.undef=.int .i64 i∧fr.tm.getD 13 IV.undef=.int .i64 r∧fr.tm.getD 14 IV.undef=.int .i64 w) ?_ 5 ⟨0,0,rfl,.inl rfl,Keep.refl _ _,rfl,htm,hfr⟩;clear htm hfr;rintro k ⟨tm,mk⟩ H' ⟨w,r,hwk,hr,hk,rfl,htm,t8,t9,t10,t11,t12,t13,t14⟩ L1 hN hJ;have hn':=hk.1;rw[wd tm htm,t8,t9,t10,t11,t12,t13,t14];by_cases hw5:w < 5
 case neg=>
  simp(maxSteps:=4000000) (disch:=omega) only[ai,↓ah,seval,LD,hJ,show ¬(w:Int) < 5 by omega,ak,↓FR,FW]
  exact hQ _ _ r hk hr rfl ⟨rfl,rfl,rfl,rfl,rfl,rfl⟩
 by_cases hr0:r=0
 ·subst hr0;have rw1:=AR ((hk.2 wb hwb hwb).trans gw) w hw5;have hv':Sl H' (.sl lb 0 l.length lc false) l:=(hO.keep hk).sl false;have hb':Sl H' (.sl bb 0 l.length lc true) bs:=by have:=(hB.keep hk).sl true;rw[hb] at this;exact this
  simp(maxSteps:=4000000) (disch:=omega) only[ai,↓ah,seval,LD,rw1,Int.toNat_natCast,ak,↓FR,FW]
  refine Ev w hw5 hv' hb' hb hl hok hop hi (by omega) fun H2 r2 k2 hr2=>?_;simp(maxSteps:=4000000) (disch:=omega) only[ai,↓ah,seval,LD,ak,↓FR,FW];exact hN (k - 1) _ _ (by omega) ⟨w+1,r2,by omega,hr2,hk.trans (k2.lower hn'),rfl,rfl,rfl,rfl,rfl,rfl,rfl,rfl,rfl⟩
 ·simp(maxSteps:=4000000) (disch:=omega) only[ai,↓ah,seval,LD,hJ,show ¬(r:Int)=0 by omega,ak,↓FR,FW]
  exact hQ _ _ r hk hr rfl ⟨rfl,rfl,rfl,rfl,rfl,rfl⟩
theorem Jr{n lb bb lc wb e:Nat}{l0:List Opn}{bs0:List Bf}{H:Heap}(hO:Own H lb 56 lc l0)(hB:Own H bb 180 lc bs0)(hb:bs0.length=l0.length)(hl:l0.length≤100)(hok:∀b∈bs0,wP b)(hop:∀o∈l0,zH o=0)(gw:H.get wb=some (.cells false e 10 wayC))(hwb:wb < H.n)(hd:lb≠bb∧wb≠lb∧wb≠bb)
  {tm:List IV} {lo:Nat} {Q:Out→Heap→Prop} (hlo:lo≤lb∧lo≤bb) (htm:tm.length=70) (hfr:∃(l:List Opn) (i:Nat) (rz:Int),l=l0∧i=0∧rz=0∧(Fr.mk tm []).tm.getD 8 IV.undef=.slice lb 0 l.length lc false∧(Fr.mk tm []).tm.getD 9 IV.undef=.slice bb 0 l.length lc true∧(Fr.mk tm []).tm.getD 10 IV.undef=.ptr wb 0∧(Fr.mk tm []).tm.getD 11 IV.undef=.int .i64 rz∧(Fr.mk tm []).tm.getD 12 IV.undef=.int .i64 i)
  (hQ:∀H' tm' l rz,KeepO [lb,bb] H H'→Own H' lb 56 lc l→l.length≤l0.length→(∀o∈l,zH o=0)→tm'.length=70→(Fr.mk tm' []).tm.getD 8 IV.undef=.slice lb 0 l.length lc false∧(Fr.mk tm' []).tm.getD 11 IV.undef=.int .i64 rz→Q (.ex (.jmp (.exit 0)) ⟨tm',[]⟩) H'):
  W E0 lo (.code (.loop (sK Tryz.f20 1215)) none ⟨tm,[]⟩) H Q:=by
 obtain⟨l1,i1,c1,rfl,rfl,rfl,hfr⟩:=hfr
 refine aM (fun k fr H'=>∃(l:List Opn) (bs:List Bf) (i:Nat) (rz:Int),k=l.length*101+(l.length - i)∧i≤l.length∧KeepO [lb,bb] H H'∧Own H' lb 56 lc l∧Own H' bb 180 lc bs∧bs.length=l.length∧l.length≤l1.length∧(∀b∈bs,wP b)∧(∀o∈l,zH o=0)∧fr.marks=[]∧fr.tm.length=70∧fr.tm.getD 8 IV.undef=.slice lb 0 l.length lc false∧fr.tm.getD 9 IV.undef=.slice bb 0 l.length lc true∧fr.tm.getD 10 IV.undef=.ptr wb 0∧fr.tm.getD 11 IV.undef=.int .i64 rz∧fr.tm.getD 12 IV.undef=.int .i64 i) ?_ (l1.length*101+(l1.length - 0))
  ⟨l1,bs0,0,0,rfl,Nat.zero_le _,KeepO.refl _ _,hO,hB,hb,Nat.le_refl _,hok,hop,rfl,htm,hfr⟩
 clear htm hfr;rintro k ⟨tm,mk⟩ H' ⟨l,bs,i,rz,hk0,hil,hk,hO',hB',hb',hll,hok',hop',rfl,htm,t8,t9,t10,t11,t12⟩ L1 hN hJ;have hn':=hk.1;rw[wd tm htm,t8,t9,t10,t11,t12];have hv':Sl H' (.sl lb 0 l.length lc false) l:=hO'.sl false;have hln:=hv'.ln;simp only[iN] at hln;by_cases hi:i < l.length
 case neg=>
  simp(maxSteps:=4000000) (disch:=omega) only[ai,↓ah,seval,mT,mS,mR,mQ,mP,mO,mN,mM,mL,mK,j2,j0,jZ,jY,jX,jW,jV,jU,jT,jS,(bj Tryz.f20 1215),jR,(ax Tryz.f20 1),Lu,↓hln,hJ,show ¬(i:Int) < (l.length:Int) by omega,ak,↓FR,FW]
  exact hQ _ _ l rz hk hO' hll hop' rfl ⟨rfl,rfl⟩
 simp(maxSteps:=4000000) (disch:=omega) only[ai,↓ah,seval,mT,mS,mR,mQ,mP,mO,mN,mM,mL,mK,j2,j0,jZ,jY,jX,jW,jV,jU,jT,jS,(bj Tryz.f20 1215),jR,(ax Tryz.f20 1),Lu,↓hln,show(i:Int) < (l.length:Int) by omega,ak,↓FR,FW]
 have hlbn:=hO'.lt;have hbbn:=hB'.lt;refine Qs hO' hB' hb' (by omega) hok' hop' hi ((hk.2 wb hwb (by simp;omega)).trans gw) (by omega) (by omega) rfl ⟨0,0,rfl,rfl,rfl,rfl,rfl,rfl,rfl,rfl,rfl⟩ fun H2 tm2 r k2 hr htm2 hfr2=>?_;obtain⟨t8,t9,t10,t11,t12,t13⟩:=hfr2;have hn2:=k2.1;rw[wd tm2 htm2,t8,t9,t10,t11,t12,t13];have hk2:KeepO [lb,bb] H H2:=hk.trans (KeepO.of (ow:=[lb,bb]) k2) fun x hx=>.inl hx;have hO2:=hO'.keep k2;have hB2:=hB'.keep k2;by_cases hr0:r=0
 ·subst hr0;simp(maxSteps:=4000000) (disch:=omega) only[ai,↓ah,seval,mT,mS,mR,mQ,mP,mO,mN,mM,mL,mK,j2,j0,jZ,jY,jX,jW,jV,jU,jT,jS,(bj Tryz.f20 1215),jR,(ax Tryz.f20 1),Lu,ak,↓FR,FW];exact hN (l.length*101+(l.length - (i+1))) _ _ (by omega) ⟨l,bs,i+1,rz,rfl,by omega,hk2,hO2,hB2,hb',hll,hok',hop',rfl,rfl,rfl,rfl,rfl,rfl,rfl⟩
 ·obtain⟨q1,q2⟩:i < r∧r≤l.length:=by rcases hr with h | h;exact absurd h hr0;exact h
  simp(maxSteps:=4000000) (disch:=omega) only[ai,↓ah,seval,mT,mS,mR,mQ,mP,mO,mN,mM,mL,mK,j2,j0,jZ,jY,jX,jW,jV,jU,jT,jS,(bj Tryz.f20 1215),jR,(ax Tryz.f20 1),Lu,show ¬(r:Int)=0 by omega,ak,↓FR,FW]
  refine Re hO2 hB2 hb' (by omega) hok' hd.1 q1 q2 (by omega) fun H3 bs3 n3 k3 o3 b3 hb3 hok3=>?_;simp(maxSteps:=4000000) (disch:=omega) only[ai,↓ah,seval,mT,mS,mR,mQ,mP,mO,mN,mM,mL,mK,j2,j0,jZ,jY,jX,jW,jV,jU,jT,jS,(bj Tryz.f20 1215),jR,(ax Tryz.f20 1),Lu,ak,↓FR,FW];have el:=kp l q1 q2;have hop3:∀o∈l.take i++l.drop r,zH o=0:=fun o ho=>hop' o (Iy ho);rw[←el] at hb3⊢;have hle:(l.take i++l.drop r).length < l.length:=by omega
  have hie:i≤(l.take i++l.drop r).length:=by omega
  generalize l.take i++l.drop r=l3 at o3 hop3 hb3 hle hie⊢;have hv3:Sl H3 (.sl lb 0 l3.length lc false) l3:=o3.sl false;refine Dn (v:=.sl lb 0 l3.length lc false) hv3 (by omega) hie fun j hj=>?_;simp(maxSteps:=4000000) (disch:=omega) only[ai,↓ah,seval,mT,mS,mR,mQ,mP,mO,mN,mM,mL,mK,j2,j0,jZ,jY,jX,jW,jV,jU,jT,jS,(bj Tryz.f20 1215),jR,(ax Tryz.f20 1),Lu,ak,↓FR,FW];exact hN (l3.length*101+(l3.length - j)) _ _ (by omega) ⟨l3,bs3,j,_,rfl,by omega,hk2.trans ⟨by omega,fun x h1 h2=>by simp at h2;exact k3 x h2.1 h2.2⟩ fun x hx=>.inl hx,o3,b3,hb3,by omega,hok3,hop3,rfl,rfl,rfl,rfl,rfl,rfl,rfl⟩
theorem Dp{v:SV}{l:List Opn}{H:Heap}(ht:Tabs tabs H)(hv:Sl H v l)(hl:l.length≤100){lo:Nat}{Q:Out→Heap→Prop}(hlo:lo≤H.n)
  (hq:∀H' (u:SV) (m:List Opn) (c:Int),Keep H.n H H'→Sl H' u m→m.length≤l.length→(∀H'',E3 6 H'' u)→(jN l≠0→u=.nil∧m=[]∧c=0)→Q (.val (.tuple [u.iv,.int .i64 c,.int .i64 (jN l)])) H'):
  W E0 lo (.call 20 [v.iv]) H Q:=by
 refine W.pure aX hlo ?_;rw[c20];simp(disch:=omega) only[ai,↓ah,seval,LV,ak,↓FR,FW];refine vj (by omega) fun H3 k3 hn3 gy gt0=>?_;simp(disch:=omega) only[ai,↓ah,seval,LV,↓FR,FW];refine Dl (ht.keep' k3) gy gt0 (by omega) (by omega) (hv.keep k3) hl (by omega) fun H4 cs k4 hcs hone=>?_;have hn4:=k4.1;have k14:Keep H.n H H4:=k3.trans (k4.lower (by omega));by_cases he:jN l=0
 case neg=>
  simp(disch:=omega) only[ai,↓ah,seval,LV,he,hcs,hone,ak,↓FR,FW]
  exact fun k=>hq _ .nil [] 0 k Sl.empty (Nat.zero_le _) (fun _ _ _ _ _ _ h=>by cases h) fun _=>⟨rfl,rfl,rfl⟩
 have kS:Keep H4.n H4 ((H4.new (.cells false 35 8 [.int .i64 0,.nilSlice,.nilSlice,.nilSlice,.nilSlice,.nilSlice,.nilSlice,.nilSlice])).put H4.n (.cells false 35 8 (ar [.int .i64 0,.nilSlice,.nilSlice,.nilSlice,.nilSlice,.nilSlice,.nilSlice,.nilSlice] 0 cs))):=Keep.newPut;simp(disch:=omega) only[ai,↓ah,seval,LV,he,hcs,hone,ak,↓FR,FW];generalize Heap.put _ _ _=H5 at kS⊢;have hn5:=kS.1;have k15:Keep H.n H H5:=k14.trans (kS.lower (by omega));have hall:=xy he;refine KT (hv.keep k15) hl (by omega) fun H6 u k6 hu hu0 hu1=>?_;have hn6:=k6.1;have k16:Keep H.n H H6:=k15.trans (k6.lower (by omega));simp(disch:=omega) only[ai,↓ah,seval,LV,ak,↓FR,FW];refine xU hu hl hall (by omega) fun H7 bb bs k7 hbb oB hbl hbok=>?_;have hn7:=k7.1;have k17:Keep H.n H H7:=k16.trans (k7.lower (by omega));simp(disch:=omega) only[ai,↓ah,seval,LV,ak,↓FR,FW];refine Eu (by omega) fun H8 k8=>?_;have hn8:=k8.1;have hwl:wayC.length=10:=rfl;have hwo:wayC.all IV.one=true:=rfl;have hws:ar [.int .u8 0,.nilFunc,.int .u8 0,.nilFunc,.int .u8 0,.nilFunc,.int .u8 0,.nilFunc,.int .u8 0,.nilFunc] 0 wayC=wayC:=rfl;have kN:Keep H8.n H8 ((H8.new (.cells false 115 10 [.int .u8 0,.nilFunc,.int .u8 0,.nilFunc,.int .u8 0,.nilFunc,.int .u8 0,.nilFunc,.int .u8 0,.nilFunc])).put H8.n (.cells false 115 10 wayC)):=Keep.newPut;have gN:((H8.new (.cells false 115 10 [.int .u8 0,.nilFunc,.int .u8 0,.nilFunc,.int .u8 0,.nilFunc,.int .u8 0,.nilFunc,.int .u8 0,.nilFunc])).put H8.n (.cells false 115 10 wayC)).get H8.n=some (.cells false 115 10 wayC):=by rw[aa,if_pos rfl]
 have hnN:((H8.new (.cells false 115 10 [.int .u8 0,.nilFunc,.int .u8 0,.nilFunc,.int .u8 0,.nilFunc,.int .u8 0,.nilFunc,.int .u8 0,.nilFunc])).put H8.n (.cells false 115 10 wayC)).n=H8.n+1:=rfl;simp(disch:=omega) only[ai,↓ah,seval,mT,mS,mR,mQ,mP,mO,mN,mM,mL,mK,j2,j0,jZ,jY,jX,jW,jV,jU,jT,jS,jR,(ax Tryz.f20 1),Lu,hwl,hwo,hws,ak,↓FR,FW];generalize Heap.put _ _ _=H9 at kN gN hnN⊢;obtain⟨wb,hwb⟩:∃wb,wb=H8.n:=⟨_,rfl⟩;rw[←hwb] at gN⊢;have k79:Keep H7.n H7 H9:=k8.trans (kN.lower hn8);have Y5:Keep H.n H H9:=k17.trans (k79.lower (by omega));have oB9:=oB.keep k79;have hu9:=(hu.keep k7).keep k79;clear hwl hwo hws kN k8 k3 gy gt0 k4 hcs hone kS;by_cases h0:l=[]
 ·subst h0;have hs0:=hu0 rfl;have hln:=hu9.ln;refine aM (fun k fr H'=>k=0∧H'=H9∧fr.marks=[]∧fr.tm.length=70∧fr.tm.getD 8 IV.undef=u.iv∧fr.tm.getD 12 IV.undef=.int .i64 0∧fr.tm.getD 11 IV.undef=.int .i64 0) ?_ 0 ⟨rfl,rfl,rfl,rfl,rfl,rfl,rfl⟩;rintro k ⟨tm,mk⟩ H' ⟨rfl,rfl,rfl,htm,t8,t12,t11⟩ L1 hN hJ;rw[wd tm htm,t8,t11,t12];simp(maxSteps:=4000000) (disch:=omega) only[ai,↓ah,seval,LD,↓hln,hJ,List.length_nil,ak,↓FR,FW];refine Cq hu9 (hs0 _) ?_;simp(maxSteps:=4000000) (disch:=omega) only[ai,↓ah,seval,LV,ak,↓FR,FW];have e0:IV.int .i64 0=IV.int .i64 (jN []):=by rw[he]
  have hcl:∀H'',E3 6 H'' (u.clip 6 0):=fun H'' b o n c ex h=>by
   cases u with
   | nil=>cases h
   | sl b' o' n' c' ex'=>simp only[SV.clip] at h;injection h with _ _ _ _ h;subst h;rfl
  have hq':=hq H' (u.clip 6 0) [] 0;rw[←e0] at hq';exact fun k=>hq' k (hu9.clipS jP) (Nat.le_refl _) hcl fun h=>absurd he h
 ·obtain⟨lb,rfl,hlb,oL⟩:=hu1 h0;have oL9:=(oL.keep k7).keep k79;have hlt:=oL.lt;have hbt:=oB.lt;refine Jr (n:=l.length) oL9 oB9 hbl hl hbok hall gN (by omega) ⟨by omega,by omega,by omega⟩ (by omega) rfl ⟨l,0,0,rfl,rfl,rfl,by rfl,by rfl,by rfl,by rfl,by rfl⟩ fun H10 tm' m rz k10 o10 hml hopm htm' hfr'=>?_;obtain⟨t8,t11⟩:=hfr';rw[wd tm' htm',t8,t11];simp(maxSteps:=4000000) (disch:=omega) only[ai,↓ah,seval,LV,ak,↓FR,FW];refine Cq (v:=.sl lb 0 m.length l.length false) (o10.sl false) (o10.slO jP) ?_;simp(maxSteps:=4000000) (disch:=omega) only[ai,↓ah,seval,LV,ak,↓FR,FW];have e0:IV.int .i64 0=IV.int .i64 (jN l):=by rw[he]
  rw[e0];exact fun k=>hq _ ((SV.sl lb 0 m.length l.length false).clip 6 m.length) m rz k ((o10.sl false).clipS jP) hml (fun _=>Di) fun h=>absurd he h
theorem pz{v:SV}{l:List Opn}{H:Heap}(r i:Int)(ht:Tabs tabs H)(hv:Sl H v l)(hs:∀H',E3 6 H' v):W E0 H.n (.call 5 [v.iv,.int .u8 r,.int .i64 i]) H (fun o _=>o=.val (.bool true)):=by
 rw[c5];by_cases hl:((l.length:Nat):Int)>20
 ·simp(disch:=omega) only[ai,↓ah,seval,B5,↓hv.ln,hl,↓FR,FW]
  refine Ri ht ?_;simp(disch:=omega) only[ai,↓ah,seval,B5,↓FR,FW]
 simp(disch:=omega) only[ai,↓ah,seval,B5,↓hv.ln,hl,↓FR,FW]
 refine vj (by omega) fun H2 k2 hn2 gy gt0=>?_;simp(maxSteps:=4000000) (disch:=omega) only[ai,↓ah,seval,B5,↓FR,FW];refine Dl (ht.keep' k2) gy gt0 (by omega) (by omega) (hv.keep k2) (by omega) (by omega) fun H3 cs k3 hcs hone=>?_;have hn3:=k3.1;have k13:Keep H.n H H3:=k2.trans (k3.lower (by omega));simp(maxSteps:=4000000) (disch:=omega) only[ai,↓ah,seval,B5,hcs,hone,ak,↓FR,FW];have kN:Keep H3.n H3 ((H3.new (.cells false 35 8 [.int .i64 0,.nilSlice,.nilSlice,.nilSlice,.nilSlice,.nilSlice,.nilSlice,.nilSlice])).put H3.n (.cells false 35 8 (ar [.int .i64 0,.nilSlice,.nilSlice,.nilSlice,.nilSlice,.nilSlice,.nilSlice,.nilSlice] 0 cs))):=Keep.newPut;generalize Heap.put _ _ _=H4 at kN⊢;have hn4:=kN.1;have k14:Keep H.n H H4:=k13.trans (kN.lower (by omega));refine Gs (ht.keep' k14) (hv.keep k14) (by omega) r (by omega) fun H5 u5 p5 k5 hu5 h5=>?_;have hn5:=k5.1;have k15:Keep H.n H H5:=k14.trans (k5.lower (by omega));simp(maxSteps:=4000000) (disch:=omega) only[ai,↓ah,seval,B5,ak,↓FR,FW];refine La (ht.keep' k15) (hv.keep k15) hs (by omega) r i (by omega) fun H6 u6 m6 e6 k6 hu6 h6 h6'=>?_;have hn6:=k6.1;have k16:Keep H.n H H6:=k15.trans (k6.lower (by omega));simp(maxSteps:=4000000) (disch:=omega) only[ai,↓ah,seval,B5,ak,↓FR,FW];refine Dp (ht.keep' k16) (hv.keep k16) (by omega) (by omega) fun H7 u7 m7 c7 k7 hu7 _ _ h7=>?_;have hn7:=k7.1;have k17:Keep H.n H H7:=k16.trans (k7.lower (by omega));have ht7:=ht.keep' k17;have ln5:=hu5.ln;have ln6:=hu6.ln;have ln7:=hu7.ln;by_cases hr:1≤r∧r≤5
 ·have hr1:¬r < 1:=by omega
  have hr5:¬r>5:=by omega
  have hfd:Ky r l=jN l:=by unfold Ky;rw[if_neg (fun h=>h hr)]
  rw[hfd] at h5 h6 h6'⊢;by_cases he:jN l=0
  ·rw[he];rcases h6' he with h | h<;>subst h<;>
   ·simp(maxSteps:=4000000) (disch:=omega) only[ai,↓ah,seval,B5,hr1,hr5,↓ln5,↓ln6,↓ln7,ak,↓FR,FW]
    refine Ri ht7 ?_;simp(maxSteps:=4000000) (disch:=omega) only[ai,↓ah,seval,B5,↓FR,FW]
  ·obtain rfl:=h5 he;obtain⟨rfl,rfl⟩:=h6 he;obtain⟨rfl,rfl,rfl⟩:=h7 he;have hbn:(jN l !=0)=true:=by simpa using he
   simp(maxSteps:=4000000) (disch:=omega) only[ai,↓ah,seval,B5,hr1,hr5,he,hbn,↓ln5,↓ln6,↓ln7,List.length_nil,ak,↓FR,FW]
   refine Ri ht7 ?_;simp(maxSteps:=4000000) (disch:=omega) only[ai,↓ah,seval,B5,↓FR,FW]
 ·have hfd:Ky r l=1:=by unfold Ky;rw[if_pos hr]
  rw[hfd] at h5 h6 h6'⊢;obtain rfl:=h5 (by decide);obtain⟨rfl,rfl⟩:=h6 (by decide);by_cases he:jN l=0
  ·rw[he];by_cases hr1:r < 1
   ·simp(maxSteps:=4000000) (disch:=omega) only[ai,↓ah,seval,B5,hr1,↓ln5,↓ln6,↓ln7,List.length_nil,ak,↓FR,FW]
    refine Ri ht7 ?_;simp(maxSteps:=4000000) (disch:=omega) only[ai,↓ah,seval,B5,↓FR,FW]
   ·simp(maxSteps:=4000000) (disch:=omega) only[ai,↓ah,seval,B5,hr1,show r>5 by omega,↓ln5,↓ln6,↓ln7,List.length_nil,ak,↓FR,FW]
    refine Ri ht7 ?_;simp(maxSteps:=4000000) (disch:=omega) only[ai,↓ah,seval,B5,↓FR,FW]
  ·obtain⟨rfl,rfl,rfl⟩:=h7 he;have hbn:(jN l !=0)=true:=by simpa using he
   by_cases hr1:r < 1
   ·simp(maxSteps:=4000000) (disch:=omega) only[ai,↓ah,seval,B5,hr1,he,hbn,↓ln5,↓ln6,↓ln7,List.length_nil,ak,↓FR,FW]
    refine Ri ht7 ?_;simp(maxSteps:=4000000) (disch:=omega) only[ai,↓ah,seval,B5,↓FR,FW]
   ·simp(maxSteps:=4000000) (disch:=omega) only[ai,↓ah,seval,B5,hr1,show r>5 by omega,he,hbn,↓ln5,↓ln6,↓ln7,List.length_nil,ak,↓FR,FW]
    refine Ri ht7 ?_;simp(maxSteps:=4000000) (disch:=omega) only[ai,↓ah,seval,B5,↓FR,FW]
end Go.Iso.Gen
end
