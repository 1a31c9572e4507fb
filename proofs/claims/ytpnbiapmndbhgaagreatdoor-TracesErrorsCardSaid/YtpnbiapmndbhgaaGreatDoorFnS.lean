/-
  stacks of loops.
-/
import Derived.Test.YtpnbiapmndbhgaaGreatDoorGen
set_option linter.unusedSimpArgs false
set_option linter.unusedVariables false
set_option maxHeartbeats 4000000
set_option maxRecDepth 10000
set_option linter.defProp false
section
namespace Go.Iso.Gen
open Go.Iso
structure Id where
 y:Int
 n:Int
 deriving DecidableEq,Inhabited
instance:Cell Id where
 z:=2
 cs a:=[.int .u8 a.y,.int .i64 a.n]
 len _:=rfl
 one _:=rfl
 pos:=by omega
theorem fh(a:Id):Cell.cs a=[.int .u8 a.y,.int .i64 a.n]:=rfl
theorem kT:Cell.z Id=2:=rfl
theorem gS{Q:Out→Heap→Prop}{H:Heap}{lo:Nat}{f:FuncId}{args:List IV}(v:IV)(hlo:lo≤H.n)(h:∀H',Keep H.n H H'→Q (.val v) H')(k:∀R:Out→Heap→Prop,(∀H',R (.val v) H')→W E0 H.n (.call f args) H R):W E0 lo (.call f args) H Q:=
 W.pure bu hlo (k _ fun H' hk=>h H' hk)
def bI(a:Id):Bool:=decide (a.y≥1)&&(decide (a.y≤6)&&(decide (a.n≥0)&&decide (a.n < 2048)))
theorem yv(a:Id){H:Heap}{lo:Nat}{Q:Out→Heap→Prop}(hlo:lo≤H.n)(h:∀H',Keep H.n H H'→Q (.val (.bool (bI a))) H'):W E0 lo (.call 111 [.agg (Cell.cs a)]) H Q:=by
 refine gS _ hlo h fun R hR=>?_;rw[avS];unfold bI at hR
 cases e0:decide (a.y≥1)<;>cases e1:decide (a.y≤6)<;>cases e2:decide (a.n≥0)<;>cases e3:decide (a.n < 2048)<;>simp only[e0,e1,e2,e3,xN,B3] at hR<;>simp(disch:=omega) only[ak,↓aj,seval,awE,e0,e1,e2,e3,fh]<;>exact hR _
def av(bed at_:Int):Int:=if (bed=0∨bed=1)∧1≤at_∧at_≤40 then 0 else 1
theorem cn(bed at_:Int){H:Heap}{lo:Nat}{Q:Out→Heap→Prop}(hlo:lo≤H.n)(h:∀H',Keep H.n H H'→Q (.val (.int .i64 (av bed at_))) H'):W E0 lo (.call 88 [.agg [.int .u8 bed,.int .i64 at_]]) H Q:=by
 refine gS _ hlo h fun R hR=>?_;rw[c88];unfold av at hR;by_cases h1:(bed=0∨bed=1)∧1≤at_∧at_≤40
 ·rw[if_pos h1] at hR;rcases h1 with⟨rfl | rfl,h1,h2⟩<;>simp(disch:=omega) only[ak,↓aj,seval,B88]<;>exact hR _
 ·rw[if_neg h1] at hR;by_cases h2:bed=0
  ·subst h2;by_cases h3:at_ < 1
   ·simp(disch:=omega) only[ak,↓aj,seval,B88];exact hR _
   ·simp(disch:=omega) only[ak,↓aj,seval,B88];exact hR _
  ·by_cases h2:bed=1
   ·subst h2;by_cases h3:at_ < 1
    ·simp(disch:=omega) only[ak,↓aj,seval,B88];exact hR _
    ·simp(disch:=omega) only[ak,↓aj,seval,B88];exact hR _
   ·simp(disch:=omega) only[ak,↓aj,seval,B88];exact hR _
theorem i5{v:SV}{l:List Id}{H:Heap}{lo:Nat}{Q:Out→Heap→Prop}(hv:Sl H v l)(hl:l.length≤1000000)(hlo:lo≤H.n)
  (h:∀H' b,Keep H.n H H'→H.n≤b→Own H' b 138 l.length l→Q (.val (SV.sl b 0 l.length l.length true).iv) H'):W E0 lo (.call 162 [v.iv]) H Q:=by
 refine W.pure bu hlo ?_;rw[avi];obtain⟨H2,e1,e2,e3,e4⟩:=fi hv (z:=2) rfl 138 H.n [IV.int .u8 0,.int .i64 0] rfl (au _);simp(disch:=omega) only[ak,↓aj,seval,aws,↓hv.ln,↓e1,Int.reducePow];exact fun hk=>h _ _ hk (au _) e4
theorem E3{v:SV}{l:List SV}{H:Heap}{lo:Nat}{Q:Out→Heap→Prop}(hv:Sl H v l)(hl:l.length≤1000000)(hlo:lo≤H.n)
  (h:∀H' b,Keep H.n H H'→H.n≤b→Own H' b 31 l.length l→Q (.val (SV.sl b 0 l.length l.length true).iv) H'):W E0 lo (.call 213 [v.iv]) H Q:=by
 refine W.pure bu hlo ?_;rw[auZ];obtain⟨H2,e1,e2,e3,e4⟩:=fi hv (z:=1) rfl 31 H.n [IV.nilSlice] rfl (au _);simp(disch:=omega) only[ak,↓aj,seval,awh,↓hv.ln,↓e1,Int.reducePow];exact fun hk=>h _ _ hk (au _) e4
def anz(tm:List IV)(h:tm.length=33):=(ch tm 33 h).trans (by simp only[List.range,List.range.loop,bB,bc];exact rfl)
def anD(tm:List IV)(h:tm.length=20):=(ch tm 20 h).trans (by simp only[List.range,List.range.loop,bB,bc];exact rfl)
theorem Pp{v:SV}{ls:List (List Id)}{H:Heap}{lo:Nat}{Q:Out→Heap→Prop}(hv:Sl2 H v ls)(hl:ls.length≤1000000)
  (h:Q (.val (.int .i64 (aU ls))) H):W E0 lo (.call 214 [v.iv]) H Q:=by
 rw[auY];simp(disch:=omega) only[ak,↓aj,seval,ara,↓hv.ln];refine aO (fun k fr H'=>k≤ls.length∧(∀i (h:i < ls.length),k≤i→ls[i]=[])∧H'=H∧fr.marks=[]∧fr.tm.length=20∧fr.tm.getD 0 IV.undef=v.iv∧fr.tm.getD 3 IV.undef=.int .i64 k) ?_ ls.length ⟨by omega,fun i h1 h2=>by omega,rfl,rfl,rfl,rfl,rfl⟩;rintro k ⟨tm,mk⟩ H' ⟨hk,hp,rfl,rfl,htm,h0,h3⟩ L hN hJ;rw[anD tm htm,h0,h3];by_cases hk0:k=0
 ·have:k=aU ls:=uf hk hp (fun m _ h=>by omega)
  subst hk0;rw[←this] at h;simp(disch:=omega) only[ak,↓aj,seval,acK,hJ];exact h
 ·obtain⟨w,r1,r2,r3⟩:=hv.elem (k - 1) (by omega);have hkk:((k:Int) - 1).toNat=k - 1:=by omega
  by_cases he:ls[k - 1]'(by omega)=[]
  ·rw[he] at r2;simp(disch:=omega) only[ak,↓aj,seval,acK,↓hv.idx,↓hv.ln,hkk,r1,↓r2.ln];refine hN (k - 1) _ _ (by omega) ⟨by omega,fun i h1 h2=>?_,rfl,rfl,rfl,rfl,by simp;omega⟩;by_cases hik:i=k - 1
   ·subst hik;exact he
   ·exact hp i h1 (by omega)
  ·have:k=aU ls:=uf hk hp (fun m hm h=>by
                                                       have:m=k - 1:=by omega
                                                       subst this;exact he)
   have hpos:0 < (ls[k - 1]'(by omega)).length:=List.length_pos_iff.2 he;rw[←this] at h;simp(disch:=omega) only[ak,↓aj,seval,acK,↓hv.idx,↓hv.ln,hkk,r1,↓r2.ln,hJ];exact h
def mF(fs bs:List (List Id))(bed at_:Int):List Id:=if av bed at_=0 then((if bed=1 then bs else fs)[(at_ - 1).toNat]?).getD [] else[]
def bv(f b:SV):IV:=.agg [f.iv,b.iv]
theorem uR{f b:SV}{fs bs:List (List Id)}(bed at_:Int){H:Heap}{lo:Nat}{Q:Out→Heap→Prop}(hf:Sl2 H f fs)(hb:Sl2 H b bs)(hl:∀l∈fs,l.length≤1000000)(hl':∀l∈bs,l.length≤1000000)(hlo:lo≤H.n)
  (h:∀H' v,Keep H.n H H'→Fresh H.n H' 138 v (mF fs bs bed at_)→Q (.val v.iv) H'):W E0 lo (.call 128 [bv f b,.agg [.int .u8 bed,.int .i64 at_]]) H Q:=by
 refine W.pure bu hlo ?_;rw[avB];simp(disch:=omega) only[ak,↓aj,seval,FH,bv];refine cn bed at_ (by simp only[ac];omega) fun H1 k1=>?_;have hn1:=k1.1;simp only[ac] at hn1;have kr:=k1.read;have kk:Keep H.n H H1:=((Keep.new _ _).trans (Keep.new _ _)).trans (k1.lower (by simp only[ac];omega));simp only[ac] at kr;unfold av;by_cases hv:(bed=0∨bed=1)∧1≤at_∧at_≤40
 case neg=>
  rw[if_neg hv];simp(disch:=omega) only[ak,↓aj,seval,FH];exact fun hk=>h _ .nil hk (.inl ⟨rfl,by simp[mF,av,hv]⟩)
 rw[if_pos hv];have hat:mF fs bs bed at_=((if bed=1 then bs else fs)[(at_ - 1).toNat]?).getD []:=by simp[mF,av,hv]
 rw[hat] at h;obtain⟨hbed,h1,h2⟩:=hv;have hat1:(at_ - 1).toNat+1=at_.toNat:=by omega
 rcases hbed with rfl | rfl
 ·simp only[Int.reduceEq,if_false] at h;by_cases hin:at_>fs.length
  ·have:fs[(at_ - 1).toNat]? =none:=ji (by omega)
   rw[this] at h;simp(disch:=omega) only[ak,↓aj,seval,FH,kr,↓hf.ln];exact fun hk=>h _ .nil hk (.inl ⟨rfl,rfl⟩)
  ·have hlt:(at_ - 1).toNat < fs.length:=by omega
   rw[ca hlt,gQ] at h;obtain⟨w,r1,r2,r3⟩:=(hf.keep kk).elem _ hlt;simp(disch:=omega) only[ak,↓aj,seval,FH,kr,↓hf.ln,↓hf.idx,r1];refine i5 r2 (hl _ (bm _)) (by omega) fun H2 c k2 hc ho=>?_;simp(disch:=omega) only[ak,↓aj,seval,FH];exact fun hk=>h _ _ hk (.inr ⟨c,rfl,by omega,ho⟩)
 ·simp only[if_true] at h;by_cases hin:at_>bs.length
  ·have:bs[(at_ - 1).toNat]? =none:=ji (by omega)
   rw[this] at h;simp(disch:=omega) only[ak,↓aj,seval,FH,kr,↓hb.ln];exact fun hk=>h _ .nil hk (.inl ⟨rfl,rfl⟩)
  ·have hlt:(at_ - 1).toNat < bs.length:=by omega
   rw[ca hlt,gQ] at h;obtain⟨w,r1,r2,r3⟩:=(hb.keep kk).elem _ hlt;simp(disch:=omega) only[ak,↓aj,seval,FH,kr,↓hb.ln,↓hb.idx,r1];refine i5 r2 (hl' _ (bm _)) (by omega) fun H2 c k2 hc ho=>?_;simp(disch:=omega) only[ak,↓aj,seval,FH];exact fun hk=>h _ _ hk (.inr ⟨c,rfl,by omega,ho⟩)
def anA(tm:List IV)(h:tm.length=29):=(ch tm 29 h).trans (by simp only[List.range,List.range.loop,bB,bc];exact rfl)
theorem rL{v:SV}{ls:List (List Id)}{yb l1 lo:Nat}{bed:Int}{rd:Option Nat}{mk:List Nat}{Q:Out→Heap→Prop}(P:Nat→Heap→Prop)(D:Heap→Prop)(hls:ls.length≤1000000)
  (hP:∀i H',P i H'→Sl2 H' v ls∧H'.read yb 0 1=some [.yield l1])
  (step:∀i w H',(hi:i < ls.length)→i < 40→P i H'→Sl H' w ls[i]→∀K:Out→Heap→Prop,(∀H'',P (i+1) H''→K (.val (.bool true)) H'')→(∀H'',D H''→K (.val (.bool false)) H'')→W E0 lo (.apply (.yield l1) [.agg [.int .u8 bed,.int .i64 ((i:Int)+1)],w.iv]) H' K)
  {H:Heap} {tm:List IV} (h0:P 0 H) (htm:tm.length=29) (t2:tm.getD 2 IV.undef=.ptr yb 0) (t3:tm.getD 3 IV.undef=.int .u8 bed) (t11:tm.getD 11 IV.undef=v.iv) (t12:tm.getD 12 IV.undef=.int .i64 ls.length) (t13:tm.getD 13 IV.undef=.int .i64 0)
  (hQ:∀H' tm',P (min ls.length 40) H'→Q (.ex (.jmp (.exit 2)) ⟨tm',mk⟩) H') (hD:∀H' tm',D H'→Q (.ex (.jmp .ret) ⟨tm',mk⟩) H'):W E0 lo (.code (.loop Dc) rd ⟨tm,mk⟩) H Q:=by
 refine aO (fun k fr H'=>∃i,i+k=ls.length∧i≤40∧P i H'∧fr.marks=mk∧fr.tm.length=29∧fr.tm.getD 2 IV.undef=.ptr yb 0∧fr.tm.getD 3 IV.undef=.int .u8 bed∧fr.tm.getD 11 IV.undef=v.iv∧fr.tm.getD 12 IV.undef=.int .i64 ls.length∧fr.tm.getD 13 IV.undef=.int .i64 i) ?_ ls.length ⟨0,by omega,by omega,h0,rfl,htm,t2,t3,t11,t12,t13⟩;rintro k ⟨tm,mk⟩ H' ⟨i,hi,h40,hp,rfl,htm,t2,t3,t11,t12,t13⟩ L hN hJ;rw[anA tm htm,t2,t3,t11,t12,t13];obtain⟨hv,hy⟩:=hP i H' hp;by_cases hil:i < ls.length
 ·obtain⟨w,r1,r2,r3⟩:=hv.elem i hil;by_cases h4:i < 40
  ·simp(disch:=omega) only[ak,↓aj,seval,FB,↓hv.idx,r1,hy]
   rw[←Fj];refine step i w H' hil h4 hp r2 _ (fun H'' h''=>?_) (fun H'' h''=>?_)
   ·simp(disch:=omega) only[ak,↓aj,seval,FB]
    exact hN (k - 1) _ _ (by omega) ⟨i+1,by omega,by omega,h'',rfl,rfl,rfl,rfl,rfl,rfl,rfl⟩
   ·simp(disch:=omega) only[ak,↓aj,seval,FB,hJ]
    exact hD _ _ h''
  ·simp(disch:=omega) only[ak,↓aj,seval,FB,↓hv.idx,r1,hJ]
   refine hQ _ _ ?_;rw[show min ls.length 40=i from by omega];exact hp
 ·simp(disch:=omega) only[ak,↓aj,seval,FB,hJ]
  refine hQ _ _ ?_;rw[show min ls.length 40=i from by omega];exact hp
def eJ(ls:List (List Id)):Nat:=(ls.map List.length).sum
theorem oX(ls:List (List Id))(i:Nat)(h:i < ls.length):eJ (ls.take (i+1))=eJ (ls.take i)+ls[i].length:=by
 unfold eJ;rw[fg h,pw,List.sum_append];simp
theorem Iu(ls:List (List Id))(m:Nat)(hm:∀l∈ls,l.length≤m)(i:Nat):eJ (ls.take i)≤i*m:=by
 induction i with
 | zero=>simp[eJ]
 | succ i ih=>
   by_cases h:i < ls.length
   ·rw[oX ls i h,dB]
    have:=hm ls[i] (bm h)
    omega
   ·rw[eW (by omega)];rw[eW (by omega)] at ih;rw[dB];omega
theorem AC{f b:SV}{fs bs:List (List Id)}{H:Heap}{lo l1 nb:Nat}{R:Out→Heap→Prop}(P:Nat→Nat→Heap→Prop)(D:Heap→Prop)(hlo:lo≤H.n)(hlf:fs.length≤1000000)(hlb:bs.length≤1000000)
  (hnb:nb < H.n) (hg:H.read nb 0 2=some [f.iv,b.iv])
  (hPs:∀c i H' H'',P c i H'→H'.n≤H''.n→(∀x,x < H.n→H''.get x=H'.get x)→P c i H'')
  (hDs:∀H' H'',D H'→H'.n≤H''.n→(∀x,x < H.n→H''.get x=H'.get x)→D H'')
  (hPd:∀c i H',P c i H'→Sl2 H' f fs∧Sl2 H' b bs)
  (step0:∀i w H',(hi:i < fs.length)→i < 40→H.n≤H'.n→P 0 i H'→Sl H' w fs[i]→∀K:Out→Heap→Prop,(∀H'',P 0 (i+1) H''→H'.n≤H''.n→(∀x,H.n≤x→x < H'.n→H''.get x=H'.get x)→K (.val (.bool true)) H'')→(∀H'',D H''→H'.n≤H''.n→(∀x,H.n≤x→x < H'.n→H''.get x=H'.get x)→K (.val (.bool false)) H'')→W E0 lo (.apply (.yield l1) [.agg [.int .u8 0,.int .i64 ((i:Int)+1)],w.iv]) H' K)
  (step1:∀i w H',(hi:i < bs.length)→i < 40→H.n≤H'.n→P 1 i H'→Sl H' w bs[i]→∀K:Out→Heap→Prop,(∀H'',P 1 (i+1) H''→H'.n≤H''.n→(∀x,H.n≤x→x < H'.n→H''.get x=H'.get x)→K (.val (.bool true)) H'')→(∀H'',D H''→H'.n≤H''.n→(∀x,H.n≤x→x < H'.n→H''.get x=H'.get x)→K (.val (.bool false)) H'')→W E0 lo (.apply (.yield l1) [.agg [.int .u8 1,.int .i64 ((i:Int)+1)],w.iv]) H' K)
  (h0:P 0 0 H) (h01:∀H',P 0 (min fs.length 40) H'→P 1 0 H')
  (hQ:∀H',P 1 (min bs.length 40) H'→H.n≤H'.n→R (.val (.tuple [])) H') (hD:∀H',D H'→H.n≤H'.n→R (.val (.tuple [])) H'):W E0 lo (.call 185 [.yield l1,.ptr nb 0]) H R:=by
 rw[ave];obtain⟨hf,hb⟩:=hPd 0 0 H h0;simp(disch:=omega) only[ak,↓aj,seval,Oz,kR,kQ,Rz,Ry,↓hf.ln,↓hb.ln,hg];generalize hH1:Heap.put _ _ _=H1;have hn1:H1.n=H.n+4:=by rw[←hH1];rfl
 have g0:=congrArg (fun h0=>Heap.get h0 (H.n)) hH1.symm;simp(disch:=omega) only[ak,↓aj,seval] at g0;have g1:=congrArg (fun h0=>Heap.get h0 (H.n+1)) hH1.symm;simp(disch:=omega) only[ak,↓aj,seval] at g1;have g2:=congrArg (fun h0=>Heap.get h0 (H.n+2)) hH1.symm;simp(disch:=omega) only[ak,↓aj,seval] at g2;have g3:=congrArg (fun h0=>Heap.get h0 (H.n+3)) hH1.symm;simp(disch:=omega) only[ak,↓aj,seval] at g3
 have k1:∀x,x < H.n→H1.get x=H.get x:=fun x hx=>by
  have gx:=congrArg (fun h0=>Heap.get h0 x) hH1.symm;simp(disch:=omega) only[ak,↓aj,seval] at gx;exact gx
 clear hH1;refine rL (yb:=H.n) (l1:=l1) (fun i H'=>P 0 i H'∧H1.n≤H'.n∧∀x,H.n≤x→x < H1.n→H'.get x=H1.get x) (fun H'=>D H'∧H1.n≤H'.n∧∀x,H.n≤x→x < H1.n→H'.get x=H1.get x) hlf (fun i H' hp=>⟨(hPd 0 i H' hp.1).1,by rw[af ((hp.2.2 H.n (by omega) (by omega)).trans g0)];rfl⟩) ?_ ⟨hPs 0 0 H H1 h0 (by omega) k1,au _,fun _ _ _=>rfl⟩ rfl rfl rfl rfl rfl rfl ?_ ?_
 ·intro i w H' hi h4 hp hw K hK hK';refine step0 i w H' hi h4 (by omega) hp.1 hw K (fun H'' a1 a2 a3=>hK H'' ⟨a1,by omega,fun x b1 b2=>(a3 x b1 (by omega)).trans (hp.2.2 x b1 b2)⟩) (fun H'' a1 a2 a3=>hK' H'' ⟨a1,by omega,fun x b1 b2=>(a3 x b1 (by omega)).trans (hp.2.2 x b1 b2)⟩)
 ·rintro H2 tm' ⟨hp2,hn2,hk2⟩;have f0:=(hk2 _ (by omega) (by omega)).trans g0;have f1:=(hk2 _ (by omega) (by omega)).trans g1;have f2:=(hk2 _ (by omega) (by omega)).trans g2;have f3:=(hk2 _ (by omega) (by omega)).trans g3;have r1:=af f1;simp(disch:=omega) only[ak,↓aj,seval,Oz,kR,kQ,f3,r1,↓hf.ln,↓hb.ln];generalize hH3:Heap.put _ _ _=H3;have hn3:H3.n=H2.n:=by rw[←hH3];rfl
  have k3:∀x,x≠H.n+3→H3.get x=H2.get x:=fun x hx=>by
   rw[←hH3,ae,if_neg (Ne.symm hx),ae,if_neg (Ne.symm hx)]
  have e3:=congrArg (fun h0=>Heap.get h0 (H.n+3)) hH3.symm;simp(disch:=omega) only[ak,↓aj,seval] at e3;have e0:=(k3 H.n (by omega)).trans f0;have e1:=(k3 (H.n+1) (by omega)).trans f1;have e2:=(k3 (H.n+2) (by omega)).trans f2;clear hH3 f0 f1 f2 f3 r1;refine rL (yb:=H.n) (l1:=l1) (fun i H'=>P 1 i H'∧H3.n≤H'.n∧∀x,H.n≤x→x < H3.n→H'.get x=H3.get x) (fun H'=>D H'∧H3.n≤H'.n∧∀x,H.n≤x→x < H3.n→H'.get x=H3.get x) hlb (fun i H' hp=>⟨(hPd 1 i H' hp.1).2,by rw[af ((hp.2.2 H.n (by omega) (by omega)).trans e0)];rfl⟩) ?_ ⟨hPs 1 0 H2 H3 (h01 H2 hp2) (by omega) (fun x hx=>k3 x (by omega)),au _,fun _ _ _=>rfl⟩ rfl rfl rfl rfl rfl rfl ?_ ?_
  ·intro i w H' hi h4 hp hw K hK hK';refine step1 i w H' hi h4 (by omega) hp.1 hw K (fun H'' a1 a2 a3=>hK H'' ⟨a1,by omega,fun x b1 b2=>(a3 x b1 (by omega)).trans (hp.2.2 x b1 b2)⟩) (fun H'' a1 a2 a3=>hK' H'' ⟨a1,by omega,fun x b1 b2=>(a3 x b1 (by omega)).trans (hp.2.2 x b1 b2)⟩)
  ·rintro H4 tm4 ⟨hp4,hn4,hk4⟩;have f2:=(hk4 _ (by omega) (by omega)).trans e2;have f3:=(hk4 _ (by omega) (by omega)).trans e3;simp(disch:=omega) only[ak,↓aj,seval,Oz,kR,kQ,f2,f3];refine hQ _ (hPs 1 _ H4 _ hp4 (au _) fun x hx=>?_) (by simp only[ai];omega);simp(disch:=omega) only[ak,↓aj,seval]
  ·rintro H4 tm4 ⟨hp4,hn4,hk4⟩;have f2:=(hk4 _ (by omega) (by omega)).trans e2;have f3:=(hk4 _ (by omega) (by omega)).trans e3;simp(disch:=omega) only[ak,↓aj,seval,Oz,kR,kQ,f2,f3];refine hD _ (hDs H4 _ hp4 (au _) fun x hx=>?_) (by simp only[ai];omega);simp(disch:=omega) only[ak,↓aj,seval]
 ·rintro H2 tm' ⟨hp2,hn2,hk2⟩;have f2:=(hk2 _ (by omega) (by omega)).trans g2;have f3:=(hk2 _ (by omega) (by omega)).trans g3;simp(disch:=omega) only[ak,↓aj,seval,Oz,kR,kQ,f2,f3];refine hD _ (hDs H2 _ hp2 (au _) fun x hx=>?_) (by simp only[ai];omega);simp(disch:=omega) only[ak,↓aj,seval]
theorem E2{f b:SV}{fs bs:List (List Id)}{H:Heap}{lo:Nat}{Q:Out→Heap→Prop}(hf:Sl2 H f fs)(hb:Sl2 H b bs)(hlf:fs.length≤1000000)(hlb:bs.length≤1000000)(hl:∀l∈fs,l.length≤1000000)(hl':∀l∈bs,l.length≤1000000)(hlo:lo≤H.n)
  (h:∀H',Keep H.n H H'→Q (.val (.int .i64 (eJ (fs.take 40)+eJ (bs.take 40):Nat))) H'):W E0 lo (.call 112 [bv f b]) H Q:=by
 refine gS _ hlo h fun R hR=>?_;rw[avR];simp(disch:=omega) only[ak,↓aj,seval,ao9,arh,bv,ap4];generalize hH1:Heap.new _ _=H1;have hn1:H1.n=H.n+5:=by rw[←hH1];rfl
 have g1:=congrArg (fun h0=>Heap.get h0 (H.n+1)) hH1.symm;simp(disch:=omega) only[ak,↓aj,seval] at g1;have g2:=congrArg (fun h0=>Heap.get h0 (H.n+2)) hH1.symm;simp(disch:=omega) only[ak,↓aj,seval] at g2;have g3:=congrArg (fun h0=>Heap.get h0 (H.n+3)) hH1.symm;simp(disch:=omega) only[ak,↓aj,seval] at g3;have g4:=congrArg (fun h0=>Heap.get h0 (H.n+4)) hH1.symm;simp(disch:=omega) only[ak,↓aj,seval] at g4
 have k1:Keep H.n H H1:=⟨by omega,fun x hx _=>by
  have gx:=congrArg (fun h0=>Heap.get h0 x) hH1.symm;simp(disch:=omega) only[ak,↓aj,seval] at gx;exact gx⟩
 clear hH1;have r2:=af g2;have hle:=Iu fs 1000000 hl;have hle':=Iu bs 1000000 hl';have hPd:∀H',H1.n≤H'.n→(∀x,x < H1.n→x≠H.n+1→H'.get x=H1.get x)→Keep H.n H H':=fun H' a1 a2=>⟨by omega,fun x h1 _=>(a2 x (by omega) (by omega)).trans (k1.2 x h1 h1)⟩
 have hstep:∀(bed:Int) (i:Nat) (w:SV) (l:List Id) (s:Nat) (H':Heap),s≤80000000→l.length≤1000000→H1.n≤H'.n→(∀x,x < H1.n→x≠H.n+1→H'.get x=H1.get x)→H'.get (H.n+1)=some (.cells false 3 1 [.int .i64 s])→Sl H' w l→∀K:Out→Heap→Prop,(∀H'',(∀x,x < H1.n→x≠H.n+1→H''.get x=H1.get x)→H''.get (H.n+1)=some (.cells false 3 1 [.int .i64 ((s+l.length:Nat):Int)])→H'.n≤H''.n→(∀x,H1.n≤x→x < H'.n→H''.get x=H'.get x)→K (.val (.bool true)) H'')→W E0 H.n (.apply (.yield (H.n+4)) [.agg [.int .u8 bed,.int .i64 ((i:Int)+1)],w.iv]) H' K:=by
  intro bed i w l s H' hs hl hn hk hg hw K hK;have e4:=(hk (H.n+4) (by omega) (by omega)).trans g4;have er:=af hg;simp(disch:=omega) only[ak,↓aj,seval,ao9,e4,er,hg,↓hw.ln];refine hK _ (fun x h1 h2=>?_) ?_ (au _) (fun x h1 h2=>?_)
  ·by_cases hx:x=H.n+4
   ·subst hx;simp(disch:=omega) only[ak,↓aj,seval,g4]
   ·rw[ae,if_neg (Ne.symm hx),ae,if_neg (Ne.symm h2),ae,if_neg (Ne.symm hx)];exact hk x h1 h2
  ·simp(disch:=omega) only[ak,↓aj,seval,Int.natCast_add]
  ·simp(disch:=omega) only[ak,↓aj,seval]
 refine AC (f:=f) (b:=b) (fs:=fs) (bs:=bs) (fun c i H'=>H1.n≤H'.n∧(∀x,x < H1.n→x≠H.n+1→H'.get x=H1.get x)∧H'.get (H.n+1)=some (.cells false 3 1 [.int .i64 ((if c=0 then eJ (fs.take i) else eJ (fs.take 40)+eJ (bs.take i):Nat):Int)])) (fun _=>False) (by omega) hlf hlb (by omega) (by rw[r2];rfl) ?_ ?_ ?_ ?_ ?_ ?_ ?_ ?_ ?_
 ·rintro c i H' H'' ⟨a1,a2,a3⟩ b1 b2;exact⟨by omega,fun x h1 h2=>(b2 x h1).trans (a2 x h1 h2),(b2 _ (by omega)).trans a3⟩
 ·exact fun _ _ h _ _=>h
 ·rintro c i H' ⟨a1,a2,a3⟩;exact⟨hf.keep (hPd H' a1 a2),hb.keep (hPd H' a1 a2)⟩
 ·rintro i w H' hi h4 hn ⟨a1,a2,a3⟩ hw K hK hK';rw[if_pos rfl] at a3
  have:=hle i
  refine hstep 0 i w fs[i] _ H' (by omega) (hl _ (bm _)) a1 a2 a3 hw K fun H'' c1 c2 c3 c4=>hK H'' ⟨by omega,c1,?_⟩ c3 c4;rw[if_pos rfl,oX fs i hi];exact c2
 ·rintro i w H' hi h4 hn ⟨a1,a2,a3⟩ hw K hK hK';rw[if_neg (by omega)] at a3
  have:=hle 40
  have:=hle' i
  refine hstep 1 i w bs[i] _ H' (by omega) (hl' _ (bm _)) a1 a2 a3 hw K fun H'' c1 c2 c3 c4=>hK H'' ⟨by omega,c1,?_⟩ c3 c4;rw[if_neg (by omega),oX bs i hi,←jY];exact c2
 ·exact⟨au _,fun _ _ _=>rfl,g1⟩
 ·rintro H' ⟨a1,a2,a3⟩;refine⟨a1,a2,?_⟩;rw[if_pos rfl] at a3;rw[if_neg (by omega),List.take_zero,a3];by_cases h4:fs.length≤40
  ·rw[show min fs.length 40=fs.length from by omega,xQ,eW h4];rfl
  ·rw[show min fs.length 40=40 from by omega];rfl
 ·rintro H' ⟨a1,a2,a3⟩ hn;rw[if_neg (by omega)] at a3;have e3:=(a2 (H.n+3) (by omega) (by omega)).trans g3;have e4:=(a2 (H.n+4) (by omega) (by omega)).trans g4;have er:=af a3
  have hb4:bs.take (min bs.length 40)=bs.take 40:=by
   by_cases h4:bs.length≤40
   ·rw[show min bs.length 40=bs.length from by omega,xQ,eW h4]
   ·rw[show min bs.length 40=40 from by omega]
  simp(disch:=omega) only[ak,↓aj,seval,ao9,e3,e4,er,hb4]
  exact hR _
 ·exact fun _ h=>h.elim
def auL(tm:List IV)(h:tm.length=19):=(ch tm 19 h).trans (by simp only[List.range,List.range.loop,bB,bc];exact rfl)
def iu:List Id→Nat→List (IV×IV×Nat)
 | [],_=>[]
 | k::ks,s=>(.agg (Cell.cs k),.bool true,s)::iu ks (s+1)
def ad3:Bool×List Pk:=(true,[.int,.int])
theorem Ez(a b:Id):eT ad3 (.agg (Cell.cs a)) (.agg (Cell.cs b))=some (decide (a=b)):=by
 simp only[eT,ad3,aX,rq,if_true,IV.cells,fh,iF,N7]
 cases a with | mk y n=>cases b with | mk y' n'=>
 congr 1;by_cases h1:y=y'<;>by_cases h2:n=n'<;>simp[h1,h2]
theorem Ey(a:Id):cp ad3 (.agg (Cell.cs a))=true:=rfl
theorem Iz(a:Id):∀(ks:List Id) (s i:Nat),∃r,aK ad3 (.agg (Cell.cs a)) (iu ks s) i=some r∧((a∈ks∧∃j,r=some (i+j,.bool true)∧dz (.agg (Cell.cs a)) (.bool true) (iu ks s) j=iu ks s)∨(a∉ks∧r=none)):=by
 intro ks
 induction ks with
 | nil=>intro s i;exact⟨none,rfl,.inr ⟨by simp,rfl⟩⟩
 | cons k ks ih=>
   intro s i;by_cases h:a=k
   ·subst h;refine⟨some (i,.bool true),?_,.inl ⟨by simp,0,rfl,rfl⟩⟩;simp only[iu,aK,Ez,decide_true]
   ·obtain⟨r,h1,h2⟩:=ih (s+1) (i+1);refine⟨r,?_,?_⟩
    ·simp only[iu,aK,Ez,decide_eq_false h];exact h1
    ·rcases h2 with⟨h2,j,h3,h4⟩ | ⟨h2,h3⟩
     ·refine .inl ⟨by simp[h2],j+1,by rw[h3];congr 2;omega,?_⟩;simp only[iu,dz,h4]
     ·exact .inr ⟨by simp[h,h2],h3⟩
theorem rN:∀(ks:List Id) (a:Id) (s:Nat),iu (ks++[a]) s=iu ks s++[(.agg (Cell.cs a),.bool true,s+ks.length)]
 | [],a,s=>rfl
 | k::ks,a,s=>by
   rw[xZ,iu,rN ks a (s+1),iu,xZ,fe,show s+1+ks.length=s+(ks.length+1) from by omega]
def MapIds(H:Heap)(mb:Nat)(ks:List Id):Prop:=H.get mb=some (.map (iu ks 0) ks.length)
theorem MapIds.look{H:Heap}{mb:Nat}{ks:List Id}(h:MapIds H mb ks)(a:Id)(t lo:Nat):ev1 (.lookup t (true,[.int,.int]) (.bool false) false) [.map mb,.agg [.int .u8 a.y,.int .i64 a.n]] lo H=some (.bool (decide (a∈ks)),H):=by
 have h:H.get mb=some (.map (iu ks 0) ks.length):=h;obtain⟨r,h1,h2⟩:=Iz a ks 0 0;have h1':aK (true,[.int,.int]) (.agg [.int .u8 a.y,.int .i64 a.n]) (iu ks 0) 0=some r:=h1;have hk:cp (true,[.int,.int]) (.agg [.int .u8 a.y,.int .i64 a.n])=true:=Ey a;simp only[ev1,aF,h,cx,hk,if_true,h1'];rcases h2 with⟨h2,j,rfl,_⟩ | ⟨h2,rfl⟩
 ·rw[decide_eq_true h2];rfl
 ·rw[decide_eq_false h2];rfl
theorem MapIds.upd{H:Heap}{mb:Nat}{ks:List Id}(h:MapIds H mb ks)(a:Id)(lo:Nat)(hlo:lo≤mb):∃ob,ev1 (.mapUpd (true,[.int,.int])) [.map mb,.agg [.int .u8 a.y,.int .i64 a.n],.bool true] lo H=some (IV.undef,H.put mb ob)∧ob=.map (iu (if a∈ks then ks else ks++[a]) 0) (if a∈ks then ks else ks++[a]).length:=by
 have h:H.get mb=some (.map (iu ks 0) ks.length):=h;obtain⟨r,h1,h2⟩:=Iz a ks 0 0;have h1':aK (true,[.int,.int]) (.agg [.int .u8 a.y,.int .i64 a.n]) (iu ks 0) 0=some r:=h1;have hk:cp (true,[.int,.int]) (.agg [.int .u8 a.y,.int .i64 a.n])=true:=Ey a;simp only[ev1,aF,h,hk,h1',hlo,and_self,if_true];rcases h2 with⟨h2,j,rfl,h3⟩ | ⟨h2,rfl⟩
 ·rw[if_pos h2];refine⟨_,rfl,?_⟩;rw[bL];exact congrArg (fun x=>IObj.map x ks.length) h3
 ·rw[if_neg h2];refine⟨_,rfl,?_⟩;rw[rN,bL,aW];rfl
def nr(tm:List IV)(h:tm.length=84):=(ch tm 84 h).trans (by simp only[List.range,List.range.loop,bB,bc];exact rfl)
theorem uN{v:SV}{ls:List (List Id)}{rb lo:Nat}{x:IV}{H:Heap}{Q:Out→Heap→Prop}{rd:Option Nat}{mk:List Nat}{tm:List IV}(hv:Sl2 H v ls)(hl:ls.length≤1000000)(hll:∀l∈ls,l.length≤1000000)
  (hg:H.get rb=some (.cells false 36 1 [x])) (hlo:lo≤rb) (htm:tm.length=84) (t2:tm.getD 2 IV.undef=.ptr rb 0) (t27:tm.getD 27 IV.undef=v.iv) (t28:tm.getD 28 IV.undef=.int .i64 ls.length) (t29:tm.getD 29 IV.undef=.int .i64 0)
  (hQ:(∀l∈ls,l.length≤4)→∀tm',Q (.ex (.jmp (.exit 2)) ⟨tm',mk⟩) H) (hR:(∃l∈ls,l.length>4)→∀tm',Q (.ex (.jmp .ret) ⟨tm',mk⟩) (H.put rb (.cells false 36 1 [.int .i64 9]))):W E0 lo (.code (.loop Hy) rd ⟨tm,mk⟩) H Q:=by
 refine aO (fun k fr H'=>∃i,i+k=ls.length∧(∀j (h:j < ls.length),j < i→ls[j].length≤4)∧H'=H∧fr.marks=mk∧fr.tm.length=84∧fr.tm.getD 2 IV.undef=.ptr rb 0∧fr.tm.getD 27 IV.undef=v.iv∧fr.tm.getD 28 IV.undef=.int .i64 ls.length∧fr.tm.getD 29 IV.undef=.int .i64 i) ?_ ls.length ⟨0,by omega,fun j _ h=>by omega,rfl,rfl,htm,t2,t27,t28,t29⟩;rintro k ⟨tm,mk⟩ H' ⟨i,hi,hp,rfl,rfl,htm,t2,t27,t28,t29⟩ L hN hJ;rw[nr tm htm,t2,t27,t28,t29];by_cases hil:i < ls.length
 ·obtain⟨w,r1,r2,r3⟩:=hv.elem i hil;have hli:=hll _ (bm hil);by_cases h4:ls[i].length>4
  ·simp(disch:=omega) only[ak,↓aj,seval,mK,↓hv.idx,r1,↓r2.ln,hg,hJ]
   exact hR ⟨_,bm hil,h4⟩ _
  ·simp(disch:=omega) only[ak,↓aj,seval,mK,↓hv.idx,r1,↓r2.ln]
   refine hN (k - 1) _ _ (by omega) ⟨i+1,by omega,fun j h1 h2=>?_,rfl,rfl,rfl,rfl,rfl,rfl,rfl⟩;by_cases hj:j=i
   ·subst hj;omega
   ·exact hp j h1 (by omega)
 ·simp(disch:=omega) only[ak,↓aj,seval,mK,hJ]
  refine hQ (fun l hl=>?_) _;obtain⟨j,hj,rfl⟩:=List.mem_iff_getElem.1 hl;exact hp j hj (by omega)
theorem CT{w:SV}{l:List Id}{rb lo:Nat}{x:IV}{H:Heap}{Q:Out→Heap→Prop}{rd:Option Nat}{mk:List Nat}{tm:List IV}(hw:Sl H w l)(hl:l.length≤1000000)
  (hg:H.get rb=some (.cells false 36 1 [x])) (hrb:rb < H.n) (hlo:lo≤rb) (htm:tm.length=84) (t2:tm.getD 2 IV.undef=.ptr rb 0) (t47:tm.getD 47 IV.undef=w.iv) (t48:tm.getD 48 IV.undef=.int .i64 l.length) (t49:tm.getD 49 IV.undef=.int .i64 0)
  (hQ:(∀a∈l,bI a=true)→∀H' tm',Keep H.n H H'→tm'.length=84→tm'.getD 2 IV.undef=.ptr rb 0→tm'.getD 41 IV.undef=tm.getD 41 IV.undef→tm'.getD 42 IV.undef=tm.getD 42 IV.undef→tm'.getD 43 IV.undef=tm.getD 43 IV.undef→Q (.ex (.jmp (.exit 8)) ⟨tm',mk⟩) H') (hR:(∃a∈l,bI a=false)→∀H' tm',Keep H.n H H'→Q (.ex (.jmp .ret) ⟨tm',mk⟩) (H'.put rb (.cells false 36 1 [.int .i64 1]))):W E0 lo (.code (.loop Hx) rd ⟨tm,mk⟩) H Q:=by
 refine aO (fun k fr H'=>∃i,i+k=l.length∧(∀j (h:j < l.length),j < i→bI l[j]=true)∧Keep H.n H H'∧fr.marks=mk∧fr.tm.length=84∧fr.tm.getD 2 IV.undef=.ptr rb 0∧fr.tm.getD 47 IV.undef=w.iv∧fr.tm.getD 48 IV.undef=.int .i64 l.length∧fr.tm.getD 49 IV.undef=.int .i64 i∧fr.tm.getD 41 IV.undef=tm.getD 41 IV.undef∧fr.tm.getD 42 IV.undef=tm.getD 42 IV.undef∧fr.tm.getD 43 IV.undef=tm.getD 43 IV.undef) ?_ l.length ⟨0,by omega,fun j _ h=>by omega,Keep.refl _ _,rfl,htm,t2,t47,t48,t49,rfl,rfl,rfl⟩;generalize tm.getD 41 IV.undef=y41 at *;generalize tm.getD 42 IV.undef=y42 at *;generalize tm.getD 43 IV.undef=y43 at *;rintro k ⟨tm,mk⟩ H' ⟨i,hi,hp,hk,rfl,htm,t2,t47,t48,t49,t41,t42,t43⟩ L hN hJ;have hn:=hk.1;have hw':=hw.keep hk;have hg':=(hk.2 rb hrb hrb).trans hg;rw[nr tm htm,t2,t47,t48,t49,t41,t42,t43];by_cases hil:i < l.length
 ·have r1:=hw'.read kT i hil;simp(disch:=omega) only[ak,↓aj,seval,mK,↓hw.idx,r1,fh];generalize hH1:Heap.put _ _ _=H1;have k1:Keep H'.n H' H1:=by rw[←hH1];exact Keep.newPut
  have hn1:=k1.1;clear hH1;rw[←fh];refine yv _ (by omega) fun H2 k2=>?_;have hn2:=k2.1;have kk:Keep H.n H H2:=hk.trans ((k1.trans (k2.lower hn1)).lower hn);have hg2:=(kk.2 rb hrb hrb).trans hg
  cases hb:bI l[i]
  ·simp(disch:=omega) only[ak,↓aj,seval,mK,hg2,hJ]
   exact hR ⟨_,bm hil,hb⟩ _ _ kk
  ·simp(disch:=omega) only[ak,↓aj,seval,mK]
   refine hN (k - 1) _ _ (by omega) ⟨i+1,by omega,fun j h1 h2=>?_,kk,rfl,rfl,rfl,rfl,rfl,rfl,rfl,rfl,rfl⟩;by_cases hj:j=i
   ·subst hj;exact hb
   ·exact hp j h1 (by omega)
 ·simp(disch:=omega) only[ak,↓aj,seval,mK,hJ]
  refine hQ (fun a ha=>?_) _ _ hk rfl rfl rfl rfl rfl;obtain⟨j,hj,rfl⟩:=List.mem_iff_getElem.1 ha;exact hp j hj (by omega)
theorem uM{v:SV}{ls:List (List Id)}{rb lo:Nat}{x:IV}{H:Heap}{Q:Out→Heap→Prop}{rd:Option Nat}{mk:List Nat}{tm:List IV}(hv:Sl2 H v ls)(hl:ls.length≤1000000)(hll:∀l∈ls,l.length≤1000000)
  (hg:H.get rb=some (.cells false 36 1 [x])) (hrb:rb < H.n) (hlo:lo≤rb) (htm:tm.length=84) (t2:tm.getD 2 IV.undef=.ptr rb 0) (t41:tm.getD 41 IV.undef=v.iv) (t42:tm.getD 42 IV.undef=.int .i64 ls.length) (t43:tm.getD 43 IV.undef=.int .i64 0)
  (hQ:(∀a∈ls.flatten,bI a=true)→∀H' tm',Keep H.n H H'→Q (.ex (.jmp (.exit 6)) ⟨tm',mk⟩) H') (hR:(∃a∈ls.flatten,bI a=false)→∀H' tm',Keep H.n H H'→Q (.ex (.jmp .ret) ⟨tm',mk⟩) (H'.put rb (.cells false 36 1 [.int .i64 1]))):W E0 lo (.code (.loop Hw) rd ⟨tm,mk⟩) H Q:=by
 refine aO (fun k fr H'=>∃i,i+k=ls.length∧(∀j (h:j < ls.length),j < i→∀a∈ls[j],bI a=true)∧Keep H.n H H'∧fr.marks=mk∧fr.tm.length=84∧fr.tm.getD 2 IV.undef=.ptr rb 0∧fr.tm.getD 41 IV.undef=v.iv∧fr.tm.getD 42 IV.undef=.int .i64 ls.length∧fr.tm.getD 43 IV.undef=.int .i64 i) ?_ ls.length ⟨0,by omega,fun j _ h=>by omega,Keep.refl _ _,rfl,htm,t2,t41,t42,t43⟩;rintro k ⟨tm,mk⟩ H' ⟨i,hi,hp,hk,rfl,htm,t2,t41,t42,t43⟩ L hN hJ;have hn:=hk.1;have hv':=hv.keep hk;have hg':=(hk.2 rb hrb hrb).trans hg;rw[nr tm htm,t2,t41,t42,t43];by_cases hil:i < ls.length
 ·obtain⟨w,r1,r2,r3⟩:=hv'.elem i hil;simp(disch:=omega) only[ak,↓aj,seval,mK,↓hv.idx,r1,↓r2.ln];refine CT r2 (hll _ (bm hil)) hg' (by omega) hlo rfl rfl rfl rfl rfl (fun hall H2 tm2 k2 a1 a2 a3 a4 a5=>?_) (fun hex H2 tm2 k2=>?_)
  ·rw[nr tm2 a1,a2,a3,a4,a5];simp(disch:=omega) only[ak,↓aj,seval,mK];refine hN (k - 1) _ _ (by omega) ⟨i+1,by omega,fun j h1 h2=>?_,hk.trans (k2.lower hn),rfl,rfl,rfl,rfl,rfl,rfl⟩;by_cases hj:j=i
   ·subst hj;exact hall
   ·exact hp j h1 (by omega)
  ·simp(disch:=omega) only[ak,↓aj,seval,mK,hJ]
   obtain⟨a,ha,hb⟩:=hex;exact hR ⟨a,List.mem_flatten.2 ⟨_,bm hil,ha⟩,hb⟩ _ _ (hk.trans (k2.lower hn))
 ·simp(disch:=omega) only[ak,↓aj,seval,mK,hJ]
  refine hQ (fun a ha=>?_) _ _ hk;obtain⟨l,hl,ha⟩:=List.mem_flatten.1 ha;obtain⟨j,hj,rfl⟩:=List.mem_iff_getElem.1 hl;exact hp j hj (by omega) a ha
def KeepB(b:Nat)(H H':Heap):Prop:=H.n≤H'.n∧∀x,x < H.n→x≠b→H'.get x=H.get x
theorem KeepB.refl(b:Nat)(H:Heap):KeepB b H H:=⟨au _,fun _ _ _=>rfl⟩
theorem KeepB.trans{b:Nat}{A B C:Heap}(h:KeepB b A B)(k:KeepB b B C):KeepB b A C:=
 ⟨dr h.1 k.1,fun x h1 h2=>(k.2 x (du h1 h.1) h2).trans (h.2 x h1 h2)⟩
theorem KeepB.of{b:Nat}{A B:Heap}(h:Keep A.n A B):KeepB b A B:=⟨h.1,fun x h1 _=>h.2 x h1 h1⟩
theorem KeepB.put{b:Nat}{H:Heap}{ob:IObj}:KeepB b H (H.put b ob):=⟨au _,fun x _ h=>by rw[ae,if_neg (Ne.symm h)]⟩
theorem nX{α:Type}[Cell α]{H H':Heap}{v:SV}{l:List α}{b:Nat}{es:List (IV×IV×Nat)}{c:Nat}(h:Sl H v l)(k:KeepB b H H')(hb:H.get b=some (.map es c)):Sl H' v l:=
 h.same k.1 fun hl=>k.2 _ (h.blk_lt hl) (h.off hl hb (by simp))
theorem A3{α:Type}[Cell α]{H H':Heap}{v:SV}{ls:List (List α)}{b:Nat}{es:List (IV×IV×Nat)}{c:Nat}(h:Sl2 H v ls)(k:KeepB b H H')(hb:H.get b=some (.map es c)):Sl2 H' v ls:=by
 obtain⟨vs,h1,h2,h3⟩:=h;exact⟨vs,nX h1 k hb,h2,fun i a b=>nX (h3 i a b) k hb⟩
theorem yt{ks:List Id}{a:Id}(h:ks.Nodup)(ha:a∉ks):(ks++[a]).Nodup:=by
 rw[x9];refine⟨h,by simp,?_⟩;intro x hx y hy;rw[Am] at hy;subst hy;exact fun e=>ha (e▸hx)
theorem AA{ks l:List Id}{i:Nat}(hi:i < l.length)(h:l[i]∈ks++l.take i):¬(ks++l).Nodup:=by
 intro hn
 have e:ks++l=(ks++l.take i)++(l[i]::l.drop (i+1)):=by
  rw[cj,←pD hi,rA]
 rw[e,x9] at hn;exact hn.2.2 _ h _ (rv ..) rfl
theorem CS{w:SV}{l ks:List Id}{rb tb mb lo:Nat}{x:IV}{H:Heap}{Q:Out→Heap→Prop}{rd:Option Nat}{mk:List Nat}{tm:List IV}(hw:Sl H w l)(hl:l.length≤1000000)
  (hg:H.get rb=some (.cells false 36 1 [x])) (hrb:rb < H.n) (hlo:lo≤rb) (hgt:H.get tb=some (.cells false 193 1 [.map mb])) (htb:tb < H.n) (hmb:mb < H.n) (hlm:lo≤mb) (hm:MapIds H mb ks) (hnd:ks.Nodup) (htm:tm.length=84) (t2:tm.getD 2 IV.undef=.ptr rb 0) (t13:tm.getD 13 IV.undef=.ptr tb 0) (t71:tm.getD 71 IV.undef=w.iv) (t72:tm.getD 72 IV.undef=.int .i64 l.length) (t73:tm.getD 73 IV.undef=.int .i64 0)
  (hQ:(ks++l).Nodup→∀H' tm',KeepB mb H H'→MapIds H' mb (ks++l)→tm'.length=84→tm'.getD 2 IV.undef=.ptr rb 0→tm'.getD 13 IV.undef=.ptr tb 0→tm'.getD 65 IV.undef=tm.getD 65 IV.undef→tm'.getD 66 IV.undef=tm.getD 66 IV.undef→tm'.getD 67 IV.undef=tm.getD 67 IV.undef→Q (.ex (.jmp (.exit 14)) ⟨tm',mk⟩) H') (hR:¬(ks++l).Nodup→∀H' tm',KeepB mb H H'→Q (.ex (.jmp .ret) ⟨tm',mk⟩) (H'.put rb (.cells false 36 1 [.int .i64 8]))):W E0 lo (.code (.loop Hv) rd ⟨tm,mk⟩) H Q:=by
 refine aO (fun k fr H'=>∃i,i+k=l.length∧(ks++l.take i).Nodup∧KeepB mb H H'∧MapIds H' mb (ks++l.take i)∧fr.marks=mk∧fr.tm.length=84∧fr.tm.getD 2 IV.undef=.ptr rb 0∧fr.tm.getD 13 IV.undef=.ptr tb 0∧fr.tm.getD 71 IV.undef=w.iv∧fr.tm.getD 72 IV.undef=.int .i64 l.length∧fr.tm.getD 73 IV.undef=.int .i64 i∧fr.tm.getD 65 IV.undef=tm.getD 65 IV.undef∧fr.tm.getD 66 IV.undef=tm.getD 66 IV.undef∧fr.tm.getD 67 IV.undef=tm.getD 67 IV.undef) ?_ l.length ⟨0,by omega,by simpa using hnd,KeepB.refl _ _,by simpa using hm,rfl,htm,t2,t13,t71,t72,t73,rfl,rfl,rfl⟩;generalize tm.getD 65 IV.undef=y65 at *;generalize tm.getD 66 IV.undef=y66 at *;generalize tm.getD 67 IV.undef=y67 at *;rintro k ⟨tm,mk⟩ H' ⟨i,hi,hnd',hk,hm',rfl,htm,t2,t13,t71,t72,t73,t65,t66,t67⟩ L hN hJ;have hn:=hk.1;have hw':=nX hw hk hm;have hrm:rb≠mb:=fun e=>by subst e;have h2:H.get rb=_:=hm;rw[h2] at hg;cases hg
 have htm':tb≠mb:=fun e=>by subst e;have h2:H.get tb=_:=hm;rw[h2] at hgt;cases hgt
 have hg':=(hk.2 rb hrb hrm).trans hg;have hgt':=(hk.2 tb htb htm').trans hgt;have rt:=af hgt';rw[nr tm htm,t2,t13,t71,t72,t73,t65,t66,t67];by_cases hil:i < l.length
 ·have r1:=hw'.read kT i hil;have kk:KeepB mb H ((H'.new (.cells false 138 2 [.int .u8 0,.int .i64 0])).put H'.n (.cells false 138 2 (Cell.cs l[i]))):=hk.trans (KeepB.of Keep.newPut)
  have hm2:MapIds ((H'.new (.cells false 138 2 [.int .u8 0,.int .i64 0])).put H'.n (.cells false 138 2 (Cell.cs l[i]))) mb (ks++l.take i):=by
   show Heap.get _ _=_
   rw[ae,if_neg (by omega),al,if_neg (by omega)];exact hm'
  have hlk:=hm2.look l[i];have eb:(H'.n=rb)=False:=by simp;omega
  by_cases hin:l[i]∈ks++l.take i
  ·rw[decide_eq_true hin] at hlk;simp only[fh] at hlk;simp(disch:=omega) only[ak,↓aj,seval,mK,↓hw.idx,r1,fh,rt,↓hlk,hg',eb,hJ];exact hR (AA hil hin) _ _ kk
  ·rw[decide_eq_false hin] at hlk;obtain⟨ob,hup,hob⟩:=hm2.upd l[i] lo hlm;rw[if_neg hin,cj,←fg hil] at hob;simp only[fh] at hlk hup;simp(disch:=omega) only[ak,↓aj,seval,mK,↓hw.idx,r1,fh,rt,↓hlk,↓hup];refine hN (k - 1) _ _ (by omega) ⟨i+1,by omega,?_,kk.trans KeepB.put,?_,rfl,rfl,rfl,rfl,rfl,rfl,rfl,rfl,rfl,rfl⟩
   ·rw[fg hil,←cj];exact yt hnd' hin
   ·show Heap.get _ _=_
    rw[ae,if_pos rfl,hob]
 ·rw[eW (by omega)] at hnd' hm';simp(disch:=omega) only[ak,↓aj,seval,mK,hJ];exact hQ hnd' _ _ hk hm' rfl rfl rfl rfl rfl rfl
theorem lM(ls:List (List Id))(i:Nat)(h:i < ls.length):(ls.take (i+1)).flatten=(ls.take i).flatten++ls[i]:=by
 rw[fg h,iq];simp
theorem yr{ks:List Id}{ls:List (List Id)}{i:Nat}(h:i < ls.length)(hn:¬((ks++(ls.take i).flatten)++ls[i]).Nodup):¬(ks++ls.flatten).Nodup:=by
 intro hd;apply hn;rw[cj,←lM ls i h];rw[←rA (i+1) ls,iq,←cj] at hd;exact(List.nodup_append.1 hd).1
theorem uL{v:SV}{ls:List (List Id)}{ks:List Id}{rb tb mb lo:Nat}{x:IV}{H:Heap}{Q:Out→Heap→Prop}{rd:Option Nat}{mk:List Nat}{tm:List IV}(hv:Sl2 H v ls)(hl:ls.length≤1000000)(hll:∀l∈ls,l.length≤1000000)
  (hg:H.get rb=some (.cells false 36 1 [x])) (hrb:rb < H.n) (hlo:lo≤rb) (hgt:H.get tb=some (.cells false 193 1 [.map mb])) (htb:tb < H.n) (hmb:mb < H.n) (hlm:lo≤mb) (hm:MapIds H mb ks) (hnd:ks.Nodup) (htm:tm.length=84) (t2:tm.getD 2 IV.undef=.ptr rb 0) (t13:tm.getD 13 IV.undef=.ptr tb 0) (t65:tm.getD 65 IV.undef=v.iv) (t66:tm.getD 66 IV.undef=.int .i64 ls.length) (t67:tm.getD 67 IV.undef=.int .i64 0)
  (hQ:(ks++ls.flatten).Nodup→∀H' tm',KeepB mb H H'→MapIds H' mb (ks++ls.flatten)→Q (.ex (.jmp (.exit 12)) ⟨tm',mk⟩) H') (hR:¬(ks++ls.flatten).Nodup→∀H' tm',KeepB mb H H'→Q (.ex (.jmp .ret) ⟨tm',mk⟩) (H'.put rb (.cells false 36 1 [.int .i64 8]))):W E0 lo (.code (.loop Hu) rd ⟨tm,mk⟩) H Q:=by
 refine aO (fun k fr H'=>∃i,i+k=ls.length∧(ks++(ls.take i).flatten).Nodup∧KeepB mb H H'∧MapIds H' mb (ks++(ls.take i).flatten)∧fr.marks=mk∧fr.tm.length=84∧fr.tm.getD 2 IV.undef=.ptr rb 0∧fr.tm.getD 13 IV.undef=.ptr tb 0∧fr.tm.getD 65 IV.undef=v.iv∧fr.tm.getD 66 IV.undef=.int .i64 ls.length∧fr.tm.getD 67 IV.undef=.int .i64 i) ?_ ls.length ⟨0,by omega,by simpa using hnd,KeepB.refl _ _,by simpa using hm,rfl,htm,t2,t13,t65,t66,t67⟩;rintro k ⟨tm,mk⟩ H' ⟨i,hi,hnd',hk,hm',rfl,htm,t2,t13,t65,t66,t67⟩ L hN hJ;have hn:=hk.1;have hv':=A3 hv hk hm;have hrm:rb≠mb:=fun e=>by subst e;have h2:H.get rb=_:=hm;rw[h2] at hg;cases hg
 have htm':tb≠mb:=fun e=>by subst e;have h2:H.get tb=_:=hm;rw[h2] at hgt;cases hgt
 have hg':=(hk.2 rb hrb hrm).trans hg;have hgt':=(hk.2 tb htb htm').trans hgt;rw[nr tm htm,t2,t13,t65,t66,t67];by_cases hil:i < ls.length
 ·obtain⟨w,r1,r2,r3⟩:=hv'.elem i hil;simp(disch:=omega) only[ak,↓aj,seval,mK,↓hv.idx,r1,↓r2.ln];refine CS r2 (hll _ (bm hil)) hg' (by omega) hlo hgt' (by omega) (by omega) hlm hm' hnd' rfl rfl rfl rfl rfl rfl (fun hall H2 tm2 k2 m2 a1 a2 a3 a4 a5 a6=>?_) (fun hex H2 tm2 k2=>?_)
  ·rw[nr tm2 a1,a2,a3,a4,a5,a6];simp(disch:=omega) only[ak,↓aj,seval,mK];refine hN (k - 1) _ _ (by omega) ⟨i+1,by omega,?_,hk.trans k2,?_,rfl,rfl,rfl,rfl,rfl,rfl,rfl⟩
   ·rw[lM ls i hil,←cj];exact hall
   ·rw[lM ls i hil,←cj];exact m2
  ·simp(disch:=omega) only[ak,↓aj,seval,mK,hJ]
   exact hR (yr hil hex) _ _ (hk.trans k2)
 ·rw[eW (by omega)] at hnd' hm';simp(disch:=omega) only[ak,↓aj,seval,mK,hJ];exact hQ hnd' _ _ hk hm'
def mE(ls:List (List Id)):Bool:=decide (ls.length>40)||ls.any fun l=>decide (l.length>4)
def aY(fs bs:List (List Id)):Int:=
 if mE fs=true∨mE bs=true then 9
 else if (fs++bs).flatten.all bI=false then 1
 else if (fs++bs).flatten.Nodup then 0 else 8
theorem sF{f b:SV}{fs bs:List (List Id)}{H:Heap}{lo:Nat}{Q:Out→Heap→Prop}(hf:Sl2 H f fs)(hb:Sl2 H b bs)(hlf:fs.length≤1000000)(hlb:bs.length≤1000000)(hl:∀l∈fs,l.length≤1000000)(hl':∀l∈bs,l.length≤1000000)(hlo:lo≤H.n)
  (h:∀H',Keep H.n H H'→Q (.val (.int .i64 (aY fs bs))) H'):W E0 lo (.call 60 [bv f b]) H Q:=by
 refine gS _ hlo h fun R hR=>?_;clear h;rw[c60];have full1:∀ls:List (List Id),ls.length>40→mE ls=true:=fun ls h=>by simp[mE,h]
 have full2:∀ls:List (List Id),(∃l∈ls,l.length>4)→mE ls=true:=fun ls ⟨l,h1,h2⟩=>by
  unfold mE;rw[jZ];exact .inr (List.any_eq_true.2 ⟨l,h1,decide_eq_true h2⟩)
 have full3:∀ls:List (List Id),¬ls.length>40→(∀l∈ls,l.length≤4)→mE ls=false:=fun ls h1 h2=>by
  unfold mE;rw[decide_eq_false h1,Bool.false_or,List.any_eq_false];intro l hl;have:=h2 l hl;simp;omega
 by_cases h40:fs.length>40
 ·have:aY fs bs=9:=by unfold aY;rw[if_pos (.inl (full1 _ h40))]
  rw[this] at hR;simp(disch:=omega) only[ak,↓aj,seval,FD,kR,kQ,bv,Rz,Ry,↓hf.ln];exact hR _
 simp(disch:=omega) only[ak,↓aj,seval,FD,kR,kQ,bv,Rz,Ry,↓hf.ln]
 generalize hH1:Heap.put _ _ _=H1;have hn1:H1.n=H.n+5:=by rw[←hH1];rfl
 have g0:=congrArg (fun h0=>Heap.get h0 (H.n)) hH1.symm;simp(disch:=omega) only[ak,↓aj,seval] at g0;have g1:=congrArg (fun h0=>Heap.get h0 (H.n+1)) hH1.symm;simp(disch:=omega) only[ak,↓aj,seval] at g1;have g2:=congrArg (fun h0=>Heap.get h0 (H.n+2)) hH1.symm;simp(disch:=omega) only[ak,↓aj,seval] at g2;have g3:=congrArg (fun h0=>Heap.get h0 (H.n+3)) hH1.symm;simp(disch:=omega) only[ak,↓aj,seval] at g3;have g4:=congrArg (fun h0=>Heap.get h0 (H.n+4)) hH1.symm;simp(disch:=omega) only[ak,↓aj,seval] at g4
 have k1:Keep H.n H H1:=⟨by omega,fun x hx _=>by
  have gx:=congrArg (fun h0=>Heap.get h0 x) hH1.symm;simp(disch:=omega) only[ak,↓aj,seval] at gx;exact gx⟩
 clear hH1;refine uN (hf.keep k1) hlf hl g1 (by omega) rfl rfl rfl rfl rfl (fun hall tm'=>?_) (fun hex tm'=>?_)
 case refine_2=>
  have:aY fs bs=9:=by unfold aY;rw[if_pos (.inl (full2 _ hex))]
  rw[this] at hR;simp(disch:=omega) only[ak,↓aj,seval,FD,kR,kQ,g3,g4];exact hR _
 have hff:=full3 fs h40 hall;have r2:=af g2;by_cases h40':bs.length>40
 ·have:aY fs bs=9:=by unfold aY;rw[if_pos (.inr (full1 _ h40'))]
  rw[this] at hR;simp(disch:=omega) only[ak,↓aj,seval,FD,kR,kQ,g1,g3,g4,r2,↓hb.ln];exact hR _
 simp(disch:=omega) only[ak,↓aj,seval,FD,kR,kQ,g1,g3,g4,r2,↓hb.ln]
 generalize hH2:Heap.put _ _ _=H2;have hn2:H2.n=H.n+5:=by rw[←hH2];exact hn1
 have f4:=congrArg (fun h0=>Heap.get h0 (H.n+4)) hH2.symm;simp(disch:=omega) only[ak,↓aj,seval] at f4;have k2:∀x,x≠H.n+4→H2.get x=H1.get x:=fun x hx=>by rw[←hH2,ae,if_neg (Ne.symm hx),ae,if_neg (Ne.symm hx)]
 clear hH2;have f0:=(k2 (H.n) (by omega)).trans g0;have f1:=(k2 (H.n+1) (by omega)).trans g1;have f3:=(k2 (H.n+3) (by omega)).trans g3;have kk2:Keep H.n H H2:=⟨by omega,fun x hx _=>(k2 x (by omega)).trans (k1.2 x hx hx)⟩;clear g0 g1 g2 g3 g4 r2 k2 k1 hn1;refine uN (hb.keep kk2) hlb hl' f1 (by omega) rfl rfl rfl rfl rfl (fun hall' tm2=>?_) (fun hex tm2=>?_)
 case refine_2=>
  have:aY fs bs=9:=by unfold aY;rw[if_pos (.inr (full2 _ hex))]
  rw[this] at hR;simp(disch:=omega) only[ak,↓aj,seval,FD,kR,kQ,f3,f4];exact hR _
 have hfb:=full3 bs h40' hall';have r0:=af f0;simp(disch:=omega) only[ak,↓aj,seval,FD,kR,kQ,f3,f4,r0,Rz,Ry,↓hf.ln];generalize hH3:Heap.put _ _ _=H3;have hn3:H3.n=H2.n+3:=by rw[←hH3];rfl
 have p0:=congrArg (fun h0=>Heap.get h0 (H2.n)) hH3.symm;simp(disch:=omega) only[ak,↓aj,seval] at p0;have p1:=congrArg (fun h0=>Heap.get h0 (H2.n+1)) hH3.symm;simp(disch:=omega) only[ak,↓aj,seval] at p1;have p2:=congrArg (fun h0=>Heap.get h0 (H2.n+2)) hH3.symm;simp(disch:=omega) only[ak,↓aj,seval] at p2
 have k3:∀x,x < H2.n→x≠H.n+4→H3.get x=H2.get x:=fun x h1 h2=>by
  rw[←hH3,ae,if_neg (by omega),al,if_neg (by simp only[ac,ai];omega),al,if_neg (by simp only[ac,ai];omega),al,if_neg (by simp only[ac,ai];omega),ae,if_neg (Ne.symm h2),ae,if_neg (Ne.symm h2)]
 clear hH3;have q0:=(k3 (H.n) (by omega) (by omega)).trans f0;have q1:=(k3 (H.n+1) (by omega) (by omega)).trans f1;have q3:=(k3 (H.n+3) (by omega) (by omega)).trans f3;have kk3:Keep H.n H H3:=⟨by omega,fun x hx _=>(k3 x (by omega) (by omega)).trans (kk2.2 x hx hx)⟩;clear f0 f1 f3 f4 r0 k3 kk2
 have bad1:∀ls:List (List Id),(ls=fs∨ls=bs)→(∃a∈ls.flatten,bI a=false)→aY fs bs=1:=by
  intro ls hls ⟨a,h1,h2⟩
  have:(fs++bs).flatten.all bI=false:=by
   rw[List.all_eq_false];refine⟨a,?_,by rw[h2];simp⟩;rw[iq,mV];rcases hls with rfl | rfl
   ·exact .inl h1
   ·exact .inr h1
  unfold aY;rw[if_neg (by rw[hff,hfb];simp),if_pos this]
 refine uM (hf.keep kk3) hlf hl q1 (by omega) (by omega) rfl rfl rfl rfl rfl (fun hnf H4 tm4 k4=>?_) (fun hex H4 tm4 k4=>?_)
 case refine_2=>
  have u1:=(k4.2 _ (by omega) (by omega)).trans p1;have u2:=(k4.2 _ (by omega) (by omega)).trans p2;have u3:=(k4.2 _ (by omega) (by omega)).trans q3;rw[bad1 fs (.inl rfl) hex] at hR;simp(disch:=omega) only[ak,↓aj,seval,FD,kR,kQ,u1,u2,u3];exact hR _
 have hn4:=k4.1;have s0:=(k4.2 _ (by omega) (by omega)).trans p0;have s1:=(k4.2 _ (by omega) (by omega)).trans p1;have s2:=(k4.2 _ (by omega) (by omega)).trans p2;have v0:=(k4.2 _ (by omega) (by omega)).trans q0;have v1:=(k4.2 _ (by omega) (by omega)).trans q1;have v3:=(k4.2 _ (by omega) (by omega)).trans q3;have kk4:Keep H.n H H4:=kk3.trans (k4.lower (by omega));have rs0:=af s0;clear p0 p1 p2 q0 q1 q3;simp(disch:=omega) only[ak,↓aj,seval,FD,kR,kQ,s1,s2,rs0,↓hb.ln];generalize hH5:Heap.put _ _ _=H5;have hn5:H5.n=H4.n:=by rw[←hH5];rfl
 have p2:=congrArg (fun h0=>Heap.get h0 (H2.n+2)) hH5.symm;simp(disch:=omega) only[ak,↓aj,seval] at p2;have k5:∀x,x≠H2.n+2→H5.get x=H4.get x:=fun x hx=>by rw[←hH5,ae,if_neg (Ne.symm hx),ae,if_neg (Ne.symm hx)]
 clear hH5;have p1:=(k5 (H2.n+1) (by omega)).trans s1;have q0:=(k5 (H.n) (by omega)).trans v0;have q1:=(k5 (H.n+1) (by omega)).trans v1;have q3:=(k5 (H.n+3) (by omega)).trans v3;have kk5:Keep H.n H H5:=⟨by omega,fun x hx _=>(k5 x (by omega)).trans (kk4.2 x hx hx)⟩;clear s0 s1 s2 v0 v1 v3 rs0 k5 kk4;refine uM (hb.keep kk5) hlb hl' q1 (by omega) (by omega) rfl rfl rfl rfl rfl (fun hnb H6 tm6 k6=>?_) (fun hex H6 tm6 k6=>?_)
 case refine_2=>
  have u1:=(k6.2 _ (by omega) (by omega)).trans p1;have u2:=(k6.2 _ (by omega) (by omega)).trans p2;have u3:=(k6.2 _ (by omega) (by omega)).trans q3;rw[bad1 bs (.inr rfl) hex] at hR;simp(disch:=omega) only[ak,↓aj,seval,FD,kR,kQ,u1,u2,u3];exact hR _
 have hn6:=k6.1;have s1:=(k6.2 _ (by omega) (by omega)).trans p1;have s2:=(k6.2 _ (by omega) (by omega)).trans p2;have v0:=(k6.2 _ (by omega) (by omega)).trans q0;have v1:=(k6.2 _ (by omega) (by omega)).trans q1;have v3:=(k6.2 _ (by omega) (by omega)).trans q3;have kk6:Keep H.n H H6:=kk5.trans (k6.lower (by omega));have rv0:=af v0;clear p1 p2 q0 q1 q3
 have hall6:(fs++bs).flatten.all bI=true:=by
  rw[um];intro a ha;rw[iq,mV] at ha;rcases ha with ha | ha
  ·exact hnf a ha
  ·exact hnb a ha
 simp(disch:=omega) only[ak,↓aj,seval,FD,kR,kQ,s1,s2,rv0]
 generalize hH7:Heap.put _ _ _=H7;have hn7:H7.n=H6.n:=by rw[←hH7];rfl
 have k7:∀x,x≠H2.n+2→H7.get x=H6.get x:=fun x hx=>by rw[←hH7,ae,if_neg (Ne.symm hx),ae,if_neg (Ne.symm hx)]
 clear hH7;have p1:=(k7 (H2.n+1) (by omega)).trans s1;have q0:=(k7 (H.n) (by omega)).trans v0;have q1:=(k7 (H.n+1) (by omega)).trans v1;have q3:=(k7 (H.n+3) (by omega)).trans v3;have kk7:Keep H.n H H7:=⟨by omega,fun x hx _=>(k7 x (by omega)).trans (kk6.2 x hx hx)⟩;clear s1 s2 v0 v1 v3 rv0 k7 kk6;have hbv:IV.agg [f.iv,b.iv]=bv f b:=rfl;rw[hbv];refine E2 (hf.keep kk7) (hb.keep kk7) hlf hlb hl hl' (by omega) fun H8 k8=>?_;have hn8:=k8.1;have s1:=(k8.2 _ (by omega) (by omega)).trans p1;have v0:=(k8.2 _ (by omega) (by omega)).trans q0;have v1:=(k8.2 _ (by omega) (by omega)).trans q1;have v3:=(k8.2 _ (by omega) (by omega)).trans q3;have kk8:Keep H.n H H8:=kk7.trans (k8.lower (by omega));have rv0:=af v0;clear p1 q0 q1 q3;simp(disch:=omega) only[ak,↓aj,seval,FD,kR,kQ,bv,rv0,Rz,Ry,↓hf.ln];generalize hH9:Heap.put _ _ _=H9;have hn9:H9.n=H8.n+5:=by rw[←hH9];rfl
 have m0:=congrArg (fun h0=>Heap.get h0 (H8.n)) hH9.symm;simp(disch:=omega) only[ak,↓aj,seval] at m0;have m1:=congrArg (fun h0=>Heap.get h0 (H8.n+1)) hH9.symm;simp(disch:=omega) only[ak,↓aj,seval] at m1;have m2:=congrArg (fun h0=>Heap.get h0 (H8.n+2)) hH9.symm;simp(disch:=omega) only[ak,↓aj,seval] at m2;have m3:=congrArg (fun h0=>Heap.get h0 (H8.n+3)) hH9.symm;simp(disch:=omega) only[ak,↓aj,seval] at m3;have m4:=congrArg (fun h0=>Heap.get h0 (H8.n+4)) hH9.symm;simp(disch:=omega) only[ak,↓aj,seval] at m4
 have k9:∀x,x < H8.n→H9.get x=H8.get x:=fun x h1=>by
  have gx:=congrArg (fun h0=>Heap.get h0 x) hH9.symm;simp(disch:=omega) only[ak,↓aj,seval] at gx;exact gx
 clear hH9;have p1:=(k9 (H2.n+1) (by omega)).trans s1;have q1:=(k9 (H.n+1) (by omega)).trans v1;have q3:=(k9 (H.n+3) (by omega)).trans v3;have kk9:Keep H.n H H9:=⟨by omega,fun x hx _=>(k9 x (by omega)).trans (kk8.2 x hx hx)⟩;clear s1 v0 v1 v3 rv0 k9 kk8
 have dup1:¬(fs++bs).flatten.Nodup→aY fs bs=8:=fun hd=>by
  unfold aY;rw[if_neg (by rw[hff,hfb];simp),if_neg (by rw[hall6];simp),if_neg hd]
 refine uL (ks:=[]) (hf.keep kk9) hlf hl q1 (by omega) (by omega) m1 (by omega) (by omega) (by omega) m0 List.nodup_nil rfl rfl rfl rfl rfl rfl (fun hnd H10 tm10 k10 mm10=>?_) (fun hex H10 tm10 k10=>?_)
 case refine_2=>
  have u1:=(k10.2 _ (by omega) (by omega)).trans m3;have u2:=(k10.2 _ (by omega) (by omega)).trans m4;have u3:=(k10.2 _ (by omega) (by omega)).trans p1;have u4:=(k10.2 _ (by omega) (by omega)).trans q3;rw[dup1 (fun hd=>hex (by rw[iq] at hd;rw[ru];exact(List.nodup_append.1 hd).1))] at hR;simp(disch:=omega) only[ak,↓aj,seval,FD,kR,kQ,u1,u2,u3,u4];exact hR _
 rw[ru] at hnd mm10;have hn10:=k10.1;have mg:H9.get H8.n=some (.map (iu [] 0) 0):=m0;have s1:=(k10.2 _ (by omega) (by omega)).trans m1;have s2:=(k10.2 _ (by omega) (by omega)).trans m2;have s3:=(k10.2 _ (by omega) (by omega)).trans m3;have s4:=(k10.2 _ (by omega) (by omega)).trans m4;have s5:=(k10.2 _ (by omega) (by omega)).trans p1;have s6:=(k10.2 _ (by omega) (by omega)).trans q1;have s7:=(k10.2 _ (by omega) (by omega)).trans q3;have hb10:=A3 (hb.keep kk9) k10 mg;have rs2:=af s2;clear m0 m1 m2 m3 m4 p1 q1 q3 mg k10;simp(disch:=omega) only[ak,↓aj,seval,FD,kR,kQ,s4,rs2,↓hb.ln];generalize hH11:Heap.put _ _ _=H11;have hn11:H11.n=H10.n:=by rw[←hH11];rfl
 have p4:=congrArg (fun h0=>Heap.get h0 (H8.n+4)) hH11.symm;simp(disch:=omega) only[ak,↓aj,seval] at p4;have k11:KeepB (H8.n+4) H10 H11:=⟨by omega,fun x _ hx=>by rw[←hH11,ae,if_neg (Ne.symm hx),ae,if_neg (Ne.symm hx)]⟩;clear hH11;have p1:=(k11.2 _ (by omega) (by omega)).trans s1;have p3:=(k11.2 _ (by omega) (by omega)).trans s3;have p5:=(k11.2 _ (by omega) (by omega)).trans s5;have p6:=(k11.2 _ (by omega) (by omega)).trans s6;have p7:=(k11.2 _ (by omega) (by omega)).trans s7;have mm11:MapIds H11 H8.n fs.flatten:=(k11.2 _ (by omega) (by omega)).trans mm10
 have hb11:Sl2 H11 b bs:=by
  obtain⟨vs,h1,h2,h3⟩:=hb10;exact⟨vs,h1.same k11.1 fun hl=>k11.2 _ (h1.blk_lt hl) (h1.off hl s4 (by simp)),h2,fun i a b=>(h3 i a b).same k11.1 fun hl=>k11.2 _ ((h3 i a b).blk_lt hl) ((h3 i a b).off hl s4 (by simp))⟩
 clear s1 s2 s3 s4 s5 s6 s7 rs2 k11 mm10 hb10;refine uL (ks:=fs.flatten) hb11 hlb hl' p6 (by omega) (by omega) p1 (by omega) (by omega) (by omega) mm11 hnd rfl rfl rfl rfl rfl rfl (fun hnd' H12 tm12 k12 mm12=>?_) (fun hex H12 tm12 k12=>?_)
 case refine_2=>
  have u1:=(k12.2 _ (by omega) (by omega)).trans p3;have u2:=(k12.2 _ (by omega) (by omega)).trans p4;have u3:=(k12.2 _ (by omega) (by omega)).trans p5;have u4:=(k12.2 _ (by omega) (by omega)).trans p7;rw[dup1 (by rw[iq];exact hex)] at hR;simp(disch:=omega) only[ak,↓aj,seval,FD,kR,kQ,u1,u2,u3,u4];exact hR _
 have hn12:=k12.1;have u1:=(k12.2 _ (by omega) (by omega)).trans p3;have u2:=(k12.2 _ (by omega) (by omega)).trans p4;have u3:=(k12.2 _ (by omega) (by omega)).trans p5;have u4:=(k12.2 _ (by omega) (by omega)).trans p7;have u5:=(k12.2 _ (by omega) (by omega)).trans p6
 have ok:aY fs bs=0:=by
  unfold aY;rw[if_neg (by rw[hff,hfb];simp),if_neg (by rw[hall6];simp),if_pos (by rw[iq];exact hnd')]
 rw[ok] at hR;simp(disch:=omega) only[ak,↓aj,seval,FD,kR,kQ,u1,u2,u3,u4,u5];exact hR _
end Go.Iso.Gen
end
section
namespace Go.Iso
def Sl2F{α:Type}[Cell α](n0:Nat)(H:Heap)(v:SV)(ls:List (List α)):Prop:=∃vs:List SV,Sl H v vs∧vs.length=ls.length∧(vs≠[]→n0≤v.blk)∧∀(i:Nat) (h:i < ls.length) (h':i < vs.length),Sl H vs[i] ls[i]∧(ls[i]≠[]→n0≤vs[i].blk)
theorem Sl2F.sl2{α:Type}[Cell α]{n0:Nat}{H:Heap}{v:SV}{ls:List (List α)}(h:Sl2F n0 H v ls):Sl2 H v ls:=by
 obtain⟨vs,h1,h2,h3,h4⟩:=h;exact⟨vs,h1,h2,fun i a b=>(h4 i a b).1⟩
theorem Sl2F.keep{α:Type}[Cell α]{n0:Nat}{H H':Heap}{v:SV}{ls:List (List α)}(h:Sl2F n0 H v ls)(k:Keep H.n H H'):Sl2F n0 H' v ls:=by
 obtain⟨vs,h1,h2,h3,h4⟩:=h;exact⟨vs,h1.keep k,h2,h3,fun i a b=>⟨(h4 i a b).1.keep k,(h4 i a b).2⟩⟩
theorem Sl2F.put{α:Type}[Cell α]{n0 x:Nat}{H:Heap}{v:SV}{ls:List (List α)}{ob:IObj}(h:Sl2F n0 H v ls)(hx:x < n0):Sl2F n0 (H.put x ob) v ls:=by
 obtain⟨vs,h1,h2,h3,h4⟩:=h;refine⟨vs,h1.same (au _) fun hl=>?_,h2,h3,fun i a b=>⟨(h4 i a b).1.same (au _) fun hl=>?_,(h4 i a b).2⟩⟩
 ·have:=h3 hl
  rw[ae,if_neg (by omega)]
 ·have:=(h4 i a b).2 hl
  rw[ae,if_neg (by omega)]
theorem Sl2F.lower{α:Type}[Cell α]{n0 n1:Nat}{H:Heap}{v:SV}{ls:List (List α)}(h:Sl2F n0 H v ls)(hn:n1≤n0):Sl2F n1 H v ls:=by
 obtain⟨vs,h1,h2,h3,h4⟩:=h;exact⟨vs,h1,h2,fun a=>dr hn (h3 a),fun i a b=>⟨(h4 i a b).1,fun c=>dr hn ((h4 i a b).2 c)⟩⟩
end Go.Iso
namespace Go.Iso.Gen
open Go.Iso
def kz(ls:List (List Id))(at_:Nat)(l:List Id):List (List Id):=
 if at_=0 then ls else(ls++List.replicate (at_ - ls.length) []).set (at_ - 1) l
def lq(ls:List (List Id))(at_:Nat)(l:List Id):List (List Id):=(kz ls at_ l).take (aU (kz ls at_ l))
def GT(tm:List IV)(h:tm.length=44):=(ch tm 44 h).trans (by simp only[List.range,List.range.loop,bB,bc];exact rfl)
theorem P6{b2 lo:Nat}{rs:List (List Id)}{H0 H:Heap}{vs:List SV}{Q:Out→Heap→Prop}{tm:List IV}(hlo:lo≤b2)(hb2:H0.n≤b2)(hl:rs.length≤1000000)(hll:∀l∈rs,l.length≤1000000)(hvs:vs.length=rs.length)(ho:Own H b2 31 rs.length vs)(hs:∀j (h:j < rs.length) (h':j < vs.length),Sl H vs[j] rs[j]∧(rs[j]≠[]→vs[j].blk≠b2))(hk:Keep H0.n H0 H)
  (htm:tm.length=44) (t7:tm.getD 7 IV.undef=.slice b2 0 rs.length rs.length true) (t30:tm.getD 30 IV.undef=.slice b2 0 rs.length rs.length true) (t31:tm.getD 31 IV.undef=.int .i64 rs.length) (t32:tm.getD 32 IV.undef=.int .i64 0)
  (hQ:∀H' tm' vs',vs'.length=rs.length→Own H' b2 31 rs.length vs'→(∀j (h:j < rs.length) (h':j < vs'.length),Sl H' vs'[j] rs[j]∧(rs[j]≠[]→H0.n≤vs'[j].blk))→Keep H0.n H0 H'→tm'.length=44→tm'.getD 7 IV.undef=.slice b2 0 rs.length rs.length true→Q (.ex (.jmp (.exit 0)) ⟨tm',[]⟩) H'):W E0 lo (.code (.loop wo) none ⟨tm,[]⟩) H Q:=by
 refine aO (fun k fr H'=>∃i vs,i+k=rs.length∧vs.length=rs.length∧Own H' b2 31 rs.length vs∧(∀j (h:j < rs.length) (h':j < vs.length),Sl H' vs[j] rs[j]∧(rs[j]≠[]→vs[j].blk≠b2∧(j < i→H0.n≤vs[j].blk)))∧Keep H0.n H0 H'∧fr.marks=[]∧fr.tm.length=44∧fr.tm.getD 7 IV.undef=.slice b2 0 rs.length rs.length true∧fr.tm.getD 30 IV.undef=.slice b2 0 rs.length rs.length true∧fr.tm.getD 31 IV.undef=.int .i64 rs.length∧fr.tm.getD 32 IV.undef=.int .i64 i) ?_ rs.length ⟨0,vs,by omega,hvs,ho,fun j h h'=>⟨(hs j h h').1,fun hl=>⟨(hs j h h').2 hl,fun h0=>by omega⟩⟩,hk,rfl,htm,t7,t30,t31,t32⟩;clear hvs ho hs hk vs htm t7 t30 t31 t32;rintro k ⟨tm,mk⟩ H' ⟨i,vs,hi,hvs,ho,hs,hk,rfl,htm,t7,t30,t31,t32⟩ L hN hJ;rw[GT tm htm,t7,t30,t31,t32];rw[←jS];have hn:=hk.1;have hb2n:=ho.2.1;have hsl:=ho.sl true;rw[hvs] at hsl;by_cases hil:i < rs.length
 ·have r1:=hsl.read mG i (by omega);simp only[iM,lH,sA,bL] at r1;obtain⟨hi1,hi2⟩:=hs i hil (by omega);have hx:(i:Int) < vs.length:=by omega
  simp(disch:=omega) only[ak,↓aj,seval,acL,↓hsl.idx,r1]
  refine i5 hi1 (hll _ (bm hil)) (by omega) fun H2 c k2 hc ho2=>?_;have hn2:=k2.1;have hoo:=ho.keep k2;rw[←hvs] at hoo;have hfull:=hoo.full;have hoo':=hoo.put mG i (by omega) (.sl c 0 rs[i].length rs[i].length true);simp only[mG,sA] at hoo' hfull;have hfl:(aD vs).length=vs.length:=by rw[aw,mG,lj]
  have e1:(i*1+1≤(aD vs).length)=True:=by rw[hfl];simp;omega
  simp(disch:=omega) only[ak,↓aj,seval,acL,↓hsl.idx,hfull,e1]
  rw[hvs] at hoo';refine hN (k - 1) _ _ (by omega) ⟨i+1,_,by omega,by simpa using hvs,hoo',fun j h1 h2=>?_,(hk.trans (k2.lower hn)).trans (.put _ _ (by omega)),rfl,rfl,rfl,rfl,rfl,rfl⟩;have hsame:∀(w:SV) (l:List Id),Sl H2 w l→(l≠[]→w.blk≠b2)→∀ob,Sl (H2.put b2 ob) w l:=fun w l h1 h2 ob=>h1.same (au _) fun hl=>by rw[ae,if_neg (Ne.symm (h2 hl))]
  by_cases hj:j=i
  ·subst hj;rw[pz];have hcb:c≠b2:=by omega
   exact⟨hsame _ _ (ho2.sl true) (fun _=>hcb) _,fun _=>⟨hcb,fun _=>by rw[iM];omega⟩⟩
  ·rw[jC (Ne.symm hj)];obtain⟨q1,q2⟩:=hs j h1 (by omega);exact⟨hsame _ _ (q1.keep k2) (fun hl=>(q2 hl).1) _,fun hl=>⟨(q2 hl).1,fun h=>(q2 hl).2 (by omega)⟩⟩
 ·simp(disch:=omega) only[ak,↓aj,seval,acL,hJ]
  exact hQ _ _ vs hvs ho (fun j h1 h2=>⟨(hs j h1 h2).1,fun hl=>((hs j h1 h2).2 hl).2 (by omega)⟩) hk rfl rfl
theorem ux(ls:List (List Id))(at_:Nat)(l:List Id):(kz ls at_ l).length=max ls.length at_:=by
 unfold kz;split
 ·omega
 ·rw[bQ,aW,jh];omega
theorem D7(ls:List (List Id))(at_:Nat)(l:List Id)(m:Nat)(h:∀x∈ls,x.length≤m)(hl:l.length≤m):∀x∈kz ls at_ l,x.length≤m:=by
 intro x hx;unfold kz at hx;split at hx
 ·exact h x hx
 ·rcases mX hx with hx | hx
  ·rw[mV,List.mem_replicate] at hx;rcases hx with hx | ⟨_,rfl⟩
   ·exact h x hx
   ·simp
  ·subst hx;exact hl
theorem am3{H:Heap}{us:List SV}{ls:List (List Id)}{w:SV}{l:List Id}{at_:Nat}(hu:us.length=ls.length)(hs:∀j (h:j < ls.length) (h':j < us.length),Sl H us[j] ls[j])(hw:Sl H w l):
  ∀j (h:j < (kz ls at_ l).length) (h':j < ((if at_=0 then us else(us++List.replicate (at_ - us.length) SV.nil).set (at_ - 1) w)).length),Sl H ((if at_=0 then us else(us++List.replicate (at_ - us.length) SV.nil).set (at_ - 1) w))[j] (kz ls at_ l)[j]:=by
 intro j h h';by_cases h0:at_=0
 ·simp only[kz,h0,if_true] at h h'⊢;exact hs j h h'
 ·simp only[kz,h0,if_false] at h h'⊢;by_cases hj:at_ - 1=j
  ·subst hj;rw[pz,pz];exact hw
  ·rw[jC hj,jC hj];by_cases hjl:j < ls.length
   ·rw[ut (by omega),ut hjl];exact hs j hjl (by omega)
   ·rw[Aq (by omega),Aq (by omega),Gj,Gj];rfl
theorem Cg{v w:SV}{ls:List (List Id)}{l:List Id}(at_:Nat){H:Heap}{lo:Nat}{Q:Out→Heap→Prop}(hv:Sl2 H v ls)(hw:Sl H w l)(hls:ls.length≤100000)(hat:at_≤100000)(hll:∀x∈ls,x.length≤1000000)(hl:l.length≤1000000)(hlo:lo≤H.n)
  (h:∀H' b,Keep H.n H H'→Sl2F H.n H' (.sl b 0 (lq ls at_ l).length (lq ls at_ l).length true) (lq ls at_ l)→Q (.val (SV.sl b 0 (lq ls at_ l).length (lq ls at_ l).length true).iv) H'):W E0 lo (.call 200 [v.iv,.int .i64 at_,w.iv]) H Q:=by
 refine W.pure bu hlo ?_;rw[au2];obtain⟨us,hu1,hu2,hu3⟩:=hv;have hmax:(if (at_:Int)>(ls.length:Int) then(at_:Int) else(ls.length:Int))=((max ls.length at_:Nat):Int):=by split<;>omega
 obtain⟨n,hn⟩:∃n,n=max ls.length at_:=⟨_,rfl⟩
 rw[←hn] at hmax;have ho1:=Own.mksl (H:=H) (e:=31) (n:=n) mG SV.nil;simp only[sA,A4] at ho1;have k1:Keep H.n H (H.new (.cells false 31 1 (iP n [.nilSlice]))):=Keep.new _ _;obtain⟨H2,e2,n2,g2,ho2⟩:=Rr (ex:=true) ho1 (by simp) (hu1.keep k1) mG H.n (by omega) (au _);have hcp:us++(List.replicate n SV.nil).drop us.length=us++List.replicate (n - us.length) SV.nil:=by rw[List.drop_replicate]
 rw[hcp] at ho2;have hlu:∀lo H',ev1 .lenSl [v.iv] lo H'=some (.int .i64 ls.length,H'):=fun lo H'=>by rw[hu1.ln,hu2]
 have kk2:Keep H.n H H2:=⟨by rw[n2,ac];omega,fun x h1 _=>by rw[g2 x (by omega),al,if_neg (by omega)]⟩;rw[ac] at n2
 have key:∀(H3:Heap) (xs:List SV),xs=(if at_=0 then us else(us++List.replicate (at_ - us.length) SV.nil).set (at_ - 1) w)→H3.n=H.n+1→Keep H.n H H3→Own H3 H.n 31 n xs→
   ∀tm,tm.length=44→tm.getD 7 IV.undef=.slice H.n 0 n n true→W E0 H.n (.code (.seq HL (.seq (.seq HJ (.block 0 (.loop wo))) (.seq C9 .ret))) none ⟨tm,[]⟩) H3 (li H.n F200.results fun o H'=>Keep H.n H H'→Q o H'):=by
  intro H3 xs hxs hn3 k3 ho3 tm htm t7;have hps:=am3 (at_:=at_) hu2 (fun j a b=>(hu3 j a b).keep k3) (hw.keep k3);rw[←hxs] at hps;have hpl:=ux ls at_ l
  have hxl:xs.length=n:=by
   rw[hxs];split
   ·omega
   ·rw[bQ,aW,jh];omega
  have hs3:=ho3.sl true;rw[hxl] at hs3;have hv3:Sl2 H3 (.sl H.n 0 n n true) (kz ls at_ l):=⟨xs,hs3,by omega,fun j a b=>hps j a b⟩;have hsh:=fX (kz ls at_ l);rw[GT tm htm,t7,←jS];simp(disch:=omega) only[ak,↓aj,seval,acS];refine Pp hv3 (by omega) ?_;simp(disch:=omega) only[ak,↓aj,seval,acS,aP,bD,Bool.true_or];have hpart:=Sl.part (ex':=true) (c':=n) hs3 mG (a:=0) (m:=aU (kz ls at_ l)) (by omega) (by omega);rw[xX,xU,bL] at hpart;rw[←jS];have hxt:(xs.take (aU (kz ls at_ l))).length=aU (kz ls at_ l):=by rw[eR];omega
  refine E3 hpart (by omega) (by omega) fun H4 b4 k4 hb4 ho4=>?_;rw[hxt] at ho4;rw[hxt];have hrl:(lq ls at_ l).length=aU (kz ls at_ l):=by unfold lq;rw[eR];omega
  simp(disch:=omega) only[ak,↓aj,seval,acS]
  have hn4:=k4.1;refine P6 (H0:=H) (rs:=lq ls at_ l) (b2:=b4) (vs:=xs.take (aU (kz ls at_ l))) (by omega) (by omega) (by omega) (fun x hx=>D7 ls at_ l 1000000 hll hl x (xS hx)) (by omega) (by rw[hrl];exact ho4) ?_ (k3.trans (k4.lower (by omega))) rfl (by rw[hrl];rfl) (by rw[hrl];rfl) (by rw[hrl];rfl) rfl ?_
  ·intro j h1 h2;rw[List.getElem_take]
   have:(lq ls at_ l)[j]=(kz ls at_ l)[j]'(by omega):=List.getElem_take ..
   rw[this];have hj:=hps j (by omega) (by omega);exact⟨hj.keep k4,fun hne=>by have:=hj.blk_lt hne;omega⟩
  ·intro H5 Pa vs5 a1 a2 a3 a4 a5 a6;rw[GT Pa a5,a6];simp(disch:=omega) only[ak,↓aj,seval,acS];refine fun hk=>h _ b4 hk ⟨vs5,?_,a1,fun _=>by rw[iM];omega,a3⟩
   have:=a2.sl true
   rw[a1] at this;exact this
 have hxl2:(us++List.replicate (n - us.length) SV.nil).length=n:=by rw[aW,jh];omega
 by_cases h0:at_=0
 ·subst h0;obtain rfl:n=ls.length:=by omega
  simp(disch:=omega) only[ak,↓aj,seval,Bp,Bo,Bn,Bm,Bl,Bk,Bj,Bi,Bh,wK,wJ,Fx,F200,↓hlu,hmax,↓e2,Int.reducePow]
  rw[←iz];refine key H2 _ rfl n2 kk2 ?_ _ rfl rfl;rw[if_pos rfl];rw[show ls.length - us.length=0 from by omega] at ho2;simpa using ho2
 ·rw[show n - us.length=at_ - us.length from by omega] at ho2;have hxl3:(us++List.replicate (at_ - us.length) SV.nil).length=n:=by rw[aW,jh];omega
  have ho2':=ho2;rw[←hxl3] at ho2';have hfull:=ho2'.full;have hput:=ho2'.put mG (at_ - 1) (by omega) w;simp only[mG,sA] at hfull hput;have hfl:(aD (us++List.replicate (at_ - us.length) SV.nil)).length=n:=by rw[aw,hxl3,mG,lj]
  have hs2:=ho2.sl true;rw[hxl3] at hs2;have et:((at_:Int) - 1).toNat=at_ - 1:=by omega
  have e1:((at_ - 1)*1+1≤(aD (us++List.replicate (at_ - us.length) SV.nil)).length)=True:=by rw[hfl];simp;omega
  have hx:(at_:Int) - 1 < ((us++List.replicate (at_ - us.length) SV.nil).length:Int):=by omega
  have hidx:=hs2.idx;simp only[jS,iM,lH] at hidx;simp(disch:=omega) only[ak,↓aj,seval,Bp,Bo,Bn,Bm,Bl,Bk,Bj,Bi,Bh,wK,wJ,Fx,F200,↓hlu,hmax,↓e2,Int.reducePow,↓hidx,et,hfull,e1];rw[←iz];rw[hxl3] at hput;refine key _ _ (by rw[if_neg h0]) (by rw[ai];exact n2) (kk2.trans (.put _ _ (au _))) hput _ rfl rfl
def aoX(n0:Nat)(H:Heap)(f b:SV)(fs bs:List (List Id)):Prop:=Sl2F n0 H f fs∧Sl2F n0 H b bs∧f.tight∧b.tight
def jD(fs:List (List Id))(bed:Int)(at_:Nat)(l:List Id):List (List Id):=if bed=0 then lq fs at_ l else lq fs 0 []
def jE(bs:List (List Id))(bed:Int)(at_:Nat)(l:List Id):List (List Id):=if bed=0 then lq bs 0 [] else lq bs at_ l
theorem tE{f b w:SV}{fs bs:List (List Id)}{l:List Id}(bed:Int)(at_:Nat){H:Heap}{lo:Nat}{Q:Out→Heap→Prop}(hf:Sl2 H f fs)(hb:Sl2 H b bs)(hw:Sl H w l)(hlf:fs.length≤100000)(hlb:bs.length≤100000)(hat:at_≤100000)(hll:∀x∈fs,x.length≤1000000)(hll':∀x∈bs,x.length≤1000000)(hl:l.length≤1000000)(hlo:lo≤H.n)
  (h:∀H' f' b',Keep H.n H H'→aoX H.n H' f' b' (jD fs bed at_ l) (jE bs bed at_ l)→Q (.val (bv f' b')) H'):W E0 lo (.call 163 [bv f b,.agg [.int .u8 bed,.int .i64 at_],w.iv]) H Q:=by
 refine W.pure bu hlo ?_;rw[avh];by_cases h0:bed=0
 ·simp only[jD,jE,if_pos h0] at h;subst h0;simp(disch:=omega) only[ak,↓aj,seval,OA,bv];generalize hH_H1:Heap.new _ _=H1;have hnH1:H1.n=H.n+3:=by rw[←hH_H1];rfl
  have g0:=congrArg (fun h0=>Heap.get h0 (H.n)) hH_H1.symm;simp(disch:=omega) only[ak,↓aj,seval] at g0;have g1:=congrArg (fun h0=>Heap.get h0 (H.n+1)) hH_H1.symm;simp(disch:=omega) only[ak,↓aj,seval] at g1;have g2:=congrArg (fun h0=>Heap.get h0 (H.n+2)) hH_H1.symm;simp(disch:=omega) only[ak,↓aj,seval] at g2
  have kH1:Keep H.n H H1:=⟨by omega,fun x hx _=>by
   have gx:=congrArg (fun h0=>Heap.get h0 x) hH_H1.symm;simp(disch:=omega) only[ak,↓aj,seval] at gx;exact gx⟩
  clear hH_H1;refine Cg at_ (hf.keep kH1) (hw.keep kH1) hlf hat hll hl (by omega) fun H2 b2 k2 s2=>?_;have hn2:=k2.1;replace g0:=(k2.2 _ (by omega) (by omega)).trans g0;replace g1:=(k2.2 _ (by omega) (by omega)).trans g1;replace g2:=(k2.2 _ (by omega) (by omega)).trans g2;have kk2:Keep H.n H H2:=kH1.trans (k2.lower (by omega));have r0:=af g0;simp(disch:=omega) only[ak,↓aj,seval,OA,r0];refine Cg (w:=.nil) 0 (hb.keep kk2) Sl.empty hlb (by omega) hll' (by simp) (by omega) fun H3 b3 k3 s3=>?_;have hn3:=k3.1;replace g2:=(k3.2 _ (by omega) (by omega)).trans g2;simp(disch:=omega) only[ak,↓aj,seval,OA,g2];exact fun hk=>h _ (.sl b2 0 _ _ true) (.sl b3 0 _ _ true) hk ⟨((s2.keep k3).put (by omega)).lower (by omega),(s3.put (by omega)).lower (by omega),⟨rfl,rfl⟩,⟨rfl,rfl⟩⟩
 ·simp only[jD,jE,if_neg h0] at h;have e0:(bed==0)=false:=by simp[h0]
  simp(disch:=omega) only[ak,↓aj,seval,OA,bv,e0]
  generalize hH_H1:Heap.new _ _=H1;have hnH1:H1.n=H.n+3:=by rw[←hH_H1];rfl
  have g0:=congrArg (fun h0=>Heap.get h0 (H.n)) hH_H1.symm;simp(disch:=omega) only[ak,↓aj,seval] at g0;have g1:=congrArg (fun h0=>Heap.get h0 (H.n+1)) hH_H1.symm;simp(disch:=omega) only[ak,↓aj,seval] at g1;have g2:=congrArg (fun h0=>Heap.get h0 (H.n+2)) hH_H1.symm;simp(disch:=omega) only[ak,↓aj,seval] at g2
  have kH1:Keep H.n H H1:=⟨by omega,fun x hx _=>by
   have gx:=congrArg (fun h0=>Heap.get h0 x) hH_H1.symm;simp(disch:=omega) only[ak,↓aj,seval] at gx;exact gx⟩
  clear hH_H1;refine Cg (w:=.nil) 0 (hf.keep kH1) Sl.empty hlf (by omega) hll (by simp) (by omega) fun H2 b2 k2 s2=>?_;have hn2:=k2.1;replace g0:=(k2.2 _ (by omega) (by omega)).trans g0;replace g1:=(k2.2 _ (by omega) (by omega)).trans g1;replace g2:=(k2.2 _ (by omega) (by omega)).trans g2;have kk2:Keep H.n H H2:=kH1.trans (k2.lower (by omega));have r0:=af g0;have r1:=af g1;simp(disch:=omega) only[ak,↓aj,seval,OA,r0,r1];refine Cg at_ (hb.keep kk2) (hw.keep kk2) hlb hat hll' hl (by omega) fun H3 b3 k3 s3=>?_;have hn3:=k3.1;replace g2:=(k3.2 _ (by omega) (by omega)).trans g2;simp(disch:=omega) only[ak,↓aj,seval,OA,g2];exact fun hk=>h _ (.sl b2 0 _ _ true) (.sl b3 0 _ _ true) hk ⟨((s2.keep k3).put (by omega)).lower (by omega),(s3.put (by omega)).lower (by omega),⟨rfl,rfl⟩,⟨rfl,rfl⟩⟩
end Go.Iso.Gen
end
section
namespace Go.Iso
theorem zi{α:Type}[Cell α]{H:Heap}{b e n:Nat}{l m:List α}{v:SV}(hs:Sl H (.sl b 0 l.length n true) l)(hn:n=l.length)(hv:Sl H v m){z:Nat}(hz:Cell.z α=z)(bytes lo:Nat)(hb:(l.length+m.length)*(bytes+1)≤2^40):
  ∃H2 u,ev1 (.append e z bytes) [.slice b 0 l.length n true,v.iv] lo H=some (SV.iv u,H2)∧Keep H.n H H2∧Sl H2 u (l++m):=by
 by_cases hm:m=[]
 ·subst hm;refine⟨H,.sl b 0 l.length n true,?_,Keep.refl _ _,by simpa using hs⟩;simp only[ev1,hv.lenI,hv.srcI hz,br,bV];rw[if_neg (by rw[i2];decide)];rfl
 ·have hpos:0 < m.length:=List.length_pos_iff.2 hm;obtain⟨H2,e1,e2,e3,e4⟩:=nU (e:=e) hs hv hz bytes lo hm (by omega) hb;exact⟨H2,.sl H.n 0 (l.length+m.length) (l.length+m.length) false,e1,e3,by rw[←aW];rw[←aW] at e4;exact e4.sl false⟩
end Go.Iso
namespace Go.Iso.Gen
open Go.Iso
def gW(fs bs:List (List Id))(fb fa tb ta:Int):Int:=
 if aY fs bs≠0 then aY fs bs
 else if av fb fa≠0∨av tb ta≠0∨fb=tb then 1
 else if (mF fs bs fb fa).length=0 then 13
 else if (mF fs bs fb fa).length+(mF fs bs tb ta).length>4 then 9 else 0
def rO(fs bs:List (List Id))(fb fa tb ta:Int):List Id:=if fb=1 then mF fs bs fb fa++mF fs bs tb ta else mF fs bs tb ta++mF fs bs fb fa
def QR(fs bs:List (List Id))(fb fa tb ta:Int):List (List Id):=jD (jD fs fb fa.toNat []) tb ta.toNat (rO fs bs fb fa tb ta)
def QT(fs bs:List (List Id))(fb fa tb ta:Int):List (List Id):=jE (jE bs fb fa.toNat []) tb ta.toNat (rO fs bs fb fa tb ta)
theorem eK{b a:Int}(h:av b a=0):(b=0∨b=1)∧1≤a∧a≤40:=by
 unfold av at h;split at h
 ·assumption
 ·omega
theorem ju(b a:Int):av b a=0∨av b a=1:=by
 unfold av;split
 ·exact .inl rfl
 ·exact .inr rfl
theorem jv{fs bs:List (List Id)}(h:aY fs bs=0):fs.length≤40∧bs.length≤40∧(∀l∈fs,l.length≤4)∧(∀l∈bs,l.length≤4)∧(∀a∈(fs++bs).flatten,bI a=true)∧(fs++bs).flatten.Nodup:=by
 unfold aY at h;split at h
 ·omega
 split at h
 ·omega
 split at h
 ·rename_i h1 h2 h3;rw[not_or,Aj,Aj] at h1
  have key:∀ls:List (List Id),mE ls=false→ls.length≤40∧∀l∈ls,l.length≤4:=fun ls h=>by
   unfold mE at h;rw[Ge,List.any_eq_false] at h;refine⟨by simpa using h.1,fun l hl=>by have:=h.2 l hl;simpa using this⟩
  obtain⟨a1,a2⟩:=key fs h1.1;obtain⟨a3,a4⟩:=key bs h1.2;rw[Bool.not_eq_false,um] at h2;exact⟨a1,a3,a2,a4,h2,h3⟩
 ·omega
theorem rE(ls:List (List Id))(at_:Nat)(l:List Id):(lq ls at_ l).length≤max ls.length at_:=by
 unfold lq;rw[eR,ux];omega
theorem rD(ls:List (List Id))(at_:Nat)(l:List Id)(m:Nat)(h:∀x∈ls,x.length≤m)(hl:l.length≤m):∀x∈lq ls at_ l,x.length≤m:=fun x hx=>D7 ls at_ l m h hl x (xS hx)
theorem jt(fs bs:List (List Id))(b a:Int)(m:Nat)(h:∀x∈fs,x.length≤m)(h':∀x∈bs,x.length≤m):(mF fs bs b a).length≤m:=by
 unfold mF;split
 ·have key:∀(ls:List (List Id)) (i:Nat),(∀x∈ls,x.length≤m)→((ls[i]?).getD []).length≤m:=fun ls i h=>by
   by_cases hi:i < ls.length
   ·rw[ca hi];exact h _ (bm hi)
   ·rw[ji (by omega)];simp
  split
  ·exact key _ _ h'
  ·exact key _ _ h
 ·simp
def anr(tm:List IV)(h:tm.length=68):=(ch tm 68 h).trans (by simp only[List.range,List.range.loop,bB,bc];exact rfl)
theorem ad0{f b:SV}{fs bs:List (List Id)}(fb fa tb ta:Int){H:Heap}{lo:Nat}{Q:Out→Heap→Prop}(hf:Sl2 H f fs)(hb:Sl2 H b bs)(hlf:fs.length≤100000)(hlb:bs.length≤100000)(hll:∀x∈fs,x.length≤1000000)(hll':∀x∈bs,x.length≤1000000)(hlo:lo≤H.n)
  (he:∀H',Keep H.n H H'→gW fs bs fb fa tb ta≠0→Q (.val (.tuple [bv .nil .nil,.int .i64 (gW fs bs fb fa tb ta)])) H')
  (h:∀H' f' b',Keep H.n H H'→gW fs bs fb fa tb ta=0→aoX H.n H' f' b' (QR fs bs fb fa tb ta) (QT fs bs fb fa tb ta)→Q (.val (.tuple [bv f' b',.int .i64 0])) H'):W E0 lo (.call 129 [bv f b,.agg [.int .u8 fb,.int .i64 fa],.agg [.int .u8 tb,.int .i64 ta]]) H Q:=by
 refine W.pure bu hlo ?_;rw[avA];simp(disch:=omega) only[ak,↓aj,seval,pm,bv];generalize hH_H1:Heap.new _ _=H1;have hnH1:H1.n=H.n+4:=by rw[←hH_H1];rfl
 have g0:=congrArg (fun h0=>Heap.get h0 (H.n)) hH_H1.symm;simp(disch:=omega) only[ak,↓aj,seval] at g0;have g1:=congrArg (fun h0=>Heap.get h0 (H.n+1)) hH_H1.symm;simp(disch:=omega) only[ak,↓aj,seval] at g1;have g2:=congrArg (fun h0=>Heap.get h0 (H.n+2)) hH_H1.symm;simp(disch:=omega) only[ak,↓aj,seval] at g2;have g3:=congrArg (fun h0=>Heap.get h0 (H.n+3)) hH_H1.symm;simp(disch:=omega) only[ak,↓aj,seval] at g3
 have kH1:Keep H.n H H1:=⟨by omega,fun x hx _=>by
  have gx:=congrArg (fun h0=>Heap.get h0 x) hH_H1.symm;simp(disch:=omega) only[ak,↓aj,seval] at gx;exact gx⟩
 clear hH_H1;rw[show IV.agg [f.iv,b.iv]=bv f b from rfl];refine sF (hf.keep kH1) (hb.keep kH1) (by omega) (by omega) hll hll' (by omega) fun H2 k2=>?_;have hn2:=k2.1;replace g0:=(k2.2 _ (by omega) (by omega)).trans g0;replace g1:=(k2.2 _ (by omega) (by omega)).trans g1;replace g2:=(k2.2 _ (by omega) (by omega)).trans g2;replace g3:=(k2.2 _ (by omega) (by omega)).trans g3;replace kH1:Keep H.n H H2:=kH1.trans (k2.lower (by omega));clear k2;by_cases hc:aY fs bs=0
 case neg=>
  have e0:(aY fs bs !=0)=true:=by simp[hc]
  have ej:gW fs bs fb fa tb ta=aY fs bs:=by unfold gW;rw[if_pos hc]
  rw[ej] at he;simp(disch:=omega) only[ak,↓aj,seval,pm,e0,g3];exact fun hk=>he _ hk hc
 have hlen:=jv hc;have r1:=af g1;have r2:=af g2;simp(disch:=omega) only[ak,↓aj,seval,pm,hc,r1];refine cn fb fa (by omega) fun H3 k3=>?_;have hn3:=k3.1;replace g0:=(k3.2 _ (by omega) (by omega)).trans g0;replace g1:=(k3.2 _ (by omega) (by omega)).trans g1;replace g2:=(k3.2 _ (by omega) (by omega)).trans g2;replace g3:=(k3.2 _ (by omega) (by omega)).trans g3;replace kH1:Keep H.n H H3:=kH1.trans (k3.lower (by omega));clear k3 r1 r2;have r1:=af g1;have r2:=af g2;have ej1:av fb fa≠0∨av tb ta≠0∨fb=tb→gW fs bs fb fa tb ta=1:=fun h=>by unfold gW;rw[if_neg (by simp[hc]),if_pos h]
 rcases ju fb fa with hfa | hfa
 case inr=>
  rw[ej1 (.inl (by omega))] at he;simp(disch:=omega) only[ak,↓aj,seval,pm,hfa,g3];exact fun hk=>he _ hk (by omega)
 simp(disch:=omega) only[ak,↓aj,seval,pm,hfa,r2]
 refine cn tb ta (by omega) fun H4 k4=>?_;have hn4:=k4.1;replace g0:=(k4.2 _ (by omega) (by omega)).trans g0;replace g1:=(k4.2 _ (by omega) (by omega)).trans g1;replace g2:=(k4.2 _ (by omega) (by omega)).trans g2;replace g3:=(k4.2 _ (by omega) (by omega)).trans g3;replace kH1:Keep H.n H H4:=kH1.trans (k4.lower (by omega));clear k4 r1 r2;have r1:=af g1;have r2:=af g2;rcases ju tb ta with hta | hta
 case inr=>
  rw[ej1 (.inr (.inl (by omega)))] at he;simp(disch:=omega) only[ak,↓aj,seval,pm,hta,g3];exact fun hk=>he _ hk (by omega)
 by_cases hbb:fb=tb
 ·rw[ej1 (.inr (.inr hbb))] at he;simp(disch:=omega) only[ak,↓aj,seval,pm,hta,r1,r2,hbb,g3];exact fun hk=>he _ hk (by omega)
 have ebb:(fb==tb)=false:=by simp[hbb]
 have r0:=af g0;simp(disch:=omega) only[ak,↓aj,seval,pm,hta,r1,r2,ebb,r0];rw[show IV.agg [f.iv,b.iv]=bv f b from rfl];refine uR fb fa (hf.keep kH1) (hb.keep kH1) hll hll' (by omega) fun H5 v5 k5 s5=>?_;have hn5:=k5.1;replace g0:=(k5.2 _ (by omega) (by omega)).trans g0;replace g1:=(k5.2 _ (by omega) (by omega)).trans g1;replace g2:=(k5.2 _ (by omega) (by omega)).trans g2;replace g3:=(k5.2 _ (by omega) (by omega)).trans g3;replace kH1:Keep H.n H H5:=kH1.trans (k5.lower (by omega));clear k5 r0 r1 r2;have r0:=af g0;have r1:=af g1;have r2:=af g2;simp(disch:=omega) only[ak,↓aj,seval,pm,r0,r2];rw[show IV.agg [f.iv,b.iv]=bv f b from rfl];refine uR tb ta (hf.keep kH1) (hb.keep kH1) hll hll' (by omega) fun H6 v6 k6 s6=>?_;have hn6:=k6.1;replace g0:=(k6.2 _ (by omega) (by omega)).trans g0;replace g1:=(k6.2 _ (by omega) (by omega)).trans g1;replace g2:=(k6.2 _ (by omega) (by omega)).trans g2;replace g3:=(k6.2 _ (by omega) (by omega)).trans g3;replace kH1:Keep H.n H H6:=kH1.trans (k6.lower (by omega));replace s5:=s5.keep k6;clear k6 r0 r1 r2;have r0:=af g0;have r1:=af g1;have r2:=af g2;have hs5:=s5.sl;have hs6:=s6.sl;have hl5:=jt fs bs fb fa 4 hlen.2.2.1 hlen.2.2.2.1;have hl6:=jt fs bs tb ta 4 hlen.2.2.1 hlen.2.2.2.1;by_cases h0:(mF fs bs fb fa).length=0
 ·have ej:gW fs bs fb fa tb ta=13:=by unfold gW;rw[if_neg (by simp[hc]),if_neg (by simp[hfa,hta,hbb]),if_pos h0]
  rw[ej] at he;simp(disch:=omega) only[ak,↓aj,seval,pm,↓hs5.ln,g3];exact fun hk=>he _ hk (by omega)
 by_cases h4:(mF fs bs fb fa).length+(mF fs bs tb ta).length>4
 ·have ej:gW fs bs fb fa tb ta=9:=by unfold gW;rw[if_neg (by simp[hc]),if_neg (by simp[hfa,hta,hbb]),if_neg h0,if_pos h4]
  rw[ej] at he;simp(disch:=omega) only[ak,↓aj,seval,pm,↓hs5.ln,↓hs6.ln,g3];exact fun hk=>he _ hk (by omega)
 have ej:gW fs bs fb fa tb ta=0:=by unfold gW;rw[if_neg (by simp[hc]),if_neg (by simp[hfa,hta,hbb]),if_neg h0,if_neg h4]
 simp(disch:=omega) only[ak,↓aj,seval,pm,↓hs5.ln,↓hs6.ln]
 obtain⟨hfb,hfa1,hfa2⟩:=eK hfa;obtain⟨htb,hta1,hta2⟩:=eK hta
 have key:∀(H9:Heap) (u:SV),H6.n≤H9.n→Keep H.n H H9→H9.get H.n=some (.cells false 26 2 [f.iv,b.iv])→H9.get (H.n+1)=some (.cells false 54 2 [.int .u8 fb,.int .i64 fa])→H9.get (H.n+2)=some (.cells false 54 2 [.int .u8 tb,.int .i64 ta])→H9.get (H.n+3)=some (.cells false 26 2 [.nilSlice,.nilSlice])→Sl H9 u (rO fs bs fb fa tb ta)→
   ∀tm,tm.length=68→tm.getD 3 IV.undef=.ptr H.n 0→tm.getD 4 IV.undef=.ptr (H.n+1) 0→tm.getD 5 IV.undef=.ptr (H.n+2) 0→tm.getD 6 IV.undef=.ptr (H.n+3) 0→tm.getD 11 IV.undef=u.iv→W E0 H.n (.code (.seq Dm .ret) none ⟨tm,[]⟩) H9 (li H.n F129.results fun o H'=>Keep H.n H H'→Q o H'):=by
  intro H9 u hn9 k9 g0 g1 g2 g3 hu tm htm t3 t4 t5 t6 t11;have r0:=af g0;have r1:=af g1;have r2:=af g2;have hjs:(rO fs bs fb fa tb ta).length≤4:=by unfold rO;split<;>rw[aW]<;>omega
  rw[anr tm htm,t3,t4,t5,t6,t11];simp(disch:=omega) only[ak,↓aj,seval,pm,r0,r1];have efa:fa=((fa.toNat:Nat):Int):=by omega
  have eta:ta=((ta.toNat:Nat):Int):=by omega
  rw[show IV.agg [f.iv,b.iv]=bv f b from rfl,efa];refine tE (w:=.nil) (l:=[]) fb fa.toNat (hf.keep k9) (hb.keep k9) Sl.empty hlf hlb (by omega) hll hll' (by simp) (by omega) fun H10 f10 b10 k10 s10=>?_;rw[←efa];have hn10:=k10.1;replace g0:=(k10.2 _ (by omega) (by omega)).trans g0;replace g1:=(k10.2 _ (by omega) (by omega)).trans g1;replace g2:=(k10.2 _ (by omega) (by omega)).trans g2;replace g3:=(k10.2 _ (by omega) (by omega)).trans g3;have r2:=af g2;have k10':Keep H.n H H10:=k9.trans (k10.lower (by omega));simp(disch:=omega) only[ak,↓aj,seval,pm,r2]
  have hF:(jD fs fb fa.toNat []).length≤100000∧∀x∈jD fs fb fa.toNat [],x.length≤1000000:=by
   unfold jD;split
   ·exact⟨dr (rE _ _ _) (by omega),rD _ _ _ _ hll (by simp)⟩
   ·exact⟨dr (rE _ _ _) (by omega),rD _ _ _ _ hll (by simp)⟩
  have hB:(jE bs fb fa.toNat []).length≤100000∧∀x∈jE bs fb fa.toNat [],x.length≤1000000:=by
   unfold jE;split
   ·exact⟨dr (rE _ _ _) (by omega),rD _ _ _ _ hll' (by simp)⟩
   ·exact⟨dr (rE _ _ _) (by omega),rD _ _ _ _ hll' (by simp)⟩
  rw[eta];refine tE tb ta.toNat s10.1.sl2 s10.2.1.sl2 (hu.keep k10) hF.1 hB.1 (by omega) hF.2 hB.2 (by omega) (by omega) fun H11 f11 b11 k11 s11=>?_;rw[←eta];have hn11:=k11.1;replace g3:=(k11.2 _ (by omega) (by omega)).trans g3;simp(disch:=omega) only[ak,↓aj,seval,pm,g3,bv];exact fun hk=>h _ f11 b11 hk ej ⟨(s11.1.put (by omega)).lower (by omega),(s11.2.1.put (by omega)).lower (by omega),s11.2.2⟩
 refine i5 hs6 (by omega) (by omega) fun H7 c7 k7 hc7 o7=>?_;have hn7:=k7.1;replace g0:=(k7.2 _ (by omega) (by omega)).trans g0;replace g1:=(k7.2 _ (by omega) (by omega)).trans g1;replace g2:=(k7.2 _ (by omega) (by omega)).trans g2;replace g3:=(k7.2 _ (by omega) (by omega)).trans g3;have kk7:Keep H.n H H7:=kH1.trans (k7.lower (by omega));obtain⟨H8,u8,e8,k8,s8⟩:=zi (e:=138) (o7.sl true) rfl (hs5.keep k7) kT 16 H.n (by omega);have hn8:=k8.1;replace g0:=(k8.2 _ (by omega) (by omega)).trans g0;replace g1:=(k8.2 _ (by omega) (by omega)).trans g1;replace g2:=(k8.2 _ (by omega) (by omega)).trans g2;replace g3:=(k8.2 _ (by omega) (by omega)).trans g3;have kk8:Keep H.n H H8:=kk7.trans (k8.lower (by omega));have r1:=af g1;by_cases hb1:fb=1
 ·have ebb1:(fb==1)=true:=by simp[hb1]
  simp(disch:=omega) only[ak,↓aj,seval,pm,↓e8,r1,ebb1]
  refine i5 ((hs5.keep k7).keep k8) (by omega) (by omega) fun H9 c9 k9 hc9 o9=>?_;have hn9:=k9.1;replace g0:=(k9.2 _ (by omega) (by omega)).trans g0;replace g1:=(k9.2 _ (by omega) (by omega)).trans g1;replace g2:=(k9.2 _ (by omega) (by omega)).trans g2;replace g3:=(k9.2 _ (by omega) (by omega)).trans g3;have kk9:Keep H.n H H9:=kk8.trans (k9.lower (by omega));obtain⟨H10,u10,e10,k10,s10⟩:=zi (e:=138) (o9.sl true) rfl (((hs6.keep k7).keep k8).keep k9) kT 16 H.n (by omega);have hn10:=k10.1;replace g0:=(k10.2 _ (by omega) (by omega)).trans g0;replace g1:=(k10.2 _ (by omega) (by omega)).trans g1;replace g2:=(k10.2 _ (by omega) (by omega)).trans g2;replace g3:=(k10.2 _ (by omega) (by omega)).trans g3;simp(disch:=omega) only[ak,↓aj,seval,BJ,BI,BH,BG,BF,BE,BD,BC,BB,BA,xt,xr,xq,xp,Fz,F129,↓e10];rw[←iz];exact key H10 u10 (by omega) (kk9.trans (k10.lower (by omega))) g0 g1 g2 g3 (by rw[rO,if_pos hb1];exact s10) _ rfl rfl rfl rfl rfl rfl
 ·have ebb1:(fb==1)=false:=by simp[hb1]
  simp(disch:=omega) only[ak,↓aj,seval,BJ,BI,BH,BG,BF,BE,BD,BC,BB,BA,xt,xr,xq,xp,Fz,F129,↓e8,r1,ebb1]
  rw[←iz];exact key H8 u8 (by omega) kk8 g0 g1 g2 g3 (by rw[rO,if_neg hb1];exact s8) _ rfl rfl rfl rfl rfl rfl
def anB(tm:List IV)(h:tm.length=26):=(ch tm 26 h).trans (by simp only[List.range,List.range.loop,bB,bc];exact rfl)
def auJ(tm:List IV)(h:tm.length=32):=(ch tm 32 h).trans (by simp only[List.range,List.range.loop,bB,bc];exact rfl)
def bP(ls:List (List Id)):List (List Id):=ls.take (aU ls)
def Cut(H:Heap)(v:SV):Prop:=match v with | .nil=>True | .sl b _ _ _ ex=>ex=true∨(b < H.n∧zM H b 1=true)
structure Pt where
 a:Nat
 m:Nat
 deriving Inhabited
instance:Cell Pt where
 z:=2
 cs p:=[.int .u8 p.a,.int .u8 p.m]
 len _:=rfl
 one _:=rfl
 pos:=by omega
theorem O8(a b:Nat):(a:Int).tmod (b:Int)=((a%b:Nat):Int):=by
 rw[Gn (by omega)];omega
theorem Pa(a:Nat):(a:Int).tmod 5=((a%5:Nat):Int):=O8 a 5
theorem Pb(a:Nat):(a:Int).tmod 3=((a%3:Nat):Int):=O8 a 3
def idN(n:Nat):Id:=⟨((1+n%3:Nat):Int),((n / 3:Nat):Int)⟩
def Q7(l:List Id)(n:Nat):Nat→List Id×Nat
 | 0=>(l,n)
 | m+1=>if l.length < 4 then Q7 (l++[idN n]) (n+1) m else(l,n)
def ana(s:List (List Id)×Nat)(p:Pt):List (List Id)×Nat:=
 (s.1.set (p.a%80) (Q7 (s.1.getD (p.a%80) []) s.2 (p.m%5)).1,(Q7 (s.1.getD (p.a%80) []) s.2 (p.m%5)).2)
def ofT(xs:List Pt):List (List Id)×Nat:=(xs.take 40).foldl ana (List.replicate 80 [],0)
def Tb(lo:Nat)(H:Heap)(vs:List SV)(t:List (List Id)):Prop:=vs.length=80∧t.length=80∧(∀i (h:i < vs.length) (h':i < t.length),(vs[i]=.nil∧t[i]=[])∨∃b,vs[i]=.sl b 0 t[i].length t[i].length false∧lo≤b∧t[i]≠[]∧Own H b 138 t[i].length t[i])∧
 ∀i j (h:i < vs.length) (h':j < vs.length),i≠j→vs[i]≠.nil→vs[j]≠.nil→vs[i].blk≠vs[j].blk
def auG(tm:List IV)(h:tm.length=59):=(ch tm 59 h).trans (by simp only[List.range,List.range.loop,bB,bc];exact rfl)
structure Good(s:List (List Id)×Nat):Prop where
 len:s.1.length=80
 four:∀l∈s.1,l.length≤4
 ids:∀a∈s.1.flatten,∃j,j < s.2∧a=idN j
 nd:s.1.flatten.Nodup
theorem tF{t:List (List Id)}{i:Nat}(hi:i < t.length)(l:List Id):(t.set i (t[i]++l)).flatten.Perm (t.flatten++l):=by
 have e1:t.flatten=(t.take i).flatten++(t[i]++(t.drop (i+1)).flatten):=by
  have h0:t=t.take i++t[i]::t.drop (i+1):=by rw[←pD hi,rA]
  have:=congrArg List.flatten h0
  rw[iq,up] at this;exact this
 rw[List.set_eq_take_append_cons_drop,if_pos hi,iq,up,e1];simp only[cj];refine Gh _ (Gh _ ?_);exact Gg
def Tab(H:Heap)(vs:List SV)(t:List (List Id)):Prop:=vs.length=80∧t.length=80∧∀i (h:i < vs.length) (h':i < t.length),Sl H vs[i] t[i]
def aQ(t:List (List Id)):List (List Id):=bP (t.take 40)
def aI(t:List (List Id)):List (List Id):=bP (t.drop 40)
def ayT(n0:Nat)(H:Heap)(n k:Nat)(v:SV):Prop:=(n≤k∧v=.nil)∨(k < n∧∃b,v=.sl b 0 n n true∧n0≤b∧Own H b 31 n (List.replicate n SV.nil))
def auD(tm:List IV)(h:tm.length=76):=(ch tm 76 h).trans (by simp only[List.range,List.range.loop,bB,bc];exact rfl)
def nB(i:Nat):Int:=((i%80 / 40:Nat):Int)
def nA(i:Nat):Int:=((1+i%40:Nat):Int)
def ayU(t fs bs:List (List Id)):Prop:=(∀i,i < 80→mF fs bs (nB i) (nA i)=t.getD i [])∧aU fs=fs.length∧aU bs=bs.length
def CC(tm:List IV)(h:tm.length=80):=(ch tm 80 h).trans (by simp only[List.range,List.range.loop,bB,bc];exact rfl)
end Go.Iso.Gen
end
section
namespace Go.Iso
section
variable {α:Type}
theorem ad7{ls:List (List α)}{i:Nat}(h:ls.getD i []≠[]):∃hi:i < ls.length,ls.getD i []=ls[i]:=by
 rw[ij] at h⊢;by_cases hi:i < ls.length
 ·exact⟨hi,by rw[ca hi,gQ]⟩
 ·rw[ji (by omega)] at h;exact absurd rfl h
theorem bG{ls:List (List α)}{i:Nat}(hi:i < ls.length):ls.getD i []=ls[i]:=by rw[ij,ca hi,gQ]
theorem iZ{ls:List (List α)}{i:Nat}(hi:ls.length≤i):ls.getD i []=[]:=by rw[ij,ji hi,x8]
theorem ug{ls ms:List (List α)}(h:∀i,ls.getD i []=ms.getD i []):aU ls≤aU ms:=by
 have hle:=fX ls
 cases hn:aU ls with
 | zero=>omega
 | succ n=>
   have h1:=mS ls n (by omega) hn;have h2:=h n;rw[bG (show n < ls.length by omega)] at h2;obtain⟨h3,h4⟩:=ad7 (ls:=ms) (i:=n) (by rw[←h2];exact h1);exact shortN_ge' h3 (by rw[←h4,←h2];exact h1)
where shortN_ge' {l:List (List α)} {i:Nat} (hi:i < l.length) (h:l[i]≠[]):i+1≤aU l:=Nat.lt_of_not_le fun hle=>h (e9 l i hi hle)
end
end Go.Iso
namespace Go.Iso.Gen
open Go.Iso
theorem iB(ls:List (List Id)):(bP ls).length=aU ls:=by
 have:=fX ls
 unfold bP;rw[eR];omega
theorem cw(ls:List (List Id))(i:Nat):(bP ls).getD i []=ls.getD i []:=by
 have hs:=fX ls;by_cases h:i < aU ls
 ·rw[bG (by rw[iB];exact h),bG (by omega)];unfold bP;rw[List.getElem_take]
 ·rw[iZ (by rw[iB];omega)];by_cases hi:i < ls.length
  ·rw[bG hi,e9 ls i hi (by omega)]
  ·rw[iZ (by omega)]
theorem Ae{ls ms:List (List Id)}(h:∀i,ls.getD i []=ms.getD i []):bP ls=bP ms:=by
 have hn:aU ls=aU ms:=Nat.le_antisymm (ug h) (ug fun i=>(h i).symm);apply xP
 ·rw[iB,iB,hn]
 ·intro i h1 h2
  have:=h i
  rw[←cw,←cw ms,bG h1,bG h2] at this;exact this
theorem DM(ls:List (List Id)):bP (bP ls)=bP ls:=Ae fun i=>cw ls i
theorem mT(ls:List (List Id)):(bP ls).flatten=ls.flatten:=by
 have h:ls=bP ls++ls.drop (aU ls):=by unfold bP;rw[rA]
 have h2:(ls.drop (aU ls)).flatten=[]:=by
  rw[List.flatten_eq_nil_iff];intro l hl;obtain⟨i,hi,rfl⟩:=List.mem_iff_getElem.1 hl;rw[List.getElem_drop];exact e9 ls _ _ (by omega)
 have:=congrArg List.flatten h
 rw[iq,h2,ip] at this;exact this.symm
theorem NC(ls:List (List Id))(at_:Nat)(l:List Id)(i:Nat):(kz ls at_ l).getD i []=if at_=i+1 then l else ls.getD i []:=by
 unfold kz;by_cases h0:at_=0
 ·rw[if_pos h0,if_neg (by omega)]
 ·rw[if_neg h0];by_cases hi:at_=i+1
  ·subst hi;rw[if_pos rfl,bG (by rw[bQ,aW,jh];omega)];simp
  ·rw[if_neg hi];by_cases hil:i < ls.length
   ·rw[bG (by rw[bQ,aW,jh];omega),jC (by omega),ut hil,bG hil]
   ·rw[iZ (by omega:ls.length≤i)];by_cases hi2:i < at_
    ·rw[bG (by rw[bQ,aW,jh];omega),jC (by omega),Aq (by omega),Gj]
    ·exact iZ (by rw[bQ,aW,jh];omega)
theorem DN(ls:List (List Id))(k:Nat)(hk:k < ls.length)(l:List Id)(i:Nat):(ls.set k l).getD i []=if k=i then l else ls.getD i []:=by
 by_cases h:k=i
 ·subst h;rw[if_pos rfl,bG (by rw[bQ];exact hk)];simp
 ·rw[if_neg h];simp[ij,Cd h]
theorem ye(A:List (List Id))(k:Nat)(hk:k < A.length)(l:List Id):lq (bP A) (k+1) l=bP (A.set k l):=by
 have:lq (bP A) (k+1) l=bP (kz (bP A) (k+1) l):=rfl
 rw[this];refine Ae fun i=>?_;rw[NC,DN A k hk,cw];by_cases h:k=i
 ·rw[if_pos (by omega),if_pos h]
 ·rw[if_neg (by omega),if_neg h]
theorem At(A:List (List Id)):lq (bP A) 0 []=bP A:=by
 have:lq (bP A) 0 []=bP (bP A):=rfl
 rw[this,DM]
def ix(b a:Int):Nat:=(40*b+a - 1).toNat
theorem FT(t:List (List Id))(k:Nat)(l:List Id)(h:k < 40):(t.set k l).take 40=(t.take 40).set k l:=by rw[List.take_set]
theorem GY(t:List (List Id))(k:Nat)(l:List Id)(h:40≤k):(t.set k l).drop 40=(t.drop 40).set (k - 40) l:=by rw[List.drop_set,if_neg (by omega)]
theorem yf{t:List (List Id)}(ht:t.length=80){b a:Int}(hv:av b a=0)(l:List Id):jD (aQ t) b a.toNat l=aQ (t.set (ix b a) l)∧jE (aI t) b a.toNat l=aI (t.set (ix b a) l):=by
 obtain⟨hb,h1,h2⟩:=eK hv;have ha:a.toNat=(a - 1).toNat+1:=by omega
 rcases hb with rfl | rfl
 ·have hi:ix 0 a=(a - 1).toNat:=by unfold ix;omega
  have hlt:(a - 1).toNat < 40:=by omega
  constructor
  ·unfold jD aQ;rw[if_pos rfl,ha,ye _ _ (by rw[eR];omega),hi,FT _ _ _ hlt]
  ·unfold jE aI;rw[if_pos rfl,At,hi,List.drop_set,if_pos hlt]
 ·have hi:ix 1 a=40+(a - 1).toNat:=by unfold ix;omega
  have hlt:(a - 1).toNat < 40:=by omega
  constructor
  ·unfold jD aQ;rw[if_neg (by omega),At,hi,List.take_set,List.set_eq_of_length_le (by rw[eR];omega)]
  ·unfold jE aI;rw[if_neg (by omega),ha,ye _ _ (by rw[iV];omega),hi,GY _ _ _ (by omega),Nat.add_sub_cancel_left]
theorem AL(t:List (List Id))(n i:Nat)(h:i < n):(t.take n).getD i []=t.getD i []:=by
 simp[ij,List.getElem?_take,h]
theorem AM(t:List (List Id))(n i:Nat):(t.drop n).getD i []=t.getD (n+i) []:=by
 simp[ij,px]
theorem jd(t:List (List Id)){b a:Int}(hv:av b a=0):mF (aQ t) (aI t) b a=t.getD (ix b a) []:=by
 unfold mF;rw[if_pos hv];obtain⟨hb,h1,h2⟩:=eK hv;rw[←ij];rcases hb with rfl | rfl
 ·rw[if_neg (by omega)];unfold aQ;rw[cw,AL _ _ _ (by omega)];congr 1;unfold ix;omega
 ·rw[if_pos rfl];unfold aI;rw[cw,AM];congr 1;unfold ix;omega
theorem RH(fs bs:List (List Id)){b a:Int}(hv:av b a≠0):mF fs bs b a=[]:=by unfold mF;rw[if_neg hv]
theorem Ei(i:Nat):av (nB i) (nA i)=0:=by
 unfold av nB nA;rw[if_pos (by omega)]
theorem NM{b a:Int}(hv:av b a=0):nB (ix b a)=b∧nA (ix b a)=a∧ix b a < 80:=by
 obtain⟨hb,h1,h2⟩:=eK hv;unfold ix nB nA;omega
theorem jO(t:List (List Id)):(aQ t).length≤40:=by
 unfold aQ
 have:=fX (t.take 40)
 rw[eR] at this;rw[iB];omega
theorem hZ{t:List (List Id)}(ht:t.length=80):(aI t).length≤40:=by
 unfold aI
 have:=fX (t.drop 40)
 rw[iV] at this;rw[iB];omega
theorem CX(t:List (List Id)):(aQ t++aI t).flatten=t.flatten:=by
 unfold aQ aI;rw[iq,mT,mT,←iq,rA]
theorem fl{t:List (List Id)}{l:List Id}(h:l∈aQ t):l∈t:=xS (xS h)
theorem dw{t:List (List Id)}{l:List Id}(h:l∈aI t):l∈t:=Gd (xS h)
structure Valid(t:List (List Id)):Prop where
 len:t.length=80
 four:∀l∈t,l.length≤4
 named:∀a∈t.flatten,bI a=true
 nd:t.flatten.Nodup
theorem Valid.check{t:List (List Id)}(h:Valid t):aY (aQ t) (aI t)=0:=by
 have key:∀ls:List (List Id),ls.length≤40→(∀l∈ls,l∈t)→mE ls=false:=fun ls h1 h2=>by
  unfold mE;rw[Ge,List.any_eq_false];exact⟨by simp;omega,fun l hl=>by have:=h.four l (h2 l hl);simp;omega⟩
 unfold aY;rw[CX,if_neg,if_neg,if_pos h.nd]
 ·rw[Bool.not_eq_false,um];exact h.named
 ·rw[key _ (jO t) fun l=>fl,key _ (hZ h.len) fun l=>dw];simp
def yI(fb:Int)(a b:List Id):List Id:=if fb=1 then a++b else b++a
def nh(t:List (List Id))(fb:Int)(i k:Nat):List (List Id):=(t.set i []).set k (yI fb (t.getD i []) (t.getD k []))
theorem apI{fb fa tb ta:Int}(hf:av fb fa=0)(ht:av tb ta=0)(hb:fb≠tb):ix fb fa≠ix tb ta:=by
 intro e;have h1:=NM hf;have h2:=NM ht;rw[e] at h1;exact hb (h1.1.symm.trans h2.1)
theorem QS{t:List (List Id)}(hV:Valid t)(fb fa tb ta:Int):gW (aQ t) (aI t) fb fa tb ta=
  if av fb fa≠0∨av tb ta≠0∨fb=tb then 1 else if (t.getD (ix fb fa) []).length=0 then 13 else if (t.getD (ix fb fa) []).length+(t.getD (ix tb ta) []).length>4 then 9 else 0:=by
 unfold gW;rw[if_neg (by rw[hV.check];simp)];by_cases h:av fb fa≠0∨av tb ta≠0∨fb=tb
 ·rw[if_pos h,if_pos h]
 ·rw[if_neg h,if_neg h];rw[not_or,not_or,Classical.not_not,Classical.not_not] at h;rw[jd t h.1,jd t h.2.1]
theorem QQ{t:List (List Id)}{fb fa tb ta:Int}(hf:av fb fa=0)(ht:av tb ta=0):rO (aQ t) (aI t) fb fa tb ta=yI fb (t.getD (ix fb fa) []) (t.getD (ix tb ta) []):=by
 unfold rO yI;rw[jd t hf,jd t ht]
theorem NX{t:List (List Id)}(hV:Valid t){fb fa tb ta:Int}(hf:av fb fa=0)(ht:av tb ta=0):
  QR (aQ t) (aI t) fb fa tb ta=aQ (nh t fb (ix fb fa) (ix tb ta))∧QT (aQ t) (aI t) fb fa tb ta=aI (nh t fb (ix fb fa) (ix tb ta)):=by
 unfold QR QT nh;have h1:=yf hV.len hf [];rw[h1.1,h1.2,QQ hf ht];exact yf (by rw[bQ];exact hV.len) ht _
theorem tt{t:List (List Id)}{i:Nat}(hi:i < t.length)(l:List Id):(t.set i l).flatten.Perm (l++(t.set i []).flatten):=by
 have:=tF (t:=t.set i []) (i:=i) (by rw[bQ];exact hi) l
 rw[pz,ru,List.set_set] at this;exact this.trans Gg
theorem lY{t:List (List Id)}{i:Nat}(hi:i < t.length):t.flatten.Perm (t.getD i []++(t.set i []).flatten):=by
 have:=tt hi (t.getD i [])
 rw[bG hi,List.set_getElem_self] at this;rw[bG hi];exact this
theorem yH(fb:Int)(a b:List Id):(yI fb a b).Perm (a++b):=by
 unfold yI;split
 ·exact .refl _
 ·exact Gg
theorem NW(fb:Int)(a b:List Id):(yI fb a b).length=a.length+b.length:=by rw[(yH fb a b).length_eq,aW]
theorem GO{t:List (List Id)}{i k:Nat}(fb:Int)(hi:i < t.length)(hk:k < t.length)(hik:i≠k):(nh t fb i k).flatten.Perm t.flatten:=by
 unfold nh;have h1:=tt (t:=t.set i []) (i:=k) (by rw[bQ];exact hk) (yI fb (t.getD i []) (t.getD k []));have h2:=lY hi;have h3:=lY (t:=t.set i []) (i:=k) (by rw[bQ];exact hk);rw[DN t i hi,if_neg hik] at h3;refine h1.trans ?_;refine(List.Perm.append_right _ (yH _ _ _)).trans ?_;rw[cj];refine .trans ?_ h2.symm;exact Gh _ h3.symm
theorem NV(t:List (List Id))(fb:Int)(i k:Nat):(nh t fb i k).length=t.length:=by unfold nh;rw[bQ,bQ]
theorem EC{t:List (List Id)}(hV:Valid t){i k:Nat}(fb:Int)(hi:i < 80)(hk:k < 80)(hik:i≠k)(h4:(t.getD i []).length+(t.getD k []).length≤4):Valid (nh t fb i k):=by
 have hp:=GO fb (by rw[hV.len];exact hi) (by rw[hV.len];exact hk) hik;refine⟨by rw[NV,hV.len],fun l hl=>?_,fun a ha=>hV.named a ((hp.mem_iff).1 ha),(hp.nodup_iff).2 hV.nd⟩;unfold nh at hl;rcases mX hl with hl | rfl
 ·rcases mX hl with hl | rfl
  ·exact hV.four l hl
  ·simp
 ·rw[NW];exact h4
def aw8(b a:Int)(j:Nat):Int:=if av b a=0∧ix b a < j then ix b a else -1
def pY(tm:List IV)(h:tm.length=77):=(ch tm 77 h).trans (by simp only[List.range,List.range.loop,bB,bc];exact rfl)
theorem M7{v:SV}{l:List Id}{R lo:Nat}{y3 y4 y7:IV}{H0:Heap}{Q:Out→Heap→Prop}{tm:List IV}(hlo:lo≤R)(hR:R < H0.n)(hv:Sl H0 v l)(hl:l.length≤1000000)(gR:H0.get R=some (.cells false 26 2 [.nilSlice,.nilSlice]))
  (htm:tm.length=77) (t2:tm.getD 2 IV.undef=v.iv) (t3:tm.getD 3 IV.undef=y3) (t4:tm.getD 4 IV.undef=y4) (t6:tm.getD 6 IV.undef=.ptr R 0) (t7:tm.getD 7 IV.undef=y7) (t28:tm.getD 28 IV.undef=v.iv) (t29:tm.getD 29 IV.undef=.int .i64 l.length) (t30:tm.getD 30 IV.undef=.int .i64 0)
  (hQ:l.all bI=true→∀H' tm',Keep H0.n H0 H'→tm'.length=77→tm'.getD 2 IV.undef=v.iv→tm'.getD 3 IV.undef=y3→tm'.getD 4 IV.undef=y4→tm'.getD 6 IV.undef=.ptr R 0→tm'.getD 7 IV.undef=y7→Q (.ex (.jmp (.exit 0)) ⟨tm',[]⟩) H')
  (hE:l.all bI=false→∀H' tm',Keep R H0 H'→H'.get R=some (.cells false 26 2 [.nilSlice,.nilSlice])→tm'.length=77→tm'.getD 6 IV.undef=.ptr R 0→tm'.getD 7 IV.undef=.int .i64 1→Q (.ex (.jmp .ret) ⟨tm',[]⟩) H'):W E0 lo (.code (.loop Dl) none ⟨tm,[]⟩) H0 Q:=by
 refine aO (fun k fr H'=>∃j,j+k=l.length∧(l.take j).all bI=true∧Keep H0.n H0 H'∧fr.marks=[]∧fr.tm.length=77∧fr.tm.getD 2 IV.undef=v.iv∧fr.tm.getD 3 IV.undef=y3∧fr.tm.getD 4 IV.undef=y4∧fr.tm.getD 6 IV.undef=.ptr R 0∧fr.tm.getD 7 IV.undef=y7∧fr.tm.getD 28 IV.undef=v.iv∧fr.tm.getD 29 IV.undef=.int .i64 l.length∧fr.tm.getD 30 IV.undef=.int .i64 j) ?_ l.length ⟨0,by omega,by simp,Keep.refl _ _,rfl,htm,t2,t3,t4,t6,t7,t28,t29,t30⟩;clear htm t2 t3 t4 t6 t7 t28 t29 t30;rintro k ⟨tm,mk⟩ Hc ⟨j,hjk,hall,hk,rfl,htm,t2,t3,t4,t6,t7,t28,t29,t30⟩ L hN hJ;rw[pY tm htm,t2,t3,t4,t6,t7,t28,t29,t30];have hn:=hk.1;by_cases hj:j < l.length
 ·have hv':=hv.keep hk;have r1:=hv'.read kT j hj;simp(disch:=omega) only[ak,↓aj,seval,sT,↓hv'.idx,r1,fh];generalize hH_H2:Heap.put _ _ _=H2;have hnH2:H2.n=Hc.n+1:=by rw[←hH_H2];rfl
  have g2:=congrArg (fun h0=>Heap.get h0 (Hc.n)) hH_H2.symm;simp(disch:=omega) only[ak,↓aj,seval] at g2
  have kH2:Keep Hc.n Hc H2:=⟨by omega,fun x hx _=>by
   have gx:=congrArg (fun h0=>Heap.get h0 x) hH_H2.symm;simp(disch:=omega) only[ak,↓aj,seval] at gx;exact gx⟩
  clear hH_H2;rw[←fh];refine yv l[j] (by omega) fun H3 k3=>?_;have hn3:=k3.1;have kk3:Keep H0.n H0 H3:=hk.trans ((kH2.trans (k3.lower (by omega))).lower hn);by_cases hb:bI l[j]=true
  ·rw[hb];simp(disch:=omega) only[ak,↓aj,seval,sT];refine hN (k - 1) _ _ (by omega) ⟨j+1,by omega,?_,kk3,rfl,rfl,rfl,rfl,rfl,rfl,rfl,rfl,rfl,rfl⟩;rw[fg hj,List.all_append,hall];simp[hb]
  ·have hbf:bI l[j]=false:=by simpa using hb
   rw[hbf];have gR':=(kk3.2 R hR hR).trans gR;simp(disch:=omega) only[ak,↓aj,seval,sT,gR',hJ];refine hE ?_ _ _ ((kk3.lower (by omega)).trans (.put _ _ (au _))) (by rw[ae,if_pos rfl]) rfl rfl rfl;rw[List.all_eq_false];exact⟨l[j],bm hj,by simp[hbf]⟩
 ·rw[eW (by omega)] at hall;simp(disch:=omega) only[ak,↓aj,seval,sT,hJ];exact hQ hall _ _ hk rfl rfl rfl rfl rfl rfl
theorem adl{w:SV}{l ks:List Id}{tb mb lo l1:Nat}{H:Heap}{Q:Out→Heap→Prop}{mk:List Nat}{tm:List IV}(hw:Sl H w l)(hl:l.length≤1000000)
  (hgt:H.get tb=some (.cells false 193 1 [.map mb])) (htb:tb < H.n) (hmb:mb < H.n) (hlm:lo≤mb) (hm:MapIds H mb ks) (htm:tm.length=77) (t11:tm.getD 11 IV.undef=.ptr tb 0) (t51:tm.getD 51 IV.undef=w.iv) (t52:tm.getD 52 IV.undef=.int .i64 l.length) (t53:tm.getD 53 IV.undef=.int .i64 0)
  (hQ:∀H' tm' ks',KeepB mb H H'→MapIds H' mb ks'→(∀a,a∈ks'↔a∈ks∨a∈l)→Q (.ex (.jmp (.exit 4)) ⟨tm',mk⟩) H'):W E0 lo (.code (.loop Dk) (some l1) ⟨tm,mk⟩) H Q:=by
 refine aO (fun k fr H'=>∃i ks',i+k=l.length∧KeepB mb H H'∧MapIds H' mb ks'∧(∀a,a∈ks'↔a∈ks∨a∈l.take i)∧fr.marks=mk∧fr.tm.length=77∧fr.tm.getD 11 IV.undef=.ptr tb 0∧fr.tm.getD 51 IV.undef=w.iv∧fr.tm.getD 52 IV.undef=.int .i64 l.length∧fr.tm.getD 53 IV.undef=.int .i64 i) ?_ l.length ⟨0,ks,by omega,KeepB.refl _ _,hm,by simp,rfl,htm,t11,t51,t52,t53⟩;clear htm t11 t51 t52 t53;rintro k ⟨tm,mk⟩ H' ⟨i,ks',hi,hk,hm',hiff,rfl,htm,t11,t51,t52,t53⟩ L hN hJ;have hn:=hk.1;have hw':=nX hw hk hm;have htm':tb≠mb:=fun e=>by subst e;have h2:H.get tb=_:=hm;rw[h2] at hgt;cases hgt
 have hgt':=(hk.2 tb htb htm').trans hgt;have rt:=af hgt';rw[pY tm htm,t11,t51,t52,t53];by_cases hil:i < l.length
 ·have r1:=hw'.read kT i hil;have kk:KeepB mb H ((H'.new (.cells false 138 2 [.int .u8 0,.int .i64 0])).put H'.n (.cells false 138 2 (Cell.cs l[i]))):=hk.trans (KeepB.of Keep.newPut)
  have hm2:MapIds ((H'.new (.cells false 138 2 [.int .u8 0,.int .i64 0])).put H'.n (.cells false 138 2 (Cell.cs l[i]))) mb ks':=by
   show Heap.get _ _=_
   rw[ae,if_neg (by omega),al,if_neg (by omega)];exact hm'
  obtain⟨ob,hup,hob⟩:=hm2.upd l[i] lo hlm;simp only[fh] at hup;simp(disch:=omega) only[ak,↓aj,seval,sT,↓hw.idx,r1,fh,rt,↓hup];refine hN (k - 1) _ _ (by omega) ⟨i+1,if l[i]∈ks' then ks' else ks'++[l[i]],by omega,kk.trans KeepB.put,?_,fun a=>?_,rfl,rfl,rfl,rfl,rfl,rfl⟩
  ·show Heap.get _ _=_
   rw[ae,if_pos rfl,hob]
  ·rw[fg hil,mV,Am];by_cases hin:l[i]∈ks'
   ·rw[if_pos hin,hiff];refine⟨fun h=>h.elim .inl fun h=>.inr (.inl h),fun h=>?_⟩;rcases h with h | h | rfl
    ·exact .inl h
    ·exact .inr h
    ·exact(hiff _).1 hin
   ·rw[if_neg hin,mV,Am,hiff];exact or_assoc
 ·rw[eW (by omega)] at hiff;simp(disch:=omega) only[ak,↓aj,seval,sT,hJ];exact hQ _ _ ks' hk hm' hiff
theorem M6{v:SV}{l ks:List Id}{R tb mb lo:Nat}{y3 y4:IV}{mk:List Nat}{H:Heap}{Q:Out→Heap→Prop}{tm:List IV}(hv:Sl H v l)(hl:l.length≤1000000)(hR:R < H.n)(hlo:lo≤R)(gR:H.get R=some (.cells false 26 2 [.nilSlice,.nilSlice]))
  (hgt:H.get tb=some (.cells false 193 1 [.map mb])) (htb:tb < H.n) (hmb:mb < H.n) (hlm:lo≤mb) (hRm:R < mb) (hm:MapIds H mb ks) (htm:tm.length=77) (t2:tm.getD 2 IV.undef=v.iv) (t3:tm.getD 3 IV.undef=y3) (t4:tm.getD 4 IV.undef=y4) (t6:tm.getD 6 IV.undef=.ptr R 0) (t11:tm.getD 11 IV.undef=.ptr tb 0) (t60:tm.getD 60 IV.undef=v.iv) (t61:tm.getD 61 IV.undef=.int .i64 l.length) (t62:tm.getD 62 IV.undef=.int .i64 0)
  (hQ:(∀a∈l,a∉ks)→l.Nodup→∀H' tm',KeepB mb H H'→tm'.length=77→tm'.getD 2 IV.undef=v.iv→tm'.getD 3 IV.undef=y3→tm'.getD 4 IV.undef=y4→tm'.getD 6 IV.undef=.ptr R 0→Q (.ex (.jmp (.exit 6)) ⟨tm',mk⟩) H')
  (hE:¬((∀a∈l,a∉ks)∧l.Nodup)→∀H' tm',H.n≤H'.n→(∀x,x < R→H'.get x=H.get x)→H'.get R=some (.cells false 26 2 [.nilSlice,.nilSlice])→tm'.length=77→tm'.getD 6 IV.undef=.ptr R 0→tm'.getD 7 IV.undef=.int .i64 8→(∀x,x < H.n→x≠mb→x≠R→H'.get x=H.get x)→Q (.ex (.jmp .ret) ⟨tm',mk⟩) H'):W E0 lo (.code (.loop Dj) none ⟨tm,mk⟩) H Q:=by
 refine aO (fun k fr H'=>∃i ks',i+k=l.length∧KeepB mb H H'∧MapIds H' mb ks'∧(∀a,a∈ks'↔a∈ks∨a∈l.take i)∧(∀a∈l.take i,a∉ks)∧(l.take i).Nodup∧fr.marks=mk∧fr.tm.length=77∧fr.tm.getD 2 IV.undef=v.iv∧fr.tm.getD 3 IV.undef=y3∧fr.tm.getD 4 IV.undef=y4∧fr.tm.getD 6 IV.undef=.ptr R 0∧fr.tm.getD 11 IV.undef=.ptr tb 0∧fr.tm.getD 60 IV.undef=v.iv∧fr.tm.getD 61 IV.undef=.int .i64 l.length∧fr.tm.getD 62 IV.undef=.int .i64 i) ?_ l.length ⟨0,ks,by omega,KeepB.refl _ _,hm,by simp,by simp,by simp,rfl,htm,t2,t3,t4,t6,t11,t60,t61,t62⟩;clear htm t2 t3 t4 t6 t11 t60 t61 t62;rintro k ⟨tm,mk⟩ H' ⟨i,ks',hi,hk,hm',hiff,hno,hnd,rfl,htm,t2,t3,t4,t6,t11,t60,t61,t62⟩ L hN hJ;have hn:=hk.1;have hw':=nX hv hk hm;have htm':tb≠mb:=fun e=>by subst e;have h2:H.get tb=_:=hm;rw[h2] at hgt;cases hgt
 have hgt':=(hk.2 tb htb htm').trans hgt;have gR':=(hk.2 R hR (by omega)).trans gR;have rt:=af hgt';rw[pY tm htm,t2,t3,t4,t6,t11,t60,t61,t62];by_cases hil:i < l.length
 ·have r1:=hw'.read kT i hil;have kk:KeepB mb H ((H'.new (.cells false 138 2 [.int .u8 0,.int .i64 0])).put H'.n (.cells false 138 2 (Cell.cs l[i]))):=hk.trans (KeepB.of Keep.newPut)
  have hm2:MapIds ((H'.new (.cells false 138 2 [.int .u8 0,.int .i64 0])).put H'.n (.cells false 138 2 (Cell.cs l[i]))) mb ks':=by
   show Heap.get _ _=_
   rw[ae,if_neg (by omega),al,if_neg (by omega)];exact hm'
  have hlk:=hm2.look l[i];by_cases hin:l[i]∈ks'
  ·rw[decide_eq_true hin] at hlk;simp only[fh] at hlk;simp(disch:=omega) only[ak,↓aj,seval,sT,↓hv.idx,r1,fh,rt,↓hlk,gR',hJ];refine hE ?_ _ _ (by simp only[ai,ac];omega) (fun x hx=>?_) (by rw[ae,if_pos rfl]) rfl rfl rfl (fun x h1 h2 h3=>?_)
   ·rintro⟨h1,h2⟩
    rcases(hiff _).1 hin with h | h
    ·exact h1 _ (bm hil) h
    ·have:=AA (ks:=[]) hil (by simpa using h)
     exact this (by simpa using h2)
   ·rw[ae,if_neg (by omega),ae,if_neg (by omega),al,if_neg (by omega)];exact hk.2 x (by omega) (by omega)
   ·rw[ae,if_neg (Ne.symm h3),ae,if_neg (by omega),al,if_neg (by omega)];exact hk.2 x h1 h2
  ·rw[decide_eq_false hin] at hlk;obtain⟨ob,hup,hob⟩:=hm2.upd l[i] lo hlm;rw[if_neg hin] at hob;simp only[fh] at hup hlk;simp(disch:=omega) only[ak,↓aj,seval,sT,↓hv.idx,r1,fh,rt,↓hlk,↓hup];have hnk:l[i]∉ks:=fun h=>hin ((hiff _).2 (.inl h));have hnt:l[i]∉l.take i:=fun h=>hin ((hiff _).2 (.inr h));refine hN (k - 1) _ _ (by omega) ⟨i+1,ks'++[l[i]],by omega,kk.trans KeepB.put,?_,fun a=>?_,fun a ha=>?_,?_,rfl,rfl,rfl,rfl,rfl,rfl,rfl,rfl,rfl,rfl⟩
   ·show Heap.get _ _=_
    rw[ae,if_pos rfl,hob]
   ·rw[fg hil,mV,mV,Am,hiff];exact or_assoc
   ·rw[fg hil,mV,Am] at ha;rcases ha with ha | rfl
    ·exact hno a ha
    ·exact hnk
   ·rw[fg hil];exact yt hnd hnt
 ·rw[eW (by omega)] at hno hnd;simp(disch:=omega) only[ak,↓aj,seval,sT,hJ];exact hQ hno hnd _ _ hk rfl rfl rfl rfl rfl
theorem asD{a b c d:Int}(h:a=c∧b=d):((a==c)&&(b==d))=true:=by simp[h.1,h.2]
theorem asE{a b c d:Int}(h:¬(a=c∧b=d)):((a==c)&&(b==d))=false:=by
 rw[Bool.and_eq_false_iff];by_cases h1:a=c
 ·right;simp;exact fun e=>h ⟨h1,e⟩
 ·left;simpa using h1
def jT(t:List (List Id))(nb na:Int)(l:List Id):Int:=
 if av nb na≠0 then 1 else if l.all bI=false then 1 else if l.length>4 then 9 else if (∀a∈l,a∉(t.set (ix nb na) []).flatten)∧l.Nodup then 0 else 8
def InS(t:List (List Id))(k m:Nat)(a:Id):Prop:=∃j,j < m∧j≠k∧a∈t.getD j []
theorem InS.succ(t:List (List Id))(k m:Nat)(a:Id):InS t k (m+1) a↔InS t k m a∨(m≠k∧a∈t.getD m []):=by
 constructor
 ·rintro⟨j,h1,h2,h3⟩
  by_cases hj:j=m
  ·subst hj;exact .inr ⟨h2,h3⟩
  ·exact .inl ⟨j,by omega,h2,h3⟩
 ·rintro(⟨j,h1,h2,h3⟩ | ⟨h2,h3⟩)
  ·exact⟨j,by omega,h2,h3⟩
  ·exact⟨m,by omega,h2,h3⟩
theorem InS.ext{t:List (List Id)}{m n:Nat}(k:Nat)(a:Id)(h:m≤n)(h0:∀j,m≤j→j < n→t.getD j []=[]):InS t k m a↔InS t k n a:=by
 constructor
 ·rintro⟨j,h1,h2,h3⟩;exact⟨j,by omega,h2,h3⟩
 ·rintro⟨j,h1,h2,h3⟩
  refine⟨j,?_,h2,h3⟩
  by_cases hj:j < m
  ·exact hj
  ·rw[h0 j (by omega) h1] at h3;cases h3
theorem InS.all{t:List (List Id)}(ht:t.length=80){k:Nat}(hk:k < 80)(a:Id):InS t k 80 a↔a∈(t.set k []).flatten:=by
 rw[List.mem_flatten]
 constructor
 ·rintro⟨j,h1,h2,h3⟩
  refine⟨t.getD j [],?_,h3⟩
  rw[bG (by omega)]
  have:(t.set k [])[j]'(by rw[bQ];omega)=t[j]'(by omega):=jC (Ne.symm h2) _
  rw[←this];exact bm _
 ·rintro⟨x,h1,h2⟩
  obtain⟨j,hj,rfl⟩:=List.mem_iff_getElem.1 h1;rw[bQ] at hj;by_cases hjk:k=j
  ·subst hjk;rw[pz] at h2;cases h2
  ·rw[jC hjk] at h2;exact⟨j,by omega,Ne.symm hjk,by rw[bG hj];exact h2⟩
theorem IQ(t:List (List Id)){i:Nat}(h:i < 40):(aQ t).getD i []=t.getD i []:=by
 unfold aQ;rw[cw,AL _ _ _ h]
theorem IR(t:List (List Id))(i:Nat):(aI t).getD i []=t.getD (40+i) []:=by
 unfold aI;rw[cw,AM]
theorem Pq{f b v:SV}{t:List (List Id)}{l:List Id}(nb na:Int){H:Heap}{lo:Nat}{Q:Out→Heap→Prop}(hV:Valid t)(hf:Sl2 H f (aQ t))(hb:Sl2 H b (aI t))(hv:Sl H v l)(hl:l.length≤1000000)(hlo:lo≤H.n)
  (he:∀H',Keep H.n H H'→jT t nb na l≠0→Q (.val (.tuple [bv .nil .nil,.int .i64 (jT t nb na l)])) H')
  (h:∀H' f' b',Keep H.n H H'→jT t nb na l=0→aoX H.n H' f' b' (aQ (t.set (ix nb na) l)) (aI (t.set (ix nb na) l))→Q (.val (.tuple [bv f' b',.int .i64 0])) H'):W E0 lo (.call 130 [bv f b,.agg [.int .u8 nb,.int .i64 na],v.iv]) H Q:=by
 have hl6:∀l∈t,l.length≤1000000:=fun l hl=>by have:=hV.four l hl;omega
 have hlF:=jO t;have hlB:=hZ hV.len;have h6F:∀l∈aQ t,l.length≤1000000:=fun l hl=>hl6 l (fl hl);have h6B:∀l∈aI t,l.length≤1000000:=fun l hl=>hl6 l (dw hl);refine W.pure bu hlo ?_;rw[avz];simp(disch:=omega) only[ak,↓aj,seval,ua,bv];generalize hH_H1:Heap.new _ _=H1;have hnH1:H1.n=H.n+3:=by rw[←hH_H1];rfl
 have g0:=congrArg (fun h0=>Heap.get h0 (H.n)) hH_H1.symm;simp(disch:=omega) only[ak,↓aj,seval] at g0;have g1:=congrArg (fun h0=>Heap.get h0 (H.n+1)) hH_H1.symm;simp(disch:=omega) only[ak,↓aj,seval] at g1;have g2:=congrArg (fun h0=>Heap.get h0 (H.n+2)) hH_H1.symm;simp(disch:=omega) only[ak,↓aj,seval] at g2
 have kH1:Keep H.n H H1:=⟨by omega,fun x hx _=>by
  have gx:=congrArg (fun h0=>Heap.get h0 x) hH_H1.symm;simp(disch:=omega) only[ak,↓aj,seval] at gx;exact gx⟩
 clear hH_H1;rw[show IV.agg [f.iv,b.iv]=bv f b from rfl];refine sF (hf.keep kH1) (hb.keep kH1) (by omega) (by omega) h6F h6B (by omega) fun H2 k2=>?_;rw[hV.check];have hn2:=k2.1;replace g0:=(k2.2 _ (by omega) (by omega)).trans g0;replace g1:=(k2.2 _ (by omega) (by omega)).trans g1;replace g2:=(k2.2 _ (by omega) (by omega)).trans g2;replace kH1:Keep H.n H H2:=kH1.trans (k2.lower (by omega));clear k2;have r1:=af g1;simp(disch:=omega) only[ak,↓aj,seval,ua,r1];refine cn nb na (by omega) fun H3 k3=>?_;have hn3:=k3.1;replace g0:=(k3.2 _ (by omega) (by omega)).trans g0;replace g1:=(k3.2 _ (by omega) (by omega)).trans g1;replace g2:=(k3.2 _ (by omega) (by omega)).trans g2;replace kH1:Keep H.n H H3:=kH1.trans (k3.lower (by omega));clear k3 r1;by_cases c1:av nb na=0
 case neg=>
  have e1:=(ju nb na).resolve_left c1;have ej:jT t nb na l=1:=by unfold jT;rw[if_pos c1]
  rw[ej] at he;simp(disch:=omega) only[ak,↓aj,seval,ua,e1,g2];exact fun hk=>he _ hk (by omega)
 simp(disch:=omega) only[ak,↓aj,seval,Bz,By,Bx,Bw,Bv,Bu,Bt,Bs,Br,Bq,xo,xn,xm,xl,xk,xj,xi,xh,xg,xf,xe,xd,xc,xb,xa,wZ,wY,wX,wW,wV,Dx,Fy,Ow,c1,↓hv.ln]
 refine M7 (R:=H.n+2) (v:=v) (l:=l) (by omega) (by omega) (hv.keep kH1) hl g2 rfl rfl rfl rfl rfl rfl rfl rfl rfl ?_ ?_
 case _=>
  intro hall H4 tm4 k4 htm4 u2 u3 u4 u6 u7;have hn4:=k4.1;replace g0:=(k4.2 _ (by omega) (by omega)).trans g0;replace g1:=(k4.2 _ (by omega) (by omega)).trans g1;replace g2:=(k4.2 _ (by omega) (by omega)).trans g2;replace kH1:Keep H.n H H4:=kH1.trans (k4.lower (by omega));clear k4;rw[pY tm4 htm4,u2,u3,u4,u6,u7];by_cases c3:l.length>4
  ·have ej:jT t nb na l=9:=by unfold jT;rw[if_neg (by simp[c1]),if_neg (by simp[hall]),if_pos c3]
   rw[ej] at he;simp(disch:=omega) only[ak,↓aj,seval,ua,↓hv.ln,g2];exact fun hk=>he _ hk (by omega)
  have r0:=af g0;simp(disch:=omega) only[ak,↓aj,seval,ua,arh,↓hv.ln,r0,ap4];obtain⟨k,hk⟩:∃k,k=ix nb na:=⟨_,rfl⟩;have hk80:k < 80:=by rw[hk];exact(NM c1).2.2
  obtain⟨hb01,hna1,hna2⟩:=eK c1;have hkk:(k:Int)=40*nb+na - 1:=by rw[hk];unfold ix;omega
  generalize hH5:Heap.new _ _=H5;have hn5:H5.n=H4.n+5:=by rw[←hH5];rfl
  have f0:=congrArg (fun h0=>Heap.get h0 (H4.n)) hH5.symm;simp(disch:=omega) only[ak,↓aj,seval] at f0;have f1:=congrArg (fun h0=>Heap.get h0 (H4.n+1)) hH5.symm;simp(disch:=omega) only[ak,↓aj,seval] at f1;have f2:=congrArg (fun h0=>Heap.get h0 (H4.n+2)) hH5.symm;simp(disch:=omega) only[ak,↓aj,seval] at f2;have f3:=congrArg (fun h0=>Heap.get h0 (H4.n+3)) hH5.symm;simp(disch:=omega) only[ak,↓aj,seval] at f3;have f4:=congrArg (fun h0=>Heap.get h0 (H4.n+4)) hH5.symm;simp(disch:=omega) only[ak,↓aj,seval] at f4
  have k5:Keep H4.n H4 H5:=⟨by omega,fun x hx _=>by
   have gx:=congrArg (fun h0=>Heap.get h0 x) hH5.symm;simp(disch:=omega) only[ak,↓aj,seval] at gx;exact gx⟩
  clear hH5;replace g0:=(k5.2 _ (by omega) (by omega)).trans g0;replace g1:=(k5.2 _ (by omega) (by omega)).trans g1;replace g2:=(k5.2 _ (by omega) (by omega)).trans g2;replace kH1:Keep H.n H H5:=kH1.trans (k5.lower (by omega));clear k5
  have hstep:∀(bed:Int) (i:Nat) (w:SV) (s ks:List Id) (H':Heap),s.length≤1000000→H5.n≤H'.n→(∀x,x < H5.n→x≠H4.n→H'.get x=H5.get x)→MapIds H' H4.n ks→Sl H' w s→∀K:Out→Heap→Prop,(∀H'' ks',(∀x,x < H5.n→x≠H4.n→H''.get x=H5.get x)→MapIds H'' H4.n ks'→(∀a,a∈ks'↔a∈ks∨(¬(bed=nb∧(i:Int)+1=na)∧a∈s))→H'.n≤H''.n→(∀x,H5.n≤x→x < H'.n→H''.get x=H'.get x)→K (.val (.bool true)) H'')→W E0 H.n (.apply (.yield (H4.n+4)) [.agg [.int .u8 bed,.int .i64 ((i:Int)+1)],w.iv]) H' K:=by
   intro bed i w s ks H' hs hn hkp hm hw K hK;have e1:=(hkp (H.n+1) (by omega) (by omega)).trans g1;have e4:=(hkp (H4.n+4) (by omega) (by omega)).trans f4;have et:=(hkp (H4.n+1) (by omega) (by omega)).trans f1;have r1:=af e1;by_cases hne:bed=nb∧(i:Int)+1=na
   ·have eb:=asD hne;simp(disch:=omega) only[ak,↓aj,seval,ua,e4,r1,eb];refine hK _ ks (fun x h1 h2=>?_) ?_ (fun a=>⟨.inl,fun h=>h.elim id fun h=>absurd hne h.1⟩) ?_ (fun x h1 h2=>?_)
    ·by_cases hx:x=H4.n+4
     ·subst hx;simp(disch:=omega) only[ak,↓aj,seval,f4]
     ·rw[ae,if_neg (Ne.symm hx),ae,if_neg (Ne.symm hx),ae,if_neg (by omega),al,if_neg (by omega)];exact hkp x h1 h2
    ·show Heap.get _ _=_
     rw[ae,if_neg (by omega),ae,if_neg (by omega),ae,if_neg (by omega),al,if_neg (by omega)];exact hm
    ·simp only[ai,ac];omega
    ·rw[ae,if_neg (by omega),ae,if_neg (by omega),ae,if_neg (by omega),al,if_neg (by omega)]
   ·have eb:=asE hne;simp(disch:=omega) only[ak,↓aj,seval,ua,e4,r1,eb,↓hw.ln];generalize hH6:Heap.put _ _ _=H6;have n6:H6.n=H'.n+1:=by rw[←hH6];rfl
    have q4:=congrArg (fun h0=>Heap.get h0 (H4.n+4)) hH6.symm;simp(disch:=omega) only[ak,↓aj,seval] at q4
    have k6:∀x,x < H'.n→x≠H4.n+4→H6.get x=H'.get x:=fun x hx h4=>by
     rw[←hH6,ae,if_neg (Ne.symm h4),ae,if_neg (by omega),al,if_neg (by omega)]
    clear hH6;have hw6:Sl H6 w s:=hw.same (by omega) fun hl=>k6 _ (hw.blk_lt hl) (hw.off hl e4 (by simp));have hm6:MapIds H6 H4.n ks:=(k6 _ (by omega) (by omega)).trans hm;refine adl (ks:=ks) (tb:=H4.n+1) hw6 hs ((k6 _ (by omega) (by omega)).trans et) (by omega) (by omega) (by omega) hm6 rfl rfl rfl rfl rfl ?_;intro H7 tm7 ks7 k7 hm7 hiff;have hn7:=k7.1;have q7:=(k7.2 (H4.n+4) (by omega) (by omega)).trans q4;simp(disch:=omega) only[ak,↓aj,seval,ua,q7];refine hK _ ks7 (fun x h1 h2=>?_) ?_ (fun a=>(hiff a).trans (or_congr_right ⟨fun h=>⟨hne,h⟩,fun h=>h.2⟩)) ?_ (fun x h1 h2=>?_)
    ·by_cases hx:x=H4.n+4
     ·subst hx;simp(disch:=omega) only[ak,↓aj,seval,f4]
     ·rw[ae,if_neg (Ne.symm hx),k7.2 x (by omega) h2,k6 x (by omega) hx];exact hkp x h1 h2
    ·show Heap.get _ _=_
     rw[ae,if_neg (by omega)];exact hm7
    ·simp only[ai];omega
    ·rw[ae,if_neg (by omega),k7.2 x (by omega) (by omega),k6 x h2 (by omega)]
  have r2:=af f2;have kPd:∀H',H5.n≤H'.n→(∀x,x < H5.n→x≠H4.n→H'.get x=H5.get x)→Keep H.n H H':=fun H' a1 a2=>⟨by have:=kH1.1;omega,fun x h1 _=>(a2 x (by omega) (by omega)).trans (kH1.2 x h1 h1)⟩;refine AC (f:=f) (b:=b) (fs:=aQ t) (bs:=aI t) (fun c i H'=>H5.n≤H'.n∧(∀x,x < H5.n→x≠H4.n→H'.get x=H5.get x)∧∃ks,MapIds H' H4.n ks∧∀a,a∈ks↔InS t k (40*c+i) a) (fun _=>False) (by omega) (by omega) (by omega) (by omega) (by rw[r2];rfl) ?_ ?_ ?_ ?_ ?_ ?_ ?_ ?_ ?_
  ·rintro c i H' H'' ⟨a1,a2,ks,a3,a4⟩ b1 b2;exact⟨by omega,fun x h1 h2=>(b2 x h1).trans (a2 x h1 h2),ks,(b2 _ (by omega)).trans a3,a4⟩
  ·exact fun _ _ h _ _=>h
  ·rintro c i H' ⟨a1,a2,a3⟩;exact⟨hf.keep (kPd H' a1 a2),hb.keep (kPd H' a1 a2)⟩
  ·rintro i w H' hi h4 hn ⟨a1,a2,ks,a3,a4⟩ hw K hK hK';refine hstep 0 i w (aQ t)[i] ks H' (h6F _ (bm _)) a1 a2 a3 hw K fun H'' ks' c1 c2 c3 c4 c5=>hK H'' ⟨by omega,c1,ks',c2,fun a=>?_⟩ c4 c5;rw[c3,a4,show 40*0+(i+1)=40*0+i+1 by omega,InS.succ,Nat.mul_zero,bL,←IQ t h4,bG hi];exact or_congr_right (and_congr_left fun _=>by omega)
  ·rintro i w H' hi h4 hn ⟨a1,a2,ks,a3,a4⟩ hw K hK hK';refine hstep 1 i w (aI t)[i] ks H' (h6B _ (bm _)) a1 a2 a3 hw K fun H'' ks' c1 c2 c3 c4 c5=>hK H'' ⟨by omega,c1,ks',c2,fun a=>?_⟩ c4 c5;rw[c3,a4,show 40*1+(i+1)=40*1+i+1 by omega,InS.succ,lj,←IR t i,bG hi];exact or_congr_right (and_congr_left fun _=>by omega)
  ·exact⟨au _,fun _ _ _=>rfl,[],f0,fun a=>⟨fun h=>(by cases h),fun⟨j,hj,_⟩=>by omega⟩⟩
  ·rintro H' ⟨a1,a2,ks,a3,a4⟩;refine⟨a1,a2,ks,a3,fun a=>(a4 a).trans ?_⟩;refine InS.ext k a (by omega) fun j h1 h2=>?_;rw[←IQ t (by omega)];exact iZ (by omega)
  ·rintro H' ⟨a1,a2,ks,a3,a4⟩ hn
   have hset:∀a,a∈ks↔a∈(t.set k []).flatten:=fun a=>(a4 a).trans ((InS.ext k a (by omega) fun j h1 h2=>by
    rw[show j=40+(j - 40) by omega,←IR];exact iZ (by omega)).trans (InS.all hV.len hk80 a))
   have e2:=(a2 (H.n+2) (by omega) (by omega)).trans g2;have e3:=(a2 (H4.n+3) (by omega) (by omega)).trans f3;have e4:=(a2 (H4.n+4) (by omega) (by omega)).trans f4;have et:=(a2 (H4.n+1) (by omega) (by omega)).trans f1;have e0:=(a2 H.n (by omega) (by omega)).trans g0;have e1:=(a2 (H.n+1) (by omega) (by omega)).trans g1;have kk:=kPd H' a1 a2;simp(disch:=omega) only[ak,↓aj,seval,Bz,By,Bx,Bw,Bv,Bu,Bt,Bs,Br,Bq,xo,xn,Dy,xm,xl,xk,xj,xi,xh,xg,xf,xe,xd,xc,xb,xa,wZ,wY,wX,wW,wV,Fy,Ow,e4,↓hv.ln];generalize hH8:Heap.put _ _ _=H8;have n8:H8.n=H'.n:=by rw[←hH8];rfl
   have k8:∀x,x≠H4.n+4→H8.get x=H'.get x:=fun x hx=>by rw[←hH8,ae,if_neg (Ne.symm hx)]
   clear hH8;replace e0:=(k8 _ (by omega)).trans e0;replace e1:=(k8 _ (by omega)).trans e1;replace e2:=(k8 _ (by omega)).trans e2;replace e3:=(k8 _ (by omega)).trans e3;replace et:=(k8 _ (by omega)).trans et;replace a3:MapIds H8 H4.n ks:=(k8 _ (by omega)).trans a3;have kk8:Keep H.n H H8:=⟨by have:=kk.1;omega,fun x h1 h2=>(k8 x (by omega)).trans (kk.2 x h1 h2)⟩;refine M6 (R:=H.n+2) (tb:=H4.n+1) (ks:=ks) (hv.keep kk8) hl (by omega) (by omega) e2 et (by omega) (by omega) (by omega) (by omega) a3 rfl rfl rfl rfl rfl rfl rfl rfl rfl ?_ ?_
   case _=>
    intro hno hnd H9 tm9 k9 htm9 x2 x3 x4 x6;have hn9:=k9.1;replace e0:=(k9.2 _ (by omega) (by omega)).trans e0;replace e1:=(k9.2 _ (by omega) (by omega)).trans e1;replace e2:=(k9.2 _ (by omega) (by omega)).trans e2;replace e3:=(k9.2 _ (by omega) (by omega)).trans e3;have kk9:Keep H.n H H9:=⟨by have:=kk8.1;omega,fun x h1 h2=>(k9.2 x (by omega) (by omega)).trans (kk8.2 x h1 h2)⟩
    have ej:jT t nb na l=0:=by
     unfold jT;rw[if_neg (by simp[c1]),if_neg (by simp[hall]),if_neg c3,if_pos ⟨fun a ha hin=>hno a ha ((hset a).2 (by rw[hk];exact hin)),hnd⟩]
    rw[pY tm9 htm9,x2,x3,x4,x6];have r0:=af e0;have r1:=af e1;simp(disch:=omega) only[ak,↓aj,seval,ua,r0,r1];have ena:na=((na.toNat:Nat):Int):=by omega
    rw[show IV.agg [f.iv,b.iv]=bv f b from rfl,ena];refine tE nb na.toNat (hf.keep kk9) (hb.keep kk9) (hv.keep kk9) (by omega) (by omega) (by omega) h6F h6B hl (by omega) fun H10 f10 b10 k10 s10=>?_;rw[←ena];obtain⟨p1,p2⟩:=yf hV.len c1 l;rw[p1,p2] at s10;have hn10:=k10.1;replace e2:=(k10.2 _ (by omega) (by omega)).trans e2;replace e3:=(k10.2 _ (by omega) (by omega)).trans e3;simp(disch:=omega) only[ak,↓aj,seval,ua,e2,e3,bv];refine fun hk'=>h _ f10 b10 hk' ej ⟨Sl2F.lower (n0:=H9.n) ?_ (by omega),Sl2F.lower (n0:=H9.n) ?_ (by omega),s10.2.2⟩
    ·exact(s10.1.put (by omega)).put (by omega)
    ·exact(s10.2.1.put (by omega)).put (by omega)
   case _=>
    intro hbad H9 tm9 hn9 k9 g9 htm9 x6 x7 k9';replace e3:=(k9' _ (by omega) (by omega) (by omega)).trans e3
    have ej:jT t nb na l=8:=by
     unfold jT;rw[if_neg (by simp[c1]),if_neg (by simp[hall]),if_neg c3,if_neg];rintro⟨h1,h2⟩;exact hbad ⟨fun a ha hin=>h1 a ha (by rw[←hk];exact(hset a).1 hin),h2⟩
    rw[ej] at he;rw[pY tm9 htm9,x6,x7];have r9:=af g9;simp(disch:=omega) only[ak,↓aj,seval,ua,r9,e3];exact fun hk=>he _ hk (by omega)
  ·exact fun _ h=>h.elim
 case _=>
  intro hall H4 tm4 k4 g4 htm4 u6 u7;have ej:jT t nb na l=1:=by unfold jT;rw[if_neg (by simp[c1]),if_pos hall]
  rw[ej] at he;rw[pY tm4 htm4,u6,u7];have r4:=af g4;simp(disch:=omega) only[ak,↓aj,seval,ua,r4];exact fun hk=>he _ hk (by omega)
end Go.Iso.Gen
end
