/-
  stacks of loops.
-/
import Derived.Test.YtpnbiapmndbhgaaGreatDoorGen
set_option linter.unusedSimpArgs false
set_option linter.unusedVariables false
set_option maxHeartbeats 4000000
set_option maxRecDepth 10000
set_option linter.defProp false
section
namespace Go.Iso.Gen
open Go.Iso Go.Proofs
structure Id where
 y:Int
 n:Int
 deriving DecidableEq,Inhabited
instance:Cell Id where
 z:=2
 cs a:=[.int .u8 a.y,.int .i64 a.n]
 len _:=rfl
 one _:=rfl
 pos:=by omega
theorem eC(a:Id):Cell.cs a=[.int .u8 a.y,.int .i64 a.n]:=rfl
theorem kJ:Cell.z Id=2:=rfl
theorem gu{Q:Out→Heap→Prop}{H:Heap}{lo:Nat}{f:FuncId}{args:List IV}(v:IV)(hlo:lo≤H.n)(h:∀H',Keep H.n H H'→Q (.val v) H')(k:∀R:Out→Heap→Prop,(∀H',R (.val v) H')→W E0 H.n (.call f args) H R):W E0 lo (.call f args) H Q:=
 W.pure aX hlo (k _ fun H' hk=>h H' hk)
def bx(a:Id):Bool:=decide (a.y≥1)&&(decide (a.y≤6)&&(decide (a.n≥0)&&decide (a.n < 2048)))
theorem vL(a:Id){H:Heap}{lo:Nat}{Q:Out→Heap→Prop}(hlo:lo≤H.n)(h:∀H',Keep H.n H H'→Q (.val (.bool (bx a))) H'):W E0 lo (.call 111 [.agg (Cell.cs a)]) H Q:=by
 refine gu _ hlo h fun R hR=>?_;rw[Yc];unfold bx at hR
 cases e0:decide (a.y≥1)<;>cases e1:decide (a.y≤6)<;>cases e2:decide (a.n≥0)<;>cases e3:decide (a.n < 2048)<;>simp only[e0,e1,e2,e3,Bool.and_true,Bool.and_false] at hR<;>simp(disch:=omega) only[ai,↓ah,seval,YW,e0,e1,e2,e3,eC]<;>exact hR _
def an(bed at_:Int):Int:=if (bed=0∨bed=1)∧1≤at_∧at_≤40 then 0 else 1
theorem bU(bed at_:Int){H:Heap}{lo:Nat}{Q:Out→Heap→Prop}(hlo:lo≤H.n)(h:∀H',Keep H.n H H'→Q (.val (.int .i64 (an bed at_))) H'):W E0 lo (.call 88 [.agg [.int .u8 bed,.int .i64 at_]]) H Q:=by
 refine gu _ hlo h fun R hR=>?_;rw[c88];unfold an at hR;by_cases h1:(bed=0∨bed=1)∧1≤at_∧at_≤40
 ·rw[if_pos h1] at hR;rcases h1 with⟨rfl | rfl,h1,h2⟩<;>simp(disch:=omega) only[ai,↓ah,seval,RT]<;>exact hR _
 ·rw[if_neg h1] at hR;by_cases h2:bed=0
  ·subst h2;by_cases h3:at_ < 1
   ·simp(disch:=omega) only[ai,↓ah,seval,RT];exact hR _
   ·simp(disch:=omega) only[ai,↓ah,seval,RT];exact hR _
  ·by_cases h2:bed=1
   ·subst h2;by_cases h3:at_ < 1
    ·simp(disch:=omega) only[ai,↓ah,seval,RT];exact hR _
    ·simp(disch:=omega) only[ai,↓ah,seval,RT];exact hR _
   ·simp(disch:=omega) only[ai,↓ah,seval,RT];exact hR _
theorem iK{v:SV}{l:List Id}{H:Heap}{lo:Nat}{Q:Out→Heap→Prop}(hv:Sl H v l)(hl:l.length≤1000000)(hlo:lo≤H.n)
  (h:∀H' b,Keep H.n H H'→H.n≤b→Own H' b 138 l.length l→Q (.val (SV.sl b 0 l.length l.length true).iv) H'):W E0 lo (.call 162 [v.iv]) H Q:=by
 refine W.pure aX hlo ?_;rw[XB];obtain⟨H2,e1,e2,e3,e4⟩:=gI hv (z:=2) rfl 138 H.n [IV.int .u8 0,.int .i64 0] rfl (Nat.le_refl _);simp(disch:=omega) only[ai,↓ah,seval,YK,↓hv.ln,↓e1,Int.reducePow];exact fun hk=>h _ _ hk (Nat.le_refl _) e4
theorem Ck{v:SV}{l:List SV}{H:Heap}{lo:Nat}{Q:Out→Heap→Prop}(hv:Sl H v l)(hl:l.length≤1000000)(hlo:lo≤H.n)
  (h:∀H' b,Keep H.n H H'→H.n≤b→Own H' b 31 l.length l→Q (.val (SV.sl b 0 l.length l.length true).iv) H'):W E0 lo (.call 213 [v.iv]) H Q:=by
 refine W.pure aX hlo ?_;rw[Xi];obtain⟨H2,e1,e2,e3,e4⟩:=gI hv (z:=1) rfl 31 H.n [IV.nilSlice] rfl (Nat.le_refl _);simp(disch:=omega) only[ai,↓ah,seval,Yz,↓hv.ln,↓e1,Int.reducePow];exact fun hk=>h _ _ hk (Nat.le_refl _) e4
def Q4(tm:List IV)(h:tm.length=33):=(bL tm 33 h).trans (by simp only[List.range,List.range.loop,List.map_cons,List.map_nil];exact rfl)
def Q6(tm:List IV)(h:tm.length=20):=(bL tm 20 h).trans (by simp only[List.range,List.range.loop,List.map_cons,List.map_nil];exact rfl)
theorem IS{v:SV}{ls:List (List Id)}{H:Heap}{lo:Nat}{Q:Out→Heap→Prop}(hv:Sl2 H v ls)(hl:ls.length≤1000000)
  (h:Q (.val (.int .i64 (aQ ls))) H):W E0 lo (.call 214 [v.iv]) H Q:=by
 rw[Xh];simp(disch:=omega) only[ai,↓ah,seval,Tq,↓hv.ln];refine aM (fun k fr H'=>k≤ls.length∧(∀i (h:i < ls.length),k≤i→ls[i]=[])∧H'=H∧fr.marks=[]∧fr.tm.length=20∧fr.tm.getD 0 IV.undef=v.iv∧fr.tm.getD 3 IV.undef=.int .i64 k) ?_ ls.length ⟨by omega,fun i h1 h2=>by omega,rfl,rfl,rfl,rfl,rfl⟩;rintro k ⟨tm,mk⟩ H' ⟨hk,hp,rfl,rfl,htm,h0,h3⟩ L hN hJ;rw[Q6 tm htm,h0,h3];by_cases hk0:k=0
 ·have:k=aQ ls:=sy hk hp (fun m _ h=>by omega)
  subst hk0;rw[←this] at h;simp(disch:=omega) only[ai,↓ah,seval,LB,hJ];exact h
 ·obtain⟨w,r1,r2,r3⟩:=hv.elem (k - 1) (by omega);have hkk:((k:Int) - 1).toNat=k - 1:=by omega
  by_cases he:ls[k - 1]'(by omega)=[]
  ·rw[he] at r2;simp(disch:=omega) only[ai,↓ah,seval,LB,↓hv.idx,↓hv.ln,hkk,r1,↓r2.ln];refine hN (k - 1) _ _ (by omega) ⟨by omega,fun i h1 h2=>?_,rfl,rfl,rfl,rfl,by simp;omega⟩;by_cases hik:i=k - 1
   ·subst hik;exact he
   ·exact hp i h1 (by omega)
  ·have:k=aQ ls:=sy hk hp (fun m hm h=>by
                                 have:m=k - 1:=by omega
                                 subst this;exact he)
   have hpos:0 < (ls[k - 1]'(by omega)).length:=List.length_pos_iff.2 he;rw[←this] at h;simp(disch:=omega) only[ai,↓ah,seval,LB,↓hv.idx,↓hv.ln,hkk,r1,↓r2.ln,hJ];exact h
def mC(fs bs:List (List Id))(bed at_:Int):List Id:=if an bed at_=0 then((if bed=1 then bs else fs)[(at_ - 1).toNat]?).getD [] else[]
def bv(f b:SV):IV:=.agg [f.iv,b.iv]
theorem td{f b:SV}{fs bs:List (List Id)}(bed at_:Int){H:Heap}{lo:Nat}{Q:Out→Heap→Prop}(hf:Sl2 H f fs)(hb:Sl2 H b bs)(hl:∀l∈fs,l.length≤1000000)(hl':∀l∈bs,l.length≤1000000)(hlo:lo≤H.n)
  (h:∀H' v,Keep H.n H H'→Fresh H.n H' 138 v (mC fs bs bed at_)→Q (.val v.iv) H'):W E0 lo (.call 128 [bv f b,.agg [.int .u8 bed,.int .i64 at_]]) H Q:=by
 refine W.pure aX hlo ?_;rw[XV];simp(disch:=omega) only[ai,↓ah,seval,CU,bv];refine bU bed at_ (by simp only[ac];omega) fun H1 k1=>?_;have hn1:=k1.1;simp only[ac] at hn1;have kr:=k1.read;have kk:Keep H.n H H1:=((Keep.new _ _).trans (Keep.new _ _)).trans (k1.lower (by simp only[ac];omega));simp only[ac] at kr;unfold an;by_cases hv:(bed=0∨bed=1)∧1≤at_∧at_≤40
 case neg=>
  rw[if_neg hv];simp(disch:=omega) only[ai,↓ah,seval,CU];exact fun hk=>h _ .nil hk (.inl ⟨rfl,by simp[mC,an,hv]⟩)
 rw[if_pos hv];have hat:mC fs bs bed at_=((if bed=1 then bs else fs)[(at_ - 1).toNat]?).getD []:=by simp[mC,an,hv]
 rw[hat] at h;obtain⟨hbed,h1,h2⟩:=hv;have hat1:(at_ - 1).toNat+1=at_.toNat:=by omega
 rcases hbed with rfl | rfl
 ·simp only[Int.reduceEq,if_false] at h;by_cases hin:at_>fs.length
  ·have:fs[(at_ - 1).toNat]? =none:=List.getElem?_eq_none (by omega)
   rw[this] at h;simp(disch:=omega) only[ai,↓ah,seval,CU,kr,↓hf.ln];exact fun hk=>h _ .nil hk (.inl ⟨rfl,rfl⟩)
  ·have hlt:(at_ - 1).toNat < fs.length:=by omega
   rw[List.getElem?_eq_getElem hlt,Option.getD_some] at h;obtain⟨w,r1,r2,r3⟩:=(hf.keep kk).elem _ hlt;simp(disch:=omega) only[ai,↓ah,seval,CU,kr,↓hf.ln,↓hf.idx,r1];refine iK r2 (hl _ (List.getElem_mem _)) (by omega) fun H2 c k2 hc ho=>?_;simp(disch:=omega) only[ai,↓ah,seval,CU];exact fun hk=>h _ _ hk (.inr ⟨c,rfl,by omega,ho⟩)
 ·simp only[if_true] at h;by_cases hin:at_>bs.length
  ·have:bs[(at_ - 1).toNat]? =none:=List.getElem?_eq_none (by omega)
   rw[this] at h;simp(disch:=omega) only[ai,↓ah,seval,CU,kr,↓hb.ln];exact fun hk=>h _ .nil hk (.inl ⟨rfl,rfl⟩)
  ·have hlt:(at_ - 1).toNat < bs.length:=by omega
   rw[List.getElem?_eq_getElem hlt,Option.getD_some] at h;obtain⟨w,r1,r2,r3⟩:=(hb.keep kk).elem _ hlt;simp(disch:=omega) only[ai,↓ah,seval,CU,kr,↓hb.ln,↓hb.idx,r1];refine iK r2 (hl' _ (List.getElem_mem _)) (by omega) fun H2 c k2 hc ho=>?_;simp(disch:=omega) only[ai,↓ah,seval,CU];exact fun hk=>h _ _ hk (.inr ⟨c,rfl,by omega,ho⟩)
def Q5(tm:List IV)(h:tm.length=29):=(bL tm 29 h).trans (by simp only[List.range,List.range.loop,List.map_cons,List.map_nil];exact rfl)
theorem qx{v:SV}{ls:List (List Id)}{yb l1 lo:Nat}{bed:Int}{rd:Option Nat}{mk:List Nat}{Q:Out→Heap→Prop}(P:Nat→Heap→Prop)(D:Heap→Prop)(hls:ls.length≤1000000)
  (hP:∀i H',P i H'→Sl2 H' v ls∧H'.read yb 0 1=some [.yield l1])
  (step:∀i w H',(hi:i < ls.length)→i < 40→P i H'→Sl H' w ls[i]→∀K:Out→Heap→Prop,(∀H'',P (i+1) H''→K (.val (.bool true)) H'')→(∀H'',D H''→K (.val (.bool false)) H'')→W E0 lo (.apply (.yield l1) [.agg [.int .u8 bed,.int .i64 ((i:Int)+1)],w.iv]) H' K)
  {H:Heap} {tm:List IV} (h0:P 0 H) (htm:tm.length=29) (t2:tm.getD 2 IV.undef=.ptr yb 0) (t3:tm.getD 3 IV.undef=.int .u8 bed) (t11:tm.getD 11 IV.undef=v.iv) (t12:tm.getD 12 IV.undef=.int .i64 ls.length) (t13:tm.getD 13 IV.undef=.int .i64 0)
  (hQ:∀H' tm',P (min ls.length 40) H'→Q (.ex (.jmp (.exit 2)) ⟨tm',mk⟩) H') (hD:∀H' tm',D H'→Q (.ex (.jmp .ret) ⟨tm',mk⟩) H'):W E0 lo (.code (.loop (sK Tryz.f185 299)) rd ⟨tm,mk⟩) H Q:=by
 refine aM (fun k fr H'=>∃i,i+k=ls.length∧i≤40∧P i H'∧fr.marks=mk∧fr.tm.length=29∧fr.tm.getD 2 IV.undef=.ptr yb 0∧fr.tm.getD 3 IV.undef=.int .u8 bed∧fr.tm.getD 11 IV.undef=v.iv∧fr.tm.getD 12 IV.undef=.int .i64 ls.length∧fr.tm.getD 13 IV.undef=.int .i64 i) ?_ ls.length ⟨0,by omega,by omega,h0,rfl,htm,t2,t3,t11,t12,t13⟩;rintro k ⟨tm,mk⟩ H' ⟨i,hi,h40,hp,rfl,htm,t2,t3,t11,t12,t13⟩ L hN hJ;rw[Q5 tm htm,t2,t3,t11,t12,t13];obtain⟨hv,hy⟩:=hP i H' hp;by_cases hil:i < ls.length
 ·obtain⟨w,r1,r2,r3⟩:=hv.elem i hil;by_cases h4:i < 40
  ·simp(disch:=omega) only[ai,↓ah,seval,CN,↓hv.idx,r1,hy]
   rw[←CB];refine step i w H' hil h4 hp r2 _ (fun H'' h''=>?_) (fun H'' h''=>?_)
   ·simp(disch:=omega) only[ai,↓ah,seval,CN]
    exact hN (k - 1) _ _ (by omega) ⟨i+1,by omega,by omega,h'',rfl,rfl,rfl,rfl,rfl,rfl,rfl⟩
   ·simp(disch:=omega) only[ai,↓ah,seval,CN,hJ]
    exact hD _ _ h''
  ·simp(disch:=omega) only[ai,↓ah,seval,CN,↓hv.idx,r1,hJ]
   refine hQ _ _ ?_;rw[show min ls.length 40=i from by omega];exact hp
 ·simp(disch:=omega) only[ai,↓ah,seval,CN,hJ]
  refine hQ _ _ ?_;rw[show min ls.length 40=i from by omega];exact hp
def dT(ls:List (List Id)):Nat:=(ls.map List.length).sum
theorem oR(ls:List (List Id))(i:Nat)(h:i < ls.length):dT (ls.take (i+1))=dT (ls.take i)+ls[i].length:=by
 unfold dT;rw[List.take_succ_eq_append_getElem h,List.map_append,List.sum_append];simp
theorem Fc(ls:List (List Id))(m:Nat)(hm:∀l∈ls,l.length≤m)(i:Nat):dT (ls.take i)≤i*m:=by
 induction i with
 | zero=>simp[dT]
 | succ i ih=>
   by_cases h:i < ls.length
   ·rw[oR ls i h,Nat.succ_mul]
    have:=hm ls[i] (List.getElem_mem h)
    omega
   ·rw[List.take_of_length_le (by omega)];rw[List.take_of_length_le (by omega)] at ih;rw[Nat.succ_mul];omega
theorem xJ{f b:SV}{fs bs:List (List Id)}{H:Heap}{lo l1 nb:Nat}{R:Out→Heap→Prop}(P:Nat→Nat→Heap→Prop)(D:Heap→Prop)(hlo:lo≤H.n)(hlf:fs.length≤1000000)(hlb:bs.length≤1000000)
  (hnb:nb < H.n) (hg:H.read nb 0 2=some [f.iv,b.iv])
  (hPs:∀c i H' H'',P c i H'→H'.n≤H''.n→(∀x,x < H.n→H''.get x=H'.get x)→P c i H'')
  (hDs:∀H' H'',D H'→H'.n≤H''.n→(∀x,x < H.n→H''.get x=H'.get x)→D H'')
  (hPd:∀c i H',P c i H'→Sl2 H' f fs∧Sl2 H' b bs)
  (step0:∀i w H',(hi:i < fs.length)→i < 40→H.n≤H'.n→P 0 i H'→Sl H' w fs[i]→∀K:Out→Heap→Prop,(∀H'',P 0 (i+1) H''→H'.n≤H''.n→(∀x,H.n≤x→x < H'.n→H''.get x=H'.get x)→K (.val (.bool true)) H'')→(∀H'',D H''→H'.n≤H''.n→(∀x,H.n≤x→x < H'.n→H''.get x=H'.get x)→K (.val (.bool false)) H'')→W E0 lo (.apply (.yield l1) [.agg [.int .u8 0,.int .i64 ((i:Int)+1)],w.iv]) H' K)
  (step1:∀i w H',(hi:i < bs.length)→i < 40→H.n≤H'.n→P 1 i H'→Sl H' w bs[i]→∀K:Out→Heap→Prop,(∀H'',P 1 (i+1) H''→H'.n≤H''.n→(∀x,H.n≤x→x < H'.n→H''.get x=H'.get x)→K (.val (.bool true)) H'')→(∀H'',D H''→H'.n≤H''.n→(∀x,H.n≤x→x < H'.n→H''.get x=H'.get x)→K (.val (.bool false)) H'')→W E0 lo (.apply (.yield l1) [.agg [.int .u8 1,.int .i64 ((i:Int)+1)],w.iv]) H' K)
  (h0:P 0 0 H) (h01:∀H',P 0 (min fs.length 40) H'→P 1 0 H')
  (hQ:∀H',P 1 (min bs.length 40) H'→H.n≤H'.n→R (.val (.tuple [])) H') (hD:∀H',D H'→H.n≤H'.n→R (.val (.tuple [])) H'):W E0 lo (.call 185 [.yield l1,.ptr nb 0]) H R:=by
 rw[Xx];obtain⟨hf,hb⟩:=hPd 0 0 H h0;simp(disch:=omega) only[ai,↓ah,seval,HC,kI,kG,KY,KX,↓hf.ln,↓hb.ln,hg];generalize hH1:Heap.put _ _ _=H1;have hn1:H1.n=H.n+4:=by rw[←hH1];rfl
 have g0:=congrArg (fun h0=>Heap.get h0 (H.n)) hH1.symm;simp(disch:=omega) only[ai,↓ah,seval] at g0;have g1:=congrArg (fun h0=>Heap.get h0 (H.n+1)) hH1.symm;simp(disch:=omega) only[ai,↓ah,seval] at g1;have g2:=congrArg (fun h0=>Heap.get h0 (H.n+2)) hH1.symm;simp(disch:=omega) only[ai,↓ah,seval] at g2;have g3:=congrArg (fun h0=>Heap.get h0 (H.n+3)) hH1.symm;simp(disch:=omega) only[ai,↓ah,seval] at g3
 have k1:∀x,x < H.n→H1.get x=H.get x:=fun x hx=>by
  have gx:=congrArg (fun h0=>Heap.get h0 x) hH1.symm;simp(disch:=omega) only[ai,↓ah,seval] at gx;exact gx
 clear hH1;refine qx (yb:=H.n) (l1:=l1) (fun i H'=>P 0 i H'∧H1.n≤H'.n∧∀x,H.n≤x→x < H1.n→H'.get x=H1.get x) (fun H'=>D H'∧H1.n≤H'.n∧∀x,H.n≤x→x < H1.n→H'.get x=H1.get x) hlf (fun i H' hp=>⟨(hPd 0 i H' hp.1).1,by rw[ae ((hp.2.2 H.n (by omega) (by omega)).trans g0)];rfl⟩) ?_ ⟨hPs 0 0 H H1 h0 (by omega) k1,Nat.le_refl _,fun _ _ _=>rfl⟩ rfl rfl rfl rfl rfl rfl ?_ ?_
 ·intro i w H' hi h4 hp hw K hK hK';refine step0 i w H' hi h4 (by omega) hp.1 hw K (fun H'' a1 a2 a3=>hK H'' ⟨a1,by omega,fun x b1 b2=>(a3 x b1 (by omega)).trans (hp.2.2 x b1 b2)⟩) (fun H'' a1 a2 a3=>hK' H'' ⟨a1,by omega,fun x b1 b2=>(a3 x b1 (by omega)).trans (hp.2.2 x b1 b2)⟩)
 ·rintro H2 tm' ⟨hp2,hn2,hk2⟩;have f0:=(hk2 _ (by omega) (by omega)).trans g0;have f1:=(hk2 _ (by omega) (by omega)).trans g1;have f2:=(hk2 _ (by omega) (by omega)).trans g2;have f3:=(hk2 _ (by omega) (by omega)).trans g3;have r1:=ae f1;simp(disch:=omega) only[ai,↓ah,seval,HC,kI,kG,f3,r1,↓hf.ln,↓hb.ln];generalize hH3:Heap.put _ _ _=H3;have hn3:H3.n=H2.n:=by rw[←hH3];rfl
  have k3:∀x,x≠H.n+3→H3.get x=H2.get x:=fun x hx=>by
   rw[←hH3,aa,if_neg (Ne.symm hx),aa,if_neg (Ne.symm hx)]
  have e3:=congrArg (fun h0=>Heap.get h0 (H.n+3)) hH3.symm;simp(disch:=omega) only[ai,↓ah,seval] at e3;have e0:=(k3 H.n (by omega)).trans f0;have e1:=(k3 (H.n+1) (by omega)).trans f1;have e2:=(k3 (H.n+2) (by omega)).trans f2;clear hH3 f0 f1 f2 f3 r1;refine qx (yb:=H.n) (l1:=l1) (fun i H'=>P 1 i H'∧H3.n≤H'.n∧∀x,H.n≤x→x < H3.n→H'.get x=H3.get x) (fun H'=>D H'∧H3.n≤H'.n∧∀x,H.n≤x→x < H3.n→H'.get x=H3.get x) hlb (fun i H' hp=>⟨(hPd 1 i H' hp.1).2,by rw[ae ((hp.2.2 H.n (by omega) (by omega)).trans e0)];rfl⟩) ?_ ⟨hPs 1 0 H2 H3 (h01 H2 hp2) (by omega) (fun x hx=>k3 x (by omega)),Nat.le_refl _,fun _ _ _=>rfl⟩ rfl rfl rfl rfl rfl rfl ?_ ?_
  ·intro i w H' hi h4 hp hw K hK hK';refine step1 i w H' hi h4 (by omega) hp.1 hw K (fun H'' a1 a2 a3=>hK H'' ⟨a1,by omega,fun x b1 b2=>(a3 x b1 (by omega)).trans (hp.2.2 x b1 b2)⟩) (fun H'' a1 a2 a3=>hK' H'' ⟨a1,by omega,fun x b1 b2=>(a3 x b1 (by omega)).trans (hp.2.2 x b1 b2)⟩)
  ·rintro H4 tm4 ⟨hp4,hn4,hk4⟩;have f2:=(hk4 _ (by omega) (by omega)).trans e2;have f3:=(hk4 _ (by omega) (by omega)).trans e3;simp(disch:=omega) only[ai,↓ah,seval,HC,kI,kG,f2,f3];refine hQ _ (hPs 1 _ H4 _ hp4 (Nat.le_refl _) fun x hx=>?_) (by simp only[af];omega);simp(disch:=omega) only[ai,↓ah,seval]
  ·rintro H4 tm4 ⟨hp4,hn4,hk4⟩;have f2:=(hk4 _ (by omega) (by omega)).trans e2;have f3:=(hk4 _ (by omega) (by omega)).trans e3;simp(disch:=omega) only[ai,↓ah,seval,HC,kI,kG,f2,f3];refine hD _ (hDs H4 _ hp4 (Nat.le_refl _) fun x hx=>?_) (by simp only[af];omega);simp(disch:=omega) only[ai,↓ah,seval]
 ·rintro H2 tm' ⟨hp2,hn2,hk2⟩;have f2:=(hk2 _ (by omega) (by omega)).trans g2;have f3:=(hk2 _ (by omega) (by omega)).trans g3;simp(disch:=omega) only[ai,↓ah,seval,HC,kI,kG,f2,f3];refine hD _ (hDs H2 _ hp2 (Nat.le_refl _) fun x hx=>?_) (by simp only[af];omega);simp(disch:=omega) only[ai,↓ah,seval]
theorem Cj{f b:SV}{fs bs:List (List Id)}{H:Heap}{lo:Nat}{Q:Out→Heap→Prop}(hf:Sl2 H f fs)(hb:Sl2 H b bs)(hlf:fs.length≤1000000)(hlb:bs.length≤1000000)(hl:∀l∈fs,l.length≤1000000)(hl':∀l∈bs,l.length≤1000000)(hlo:lo≤H.n)
  (h:∀H',Keep H.n H H'→Q (.val (.int .i64 (dT (fs.take 40)+dT (bs.take 40):Nat))) H'):W E0 lo (.call 112 [bv f b]) H Q:=by
 refine gu _ hlo h fun R hR=>?_;rw[Yb];simp(disch:=omega) only[ai,↓ah,seval,RO,Tz,bv,SR];generalize hH1:Heap.new _ _=H1;have hn1:H1.n=H.n+5:=by rw[←hH1];rfl
 have g1:=congrArg (fun h0=>Heap.get h0 (H.n+1)) hH1.symm;simp(disch:=omega) only[ai,↓ah,seval] at g1;have g2:=congrArg (fun h0=>Heap.get h0 (H.n+2)) hH1.symm;simp(disch:=omega) only[ai,↓ah,seval] at g2;have g3:=congrArg (fun h0=>Heap.get h0 (H.n+3)) hH1.symm;simp(disch:=omega) only[ai,↓ah,seval] at g3;have g4:=congrArg (fun h0=>Heap.get h0 (H.n+4)) hH1.symm;simp(disch:=omega) only[ai,↓ah,seval] at g4
 have k1:Keep H.n H H1:=⟨by omega,fun x hx _=>by
  have gx:=congrArg (fun h0=>Heap.get h0 x) hH1.symm;simp(disch:=omega) only[ai,↓ah,seval] at gx;exact gx⟩
 clear hH1;have r2:=ae g2;have hle:=Fc fs 1000000 hl;have hle':=Fc bs 1000000 hl';have hPd:∀H',H1.n≤H'.n→(∀x,x < H1.n→x≠H.n+1→H'.get x=H1.get x)→Keep H.n H H':=fun H' a1 a2=>⟨by omega,fun x h1 _=>(a2 x (by omega) (by omega)).trans (k1.2 x h1 h1)⟩
 have hstep:∀(bed:Int) (i:Nat) (w:SV) (l:List Id) (s:Nat) (H':Heap),s≤80000000→l.length≤1000000→H1.n≤H'.n→(∀x,x < H1.n→x≠H.n+1→H'.get x=H1.get x)→H'.get (H.n+1)=some (.cells false 3 1 [.int .i64 s])→Sl H' w l→∀K:Out→Heap→Prop,(∀H'',(∀x,x < H1.n→x≠H.n+1→H''.get x=H1.get x)→H''.get (H.n+1)=some (.cells false 3 1 [.int .i64 ((s+l.length:Nat):Int)])→H'.n≤H''.n→(∀x,H1.n≤x→x < H'.n→H''.get x=H'.get x)→K (.val (.bool true)) H'')→W E0 H.n (.apply (.yield (H.n+4)) [.agg [.int .u8 bed,.int .i64 ((i:Int)+1)],w.iv]) H' K:=by
  intro bed i w l s H' hs hl hn hk hg hw K hK;have e4:=(hk (H.n+4) (by omega) (by omega)).trans g4;have er:=ae hg;simp(disch:=omega) only[ai,↓ah,seval,RO,e4,er,hg,↓hw.ln];refine hK _ (fun x h1 h2=>?_) ?_ (Nat.le_refl _) (fun x h1 h2=>?_)
  ·by_cases hx:x=H.n+4
   ·subst hx;simp(disch:=omega) only[ai,↓ah,seval,g4]
   ·rw[aa,if_neg (Ne.symm hx),aa,if_neg (Ne.symm h2),aa,if_neg (Ne.symm hx)];exact hk x h1 h2
  ·simp(disch:=omega) only[ai,↓ah,seval,Int.natCast_add]
  ·simp(disch:=omega) only[ai,↓ah,seval]
 refine xJ (f:=f) (b:=b) (fs:=fs) (bs:=bs) (fun c i H'=>H1.n≤H'.n∧(∀x,x < H1.n→x≠H.n+1→H'.get x=H1.get x)∧H'.get (H.n+1)=some (.cells false 3 1 [.int .i64 ((if c=0 then dT (fs.take i) else dT (fs.take 40)+dT (bs.take i):Nat):Int)])) (fun _=>False) (by omega) hlf hlb (by omega) (by rw[r2];rfl) ?_ ?_ ?_ ?_ ?_ ?_ ?_ ?_ ?_
 ·rintro c i H' H'' ⟨a1,a2,a3⟩ b1 b2;exact⟨by omega,fun x h1 h2=>(b2 x h1).trans (a2 x h1 h2),(b2 _ (by omega)).trans a3⟩
 ·exact fun _ _ h _ _=>h
 ·rintro c i H' ⟨a1,a2,a3⟩;exact⟨hf.keep (hPd H' a1 a2),hb.keep (hPd H' a1 a2)⟩
 ·rintro i w H' hi h4 hn ⟨a1,a2,a3⟩ hw K hK hK';rw[if_pos rfl] at a3
  have:=hle i
  refine hstep 0 i w fs[i] _ H' (by omega) (hl _ (List.getElem_mem _)) a1 a2 a3 hw K fun H'' c1 c2 c3 c4=>hK H'' ⟨by omega,c1,?_⟩ c3 c4;rw[if_pos rfl,oR fs i hi];exact c2
 ·rintro i w H' hi h4 hn ⟨a1,a2,a3⟩ hw K hK hK';rw[if_neg (by omega)] at a3
  have:=hle 40
  have:=hle' i
  refine hstep 1 i w bs[i] _ H' (by omega) (hl' _ (List.getElem_mem _)) a1 a2 a3 hw K fun H'' c1 c2 c3 c4=>hK H'' ⟨by omega,c1,?_⟩ c3 c4;rw[if_neg (by omega),oR bs i hi,←Nat.add_assoc];exact c2
 ·exact⟨Nat.le_refl _,fun _ _ _=>rfl,g1⟩
 ·rintro H' ⟨a1,a2,a3⟩;refine⟨a1,a2,?_⟩;rw[if_pos rfl] at a3;rw[if_neg (by omega),List.take_zero,a3];by_cases h4:fs.length≤40
  ·rw[show min fs.length 40=fs.length from by omega,List.take_length,List.take_of_length_le h4];rfl
  ·rw[show min fs.length 40=40 from by omega];rfl
 ·rintro H' ⟨a1,a2,a3⟩ hn;rw[if_neg (by omega)] at a3;have e3:=(a2 (H.n+3) (by omega) (by omega)).trans g3;have e4:=(a2 (H.n+4) (by omega) (by omega)).trans g4;have er:=ae a3
  have hb4:bs.take (min bs.length 40)=bs.take 40:=by
   by_cases h4:bs.length≤40
   ·rw[show min bs.length 40=bs.length from by omega,List.take_length,List.take_of_length_le h4]
   ·rw[show min bs.length 40=40 from by omega]
  simp(disch:=omega) only[ai,↓ah,seval,RO,e3,e4,er,hb4]
  exact hR _
 ·exact fun _ h=>h.elim
def W4(tm:List IV)(h:tm.length=19):=(bL tm 19 h).trans (by simp only[List.range,List.range.loop,List.map_cons,List.map_nil];exact rfl)
def gP:List Id→Nat→List (IV×IV×Nat)
 | [],_=>[]
 | k::ks,s=>(.agg (Cell.cs k),.bool true,s)::gP ks (s+1)
def Nu:Bool×List Pk:=(true,[.int,.int])
theorem BP(a b:Id):dU Nu (.agg (Cell.cs a)) (.agg (Cell.cs b))=some (decide (a=b)):=by
 simp only[dU,Nu,aT,Bool.and_self,if_true,IV.cells,eC,hU,G8]
 cases a with | mk y n=>cases b with | mk y' n'=>
 congr 1;by_cases h1:y=y'<;>by_cases h2:n=n'<;>simp[h1,h2]
theorem BO(a:Id):bS Nu (.agg (Cell.cs a))=true:=rfl
theorem Fi(a:Id):∀(ks:List Id) (s i:Nat),∃r,aF Nu (.agg (Cell.cs a)) (gP ks s) i=some r∧((a∈ks∧∃j,r=some (i+j,.bool true)∧bP (.agg (Cell.cs a)) (.bool true) (gP ks s) j=gP ks s)∨(a∉ks∧r=none)):=by
 intro ks
 induction ks with
 | nil=>intro s i;exact⟨none,rfl,.inr ⟨by simp,rfl⟩⟩
 | cons k ks ih=>
   intro s i;by_cases h:a=k
   ·subst h;refine⟨some (i,.bool true),?_,.inl ⟨by simp,0,rfl,rfl⟩⟩;simp only[gP,aF,BP,decide_true]
   ·obtain⟨r,h1,h2⟩:=ih (s+1) (i+1);refine⟨r,?_,?_⟩
    ·simp only[gP,aF,BP,decide_eq_false h];exact h1
    ·rcases h2 with⟨h2,j,h3,h4⟩ | ⟨h2,h3⟩
     ·refine .inl ⟨by simp[h2],j+1,by rw[h3];congr 2;omega,?_⟩;simp only[gP,bP,h4]
     ·exact .inr ⟨by simp[h,h2],h3⟩
theorem qz:∀(ks:List Id) (a:Id) (s:Nat),gP (ks++[a]) s=gP ks s++[(.agg (Cell.cs a),.bool true,s+ks.length)]
 | [],a,s=>rfl
 | k::ks,a,s=>by
   rw[List.cons_append,gP,qz ks a (s+1),gP,List.cons_append,List.length_cons,show s+1+ks.length=s+(ks.length+1) from by omega]
def MapIds(H:Heap)(mb:Nat)(ks:List Id):Prop:=H.get mb=some (.map (gP ks 0) ks.length)
theorem MapIds.look{H:Heap}{mb:Nat}{ks:List Id}(h:MapIds H mb ks)(a:Id)(t lo:Nat):ev1 (.lookup t (true,[.int,.int]) (.bool false) false) [.map mb,.agg [.int .u8 a.y,.int .i64 a.n]] lo H=some (.bool (decide (a∈ks)),H):=by
 have h:H.get mb=some (.map (gP ks 0) ks.length):=h;obtain⟨r,h1,h2⟩:=Fi a ks 0 0;have h1':aF (true,[.int,.int]) (.agg [.int .u8 a.y,.int .i64 a.n]) (gP ks 0) 0=some r:=h1;have hk:bS (true,[.int,.int]) (.agg [.int .u8 a.y,.int .i64 a.n])=true:=BO a;simp only[ev1,az,h,Option.map_some,hk,if_true,h1'];rcases h2 with⟨h2,j,rfl,_⟩ | ⟨h2,rfl⟩
 ·rw[decide_eq_true h2];rfl
 ·rw[decide_eq_false h2];rfl
theorem MapIds.upd{H:Heap}{mb:Nat}{ks:List Id}(h:MapIds H mb ks)(a:Id)(lo:Nat)(hlo:lo≤mb):∃ob,ev1 (.mapUpd (true,[.int,.int])) [.map mb,.agg [.int .u8 a.y,.int .i64 a.n],.bool true] lo H=some (IV.undef,H.put mb ob)∧ob=.map (gP (if a∈ks then ks else ks++[a]) 0) (if a∈ks then ks else ks++[a]).length:=by
 have h:H.get mb=some (.map (gP ks 0) ks.length):=h;obtain⟨r,h1,h2⟩:=Fi a ks 0 0;have h1':aF (true,[.int,.int]) (.agg [.int .u8 a.y,.int .i64 a.n]) (gP ks 0) 0=some r:=h1;have hk:bS (true,[.int,.int]) (.agg [.int .u8 a.y,.int .i64 a.n])=true:=BO a;simp only[ev1,az,h,hk,h1',hlo,and_self,if_true];rcases h2 with⟨h2,j,rfl,h3⟩ | ⟨h2,rfl⟩
 ·rw[if_pos h2];refine⟨_,rfl,?_⟩;rw[Nat.zero_add];exact congrArg (fun x=>IObj.map x ks.length) h3
 ·rw[if_neg h2];refine⟨_,rfl,?_⟩;rw[qz,Nat.zero_add,List.length_append];rfl
def nz(tm:List IV)(h:tm.length=84):=(bL tm 84 h).trans (by simp only[List.range,List.range.loop,List.map_cons,List.map_nil];exact rfl)
theorem sY{v:SV}{ls:List (List Id)}{rb lo:Nat}{x:IV}{H:Heap}{Q:Out→Heap→Prop}{rd:Option Nat}{mk:List Nat}{tm:List IV}(hv:Sl2 H v ls)(hl:ls.length≤1000000)(hll:∀l∈ls,l.length≤1000000)
  (hg:H.get rb=some (.cells false 36 1 [x])) (hlo:lo≤rb) (htm:tm.length=84) (t2:tm.getD 2 IV.undef=.ptr rb 0) (t27:tm.getD 27 IV.undef=v.iv) (t28:tm.getD 28 IV.undef=.int .i64 ls.length) (t29:tm.getD 29 IV.undef=.int .i64 0)
  (hQ:(∀l∈ls,l.length≤4)→∀tm',Q (.ex (.jmp (.exit 2)) ⟨tm',mk⟩) H) (hR:(∃l∈ls,l.length>4)→∀tm',Q (.ex (.jmp .ret) ⟨tm',mk⟩) (H.put rb (.cells false 36 1 [.int .i64 9]))):W E0 lo (.code (.loop (sK Tryz.f60 1237)) rd ⟨tm,mk⟩) H Q:=by
 refine aM (fun k fr H'=>∃i,i+k=ls.length∧(∀j (h:j < ls.length),j < i→ls[j].length≤4)∧H'=H∧fr.marks=mk∧fr.tm.length=84∧fr.tm.getD 2 IV.undef=.ptr rb 0∧fr.tm.getD 27 IV.undef=v.iv∧fr.tm.getD 28 IV.undef=.int .i64 ls.length∧fr.tm.getD 29 IV.undef=.int .i64 i) ?_ ls.length ⟨0,by omega,fun j _ h=>by omega,rfl,rfl,htm,t2,t27,t28,t29⟩;rintro k ⟨tm,mk⟩ H' ⟨i,hi,hp,rfl,rfl,htm,t2,t27,t28,t29⟩ L hN hJ;rw[nz tm htm,t2,t27,t28,t29];by_cases hil:i < ls.length
 ·obtain⟨w,r1,r2,r3⟩:=hv.elem i hil;have hli:=hll _ (List.getElem_mem hil);by_cases h4:ls[i].length>4
  ·simp(disch:=omega) only[ai,↓ah,seval,mH,↓hv.idx,r1,↓r2.ln,hg,hJ]
   exact hR ⟨_,List.getElem_mem hil,h4⟩ _
  ·simp(disch:=omega) only[ai,↓ah,seval,mH,↓hv.idx,r1,↓r2.ln]
   refine hN (k - 1) _ _ (by omega) ⟨i+1,by omega,fun j h1 h2=>?_,rfl,rfl,rfl,rfl,rfl,rfl,rfl⟩;by_cases hj:j=i
   ·subst hj;omega
   ·exact hp j h1 (by omega)
 ·simp(disch:=omega) only[ai,↓ah,seval,mH,hJ]
  refine hQ (fun l hl=>?_) _;obtain⟨j,hj,rfl⟩:=List.mem_iff_getElem.1 hl;exact hp j hj (by omega)
theorem As{w:SV}{l:List Id}{rb lo:Nat}{x:IV}{H:Heap}{Q:Out→Heap→Prop}{rd:Option Nat}{mk:List Nat}{tm:List IV}(hw:Sl H w l)(hl:l.length≤1000000)
  (hg:H.get rb=some (.cells false 36 1 [x])) (hrb:rb < H.n) (hlo:lo≤rb) (htm:tm.length=84) (t2:tm.getD 2 IV.undef=.ptr rb 0) (t47:tm.getD 47 IV.undef=w.iv) (t48:tm.getD 48 IV.undef=.int .i64 l.length) (t49:tm.getD 49 IV.undef=.int .i64 0)
  (hQ:(∀a∈l,bx a=true)→∀H' tm',Keep H.n H H'→tm'.length=84→tm'.getD 2 IV.undef=.ptr rb 0→tm'.getD 41 IV.undef=tm.getD 41 IV.undef→tm'.getD 42 IV.undef=tm.getD 42 IV.undef→tm'.getD 43 IV.undef=tm.getD 43 IV.undef→Q (.ex (.jmp (.exit 8)) ⟨tm',mk⟩) H') (hR:(∃a∈l,bx a=false)→∀H' tm',Keep H.n H H'→Q (.ex (.jmp .ret) ⟨tm',mk⟩) (H'.put rb (.cells false 36 1 [.int .i64 1]))):W E0 lo (.code (.loop (GU Tryz.f60 314539)) rd ⟨tm,mk⟩) H Q:=by
 refine aM (fun k fr H'=>∃i,i+k=l.length∧(∀j (h:j < l.length),j < i→bx l[j]=true)∧Keep H.n H H'∧fr.marks=mk∧fr.tm.length=84∧fr.tm.getD 2 IV.undef=.ptr rb 0∧fr.tm.getD 47 IV.undef=w.iv∧fr.tm.getD 48 IV.undef=.int .i64 l.length∧fr.tm.getD 49 IV.undef=.int .i64 i∧fr.tm.getD 41 IV.undef=tm.getD 41 IV.undef∧fr.tm.getD 42 IV.undef=tm.getD 42 IV.undef∧fr.tm.getD 43 IV.undef=tm.getD 43 IV.undef) ?_ l.length ⟨0,by omega,fun j _ h=>by omega,Keep.refl _ _,rfl,htm,t2,t47,t48,t49,rfl,rfl,rfl⟩;generalize tm.getD 41 IV.undef=y41 at *;generalize tm.getD 42 IV.undef=y42 at *;generalize tm.getD 43 IV.undef=y43 at *;rintro k ⟨tm,mk⟩ H' ⟨i,hi,hp,hk,rfl,htm,t2,t47,t48,t49,t41,t42,t43⟩ L hN hJ;have hn:=hk.1;have hw':=hw.keep hk;have hg':=(hk.2 rb hrb hrb).trans hg;rw[nz tm htm,t2,t47,t48,t49,t41,t42,t43];by_cases hil:i < l.length
 ·have r1:=hw'.read kJ i hil;simp(disch:=omega) only[ai,↓ah,seval,mH,↓hw.idx,r1,eC];generalize hH1:Heap.put _ _ _=H1;have k1:Keep H'.n H' H1:=by rw[←hH1];exact Keep.newPut
  have hn1:=k1.1;clear hH1;rw[←eC];refine vL _ (by omega) fun H2 k2=>?_;have hn2:=k2.1;have kk:Keep H.n H H2:=hk.trans ((k1.trans (k2.lower hn1)).lower hn);have hg2:=(kk.2 rb hrb hrb).trans hg
  cases hb:bx l[i]
  ·simp(disch:=omega) only[ai,↓ah,seval,mH,hg2,hJ]
   exact hR ⟨_,List.getElem_mem hil,hb⟩ _ _ kk
  ·simp(disch:=omega) only[ai,↓ah,seval,mH]
   refine hN (k - 1) _ _ (by omega) ⟨i+1,by omega,fun j h1 h2=>?_,kk,rfl,rfl,rfl,rfl,rfl,rfl,rfl,rfl,rfl⟩;by_cases hj:j=i
   ·subst hj;exact hb
   ·exact hp j h1 (by omega)
 ·simp(disch:=omega) only[ai,↓ah,seval,mH,hJ]
  refine hQ (fun a ha=>?_) _ _ hk rfl rfl rfl rfl rfl;obtain⟨j,hj,rfl⟩:=List.mem_iff_getElem.1 ha;exact hp j hj (by omega)
theorem sX{v:SV}{ls:List (List Id)}{rb lo:Nat}{x:IV}{H:Heap}{Q:Out→Heap→Prop}{rd:Option Nat}{mk:List Nat}{tm:List IV}(hv:Sl2 H v ls)(hl:ls.length≤1000000)(hll:∀l∈ls,l.length≤1000000)
  (hg:H.get rb=some (.cells false 36 1 [x])) (hrb:rb < H.n) (hlo:lo≤rb) (htm:tm.length=84) (t2:tm.getD 2 IV.undef=.ptr rb 0) (t41:tm.getD 41 IV.undef=v.iv) (t42:tm.getD 42 IV.undef=.int .i64 ls.length) (t43:tm.getD 43 IV.undef=.int .i64 0)
  (hQ:(∀a∈ls.flatten,bx a=true)→∀H' tm',Keep H.n H H'→Q (.ex (.jmp (.exit 6)) ⟨tm',mk⟩) H') (hR:(∃a∈ls.flatten,bx a=false)→∀H' tm',Keep H.n H H'→Q (.ex (.jmp .ret) ⟨tm',mk⟩) (H'.put rb (.cells false 36 1 [.int .i64 1]))):W E0 lo (.code (.loop (sK Tryz.f60 1195)) rd ⟨tm,mk⟩) H Q:=by
 refine aM (fun k fr H'=>∃i,i+k=ls.length∧(∀j (h:j < ls.length),j < i→∀a∈ls[j],bx a=true)∧Keep H.n H H'∧fr.marks=mk∧fr.tm.length=84∧fr.tm.getD 2 IV.undef=.ptr rb 0∧fr.tm.getD 41 IV.undef=v.iv∧fr.tm.getD 42 IV.undef=.int .i64 ls.length∧fr.tm.getD 43 IV.undef=.int .i64 i) ?_ ls.length ⟨0,by omega,fun j _ h=>by omega,Keep.refl _ _,rfl,htm,t2,t41,t42,t43⟩;rintro k ⟨tm,mk⟩ H' ⟨i,hi,hp,hk,rfl,htm,t2,t41,t42,t43⟩ L hN hJ;have hn:=hk.1;have hv':=hv.keep hk;have hg':=(hk.2 rb hrb hrb).trans hg;rw[nz tm htm,t2,t41,t42,t43];by_cases hil:i < ls.length
 ·obtain⟨w,r1,r2,r3⟩:=hv'.elem i hil;simp(disch:=omega) only[ai,↓ah,seval,mH,↓hv.idx,r1,↓r2.ln];refine As r2 (hll _ (List.getElem_mem hil)) hg' (by omega) hlo rfl rfl rfl rfl rfl (fun hall H2 tm2 k2 a1 a2 a3 a4 a5=>?_) (fun hex H2 tm2 k2=>?_)
  ·rw[nz tm2 a1,a2,a3,a4,a5];simp(disch:=omega) only[ai,↓ah,seval,mH];refine hN (k - 1) _ _ (by omega) ⟨i+1,by omega,fun j h1 h2=>?_,hk.trans (k2.lower hn),rfl,rfl,rfl,rfl,rfl,rfl⟩;by_cases hj:j=i
   ·subst hj;exact hall
   ·exact hp j h1 (by omega)
  ·simp(disch:=omega) only[ai,↓ah,seval,mH,hJ]
   obtain⟨a,ha,hb⟩:=hex;exact hR ⟨a,List.mem_flatten.2 ⟨_,List.getElem_mem hil,ha⟩,hb⟩ _ _ (hk.trans (k2.lower hn))
 ·simp(disch:=omega) only[ai,↓ah,seval,mH,hJ]
  refine hQ (fun a ha=>?_) _ _ hk;obtain⟨l,hl,ha⟩:=List.mem_flatten.1 ha;obtain⟨j,hj,rfl⟩:=List.mem_iff_getElem.1 hl;exact hp j hj (by omega) a ha
def KeepB(b:Nat)(H H':Heap):Prop:=H.n≤H'.n∧∀x,x < H.n→x≠b→H'.get x=H.get x
theorem KeepB.refl(b:Nat)(H:Heap):KeepB b H H:=⟨Nat.le_refl _,fun _ _ _=>rfl⟩
theorem KeepB.trans{b:Nat}{A B C:Heap}(h:KeepB b A B)(k:KeepB b B C):KeepB b A C:=
 ⟨Nat.le_trans h.1 k.1,fun x h1 h2=>(k.2 x (Nat.lt_of_lt_of_le h1 h.1) h2).trans (h.2 x h1 h2)⟩
theorem KeepB.of{b:Nat}{A B:Heap}(h:Keep A.n A B):KeepB b A B:=⟨h.1,fun x h1 _=>h.2 x h1 h1⟩
theorem KeepB.put{b:Nat}{H:Heap}{ob:IObj}:KeepB b H (H.put b ob):=⟨Nat.le_refl _,fun x _ h=>by rw[aa,if_neg (Ne.symm h)]⟩
theorem od{α:Type}[Cell α]{H H':Heap}{v:SV}{l:List α}{b:Nat}{es:List (IV×IV×Nat)}{c:Nat}(h:Sl H v l)(k:KeepB b H H')(hb:H.get b=some (.map es c)):Sl H' v l:=
 h.same k.1 fun hl=>k.2 _ (h.blk_lt hl) (h.off hl hb (by simp))
theorem yr{α:Type}[Cell α]{H H':Heap}{v:SV}{ls:List (List α)}{b:Nat}{es:List (IV×IV×Nat)}{c:Nat}(h:Sl2 H v ls)(k:KeepB b H H')(hb:H.get b=some (.map es c)):Sl2 H' v ls:=by
 obtain⟨vs,h1,h2,h3⟩:=h;exact⟨vs,od h1 k hb,h2,fun i a b=>od (h3 i a b) k hb⟩
theorem vJ{ks:List Id}{a:Id}(h:ks.Nodup)(ha:a∉ks):(ks++[a]).Nodup:=by
 rw[List.nodup_append];refine⟨h,by simp,?_⟩;intro x hx y hy;rw[List.mem_singleton] at hy;subst hy;exact fun e=>ha (e▸hx)
theorem xH{ks l:List Id}{i:Nat}(hi:i < l.length)(h:l[i]∈ks++l.take i):¬(ks++l).Nodup:=by
 intro hn
 have e:ks++l=(ks++l.take i)++(l[i]::l.drop (i+1)):=by
  rw[List.append_assoc,←List.drop_eq_getElem_cons hi,List.take_append_drop]
 rw[e,List.nodup_append] at hn;exact hn.2.2 _ h _ (List.mem_cons_self ..) rfl
theorem Ar{w:SV}{l ks:List Id}{rb tb mb lo:Nat}{x:IV}{H:Heap}{Q:Out→Heap→Prop}{rd:Option Nat}{mk:List Nat}{tm:List IV}(hw:Sl H w l)(hl:l.length≤1000000)
  (hg:H.get rb=some (.cells false 36 1 [x])) (hrb:rb < H.n) (hlo:lo≤rb) (hgt:H.get tb=some (.cells false 193 1 [.map mb])) (htb:tb < H.n) (hmb:mb < H.n) (hlm:lo≤mb) (hm:MapIds H mb ks) (hnd:ks.Nodup) (htm:tm.length=84) (t2:tm.getD 2 IV.undef=.ptr rb 0) (t13:tm.getD 13 IV.undef=.ptr tb 0) (t71:tm.getD 71 IV.undef=w.iv) (t72:tm.getD 72 IV.undef=.int .i64 l.length) (t73:tm.getD 73 IV.undef=.int .i64 0)
  (hQ:(ks++l).Nodup→∀H' tm',KeepB mb H H'→MapIds H' mb (ks++l)→tm'.length=84→tm'.getD 2 IV.undef=.ptr rb 0→tm'.getD 13 IV.undef=.ptr tb 0→tm'.getD 65 IV.undef=tm.getD 65 IV.undef→tm'.getD 66 IV.undef=tm.getD 66 IV.undef→tm'.getD 67 IV.undef=tm.getD 67 IV.undef→Q (.ex (.jmp (.exit 14)) ⟨tm',mk⟩) H') (hR:¬(ks++l).Nodup→∀H' tm',KeepB mb H H'→Q (.ex (.jmp .ret) ⟨tm',mk⟩) (H'.put rb (.cells false 36 1 [.int .i64 8]))):W E0 lo (.code (.loop (GU Tryz.f60 1258159)) rd ⟨tm,mk⟩) H Q:=by
 refine aM (fun k fr H'=>∃i,i+k=l.length∧(ks++l.take i).Nodup∧KeepB mb H H'∧MapIds H' mb (ks++l.take i)∧fr.marks=mk∧fr.tm.length=84∧fr.tm.getD 2 IV.undef=.ptr rb 0∧fr.tm.getD 13 IV.undef=.ptr tb 0∧fr.tm.getD 71 IV.undef=w.iv∧fr.tm.getD 72 IV.undef=.int .i64 l.length∧fr.tm.getD 73 IV.undef=.int .i64 i∧fr.tm.getD 65 IV.undef=tm.getD 65 IV.undef∧fr.tm.getD 66 IV.undef=tm.getD 66 IV.undef∧fr.tm.getD 67 IV.undef=tm.getD 67 IV.undef) ?_ l.length ⟨0,by omega,by simpa using hnd,KeepB.refl _ _,by simpa using hm,rfl,htm,t2,t13,t71,t72,t73,rfl,rfl,rfl⟩;generalize tm.getD 65 IV.undef=y65 at *;generalize tm.getD 66 IV.undef=y66 at *;generalize tm.getD 67 IV.undef=y67 at *;rintro k ⟨tm,mk⟩ H' ⟨i,hi,hnd',hk,hm',rfl,htm,t2,t13,t71,t72,t73,t65,t66,t67⟩ L hN hJ;have hn:=hk.1;have hw':=od hw hk hm;have hrm:rb≠mb:=fun e=>by subst e;have h2:H.get rb=_:=hm;rw[h2] at hg;cases hg
 have htm':tb≠mb:=fun e=>by subst e;have h2:H.get tb=_:=hm;rw[h2] at hgt;cases hgt
 have hg':=(hk.2 rb hrb hrm).trans hg;have hgt':=(hk.2 tb htb htm').trans hgt;have rt:=ae hgt';rw[nz tm htm,t2,t13,t71,t72,t73,t65,t66,t67];by_cases hil:i < l.length
 ·have r1:=hw'.read kJ i hil;have kk:KeepB mb H ((H'.new (.cells false 138 2 [.int .u8 0,.int .i64 0])).put H'.n (.cells false 138 2 (Cell.cs l[i]))):=hk.trans (KeepB.of Keep.newPut)
  have hm2:MapIds ((H'.new (.cells false 138 2 [.int .u8 0,.int .i64 0])).put H'.n (.cells false 138 2 (Cell.cs l[i]))) mb (ks++l.take i):=by
   show Heap.get _ _=_
   rw[aa,if_neg (by omega),aj,if_neg (by omega)];exact hm'
  have hlk:=hm2.look l[i];have eb:(H'.n=rb)=False:=by simp;omega
  by_cases hin:l[i]∈ks++l.take i
  ·rw[decide_eq_true hin] at hlk;simp only[eC] at hlk;simp(disch:=omega) only[ai,↓ah,seval,mH,↓hw.idx,r1,eC,rt,↓hlk,hg',eb,hJ];exact hR (xH hil hin) _ _ kk
  ·rw[decide_eq_false hin] at hlk;obtain⟨ob,hup,hob⟩:=hm2.upd l[i] lo hlm;rw[if_neg hin,List.append_assoc,←List.take_succ_eq_append_getElem hil] at hob;simp only[eC] at hlk hup;simp(disch:=omega) only[ai,↓ah,seval,mH,↓hw.idx,r1,eC,rt,↓hlk,↓hup];refine hN (k - 1) _ _ (by omega) ⟨i+1,by omega,?_,kk.trans KeepB.put,?_,rfl,rfl,rfl,rfl,rfl,rfl,rfl,rfl,rfl,rfl⟩
   ·rw[List.take_succ_eq_append_getElem hil,←List.append_assoc];exact vJ hnd' hin
   ·show Heap.get _ _=_
    rw[aa,if_pos rfl,hob]
 ·rw[List.take_of_length_le (by omega)] at hnd' hm';simp(disch:=omega) only[ai,↓ah,seval,mH,hJ];exact hQ hnd' _ _ hk hm' rfl rfl rfl rfl rfl rfl
theorem lI(ls:List (List Id))(i:Nat)(h:i < ls.length):(ls.take (i+1)).flatten=(ls.take i).flatten++ls[i]:=by
 rw[List.take_succ_eq_append_getElem h,List.flatten_append];simp
theorem vI{ks:List Id}{ls:List (List Id)}{i:Nat}(h:i < ls.length)(hn:¬((ks++(ls.take i).flatten)++ls[i]).Nodup):¬(ks++ls.flatten).Nodup:=by
 intro hd;apply hn;rw[List.append_assoc,←lI ls i h];rw[←List.take_append_drop (i+1) ls,List.flatten_append,←List.append_assoc] at hd;exact(List.nodup_append.1 hd).1
theorem sW{v:SV}{ls:List (List Id)}{ks:List Id}{rb tb mb lo:Nat}{x:IV}{H:Heap}{Q:Out→Heap→Prop}{rd:Option Nat}{mk:List Nat}{tm:List IV}(hv:Sl2 H v ls)(hl:ls.length≤1000000)(hll:∀l∈ls,l.length≤1000000)
  (hg:H.get rb=some (.cells false 36 1 [x])) (hrb:rb < H.n) (hlo:lo≤rb) (hgt:H.get tb=some (.cells false 193 1 [.map mb])) (htb:tb < H.n) (hmb:mb < H.n) (hlm:lo≤mb) (hm:MapIds H mb ks) (hnd:ks.Nodup) (htm:tm.length=84) (t2:tm.getD 2 IV.undef=.ptr rb 0) (t13:tm.getD 13 IV.undef=.ptr tb 0) (t65:tm.getD 65 IV.undef=v.iv) (t66:tm.getD 66 IV.undef=.int .i64 ls.length) (t67:tm.getD 67 IV.undef=.int .i64 0)
  (hQ:(ks++ls.flatten).Nodup→∀H' tm',KeepB mb H H'→MapIds H' mb (ks++ls.flatten)→Q (.ex (.jmp (.exit 12)) ⟨tm',mk⟩) H') (hR:¬(ks++ls.flatten).Nodup→∀H' tm',KeepB mb H H'→Q (.ex (.jmp .ret) ⟨tm',mk⟩) (H'.put rb (.cells false 36 1 [.int .i64 8]))):W E0 lo (.code (.loop (sK Tryz.f60 4783)) rd ⟨tm,mk⟩) H Q:=by
 refine aM (fun k fr H'=>∃i,i+k=ls.length∧(ks++(ls.take i).flatten).Nodup∧KeepB mb H H'∧MapIds H' mb (ks++(ls.take i).flatten)∧fr.marks=mk∧fr.tm.length=84∧fr.tm.getD 2 IV.undef=.ptr rb 0∧fr.tm.getD 13 IV.undef=.ptr tb 0∧fr.tm.getD 65 IV.undef=v.iv∧fr.tm.getD 66 IV.undef=.int .i64 ls.length∧fr.tm.getD 67 IV.undef=.int .i64 i) ?_ ls.length ⟨0,by omega,by simpa using hnd,KeepB.refl _ _,by simpa using hm,rfl,htm,t2,t13,t65,t66,t67⟩;rintro k ⟨tm,mk⟩ H' ⟨i,hi,hnd',hk,hm',rfl,htm,t2,t13,t65,t66,t67⟩ L hN hJ;have hn:=hk.1;have hv':=yr hv hk hm;have hrm:rb≠mb:=fun e=>by subst e;have h2:H.get rb=_:=hm;rw[h2] at hg;cases hg
 have htm':tb≠mb:=fun e=>by subst e;have h2:H.get tb=_:=hm;rw[h2] at hgt;cases hgt
 have hg':=(hk.2 rb hrb hrm).trans hg;have hgt':=(hk.2 tb htb htm').trans hgt;rw[nz tm htm,t2,t13,t65,t66,t67];by_cases hil:i < ls.length
 ·obtain⟨w,r1,r2,r3⟩:=hv'.elem i hil;simp(disch:=omega) only[ai,↓ah,seval,mH,↓hv.idx,r1,↓r2.ln];refine Ar r2 (hll _ (List.getElem_mem hil)) hg' (by omega) hlo hgt' (by omega) (by omega) hlm hm' hnd' rfl rfl rfl rfl rfl rfl (fun hall H2 tm2 k2 m2 a1 a2 a3 a4 a5 a6=>?_) (fun hex H2 tm2 k2=>?_)
  ·rw[nz tm2 a1,a2,a3,a4,a5,a6];simp(disch:=omega) only[ai,↓ah,seval,mH];refine hN (k - 1) _ _ (by omega) ⟨i+1,by omega,?_,hk.trans k2,?_,rfl,rfl,rfl,rfl,rfl,rfl,rfl⟩
   ·rw[lI ls i hil,←List.append_assoc];exact hall
   ·rw[lI ls i hil,←List.append_assoc];exact m2
  ·simp(disch:=omega) only[ai,↓ah,seval,mH,hJ]
   exact hR (vI hil hex) _ _ (hk.trans k2)
 ·rw[List.take_of_length_le (by omega)] at hnd' hm';simp(disch:=omega) only[ai,↓ah,seval,mH,hJ];exact hQ hnd' _ _ hk hm'
def mA(ls:List (List Id)):Bool:=decide (ls.length>40)||ls.any fun l=>decide (l.length>4)
def aU(fs bs:List (List Id)):Int:=
 if mA fs=true∨mA bs=true then 9
 else if (fs++bs).flatten.all bx=false then 1
 else if (fs++bs).flatten.Nodup then 0 else 8
theorem qZ{f b:SV}{fs bs:List (List Id)}{H:Heap}{lo:Nat}{Q:Out→Heap→Prop}(hf:Sl2 H f fs)(hb:Sl2 H b bs)(hlf:fs.length≤1000000)(hlb:bs.length≤1000000)(hl:∀l∈fs,l.length≤1000000)(hl':∀l∈bs,l.length≤1000000)(hlo:lo≤H.n)
  (h:∀H',Keep H.n H H'→Q (.val (.int .i64 (aU fs bs))) H'):W E0 lo (.call 60 [bv f b]) H Q:=by
 refine gu _ hlo h fun R hR=>?_;clear h;rw[c60];have full1:∀ls:List (List Id),ls.length>40→mA ls=true:=fun ls h=>by simp[mA,h]
 have full2:∀ls:List (List Id),(∃l∈ls,l.length>4)→mA ls=true:=fun ls ⟨l,h1,h2⟩=>by
  unfold mA;rw[Bool.or_eq_true];exact .inr (List.any_eq_true.2 ⟨l,h1,decide_eq_true h2⟩)
 have full3:∀ls:List (List Id),¬ls.length>40→(∀l∈ls,l.length≤4)→mA ls=false:=fun ls h1 h2=>by
  unfold mA;rw[decide_eq_false h1,Bool.false_or,List.any_eq_false];intro l hl;have:=h2 l hl;simp;omega
 by_cases h40:fs.length>40
 ·have:aU fs bs=9:=by unfold aU;rw[if_pos (.inl (full1 _ h40))]
  rw[this] at hR;simp(disch:=omega) only[ai,↓ah,seval,CQ,kI,kG,bv,KY,KX,↓hf.ln];exact hR _
 simp(disch:=omega) only[ai,↓ah,seval,CQ,kI,kG,bv,KY,KX,↓hf.ln]
 generalize hH1:Heap.put _ _ _=H1;have hn1:H1.n=H.n+5:=by rw[←hH1];rfl
 have g0:=congrArg (fun h0=>Heap.get h0 (H.n)) hH1.symm;simp(disch:=omega) only[ai,↓ah,seval] at g0;have g1:=congrArg (fun h0=>Heap.get h0 (H.n+1)) hH1.symm;simp(disch:=omega) only[ai,↓ah,seval] at g1;have g2:=congrArg (fun h0=>Heap.get h0 (H.n+2)) hH1.symm;simp(disch:=omega) only[ai,↓ah,seval] at g2;have g3:=congrArg (fun h0=>Heap.get h0 (H.n+3)) hH1.symm;simp(disch:=omega) only[ai,↓ah,seval] at g3;have g4:=congrArg (fun h0=>Heap.get h0 (H.n+4)) hH1.symm;simp(disch:=omega) only[ai,↓ah,seval] at g4
 have k1:Keep H.n H H1:=⟨by omega,fun x hx _=>by
  have gx:=congrArg (fun h0=>Heap.get h0 x) hH1.symm;simp(disch:=omega) only[ai,↓ah,seval] at gx;exact gx⟩
 clear hH1;refine sY (hf.keep k1) hlf hl g1 (by omega) rfl rfl rfl rfl rfl (fun hall tm'=>?_) (fun hex tm'=>?_)
 case refine_2=>
  have:aU fs bs=9:=by unfold aU;rw[if_pos (.inl (full2 _ hex))]
  rw[this] at hR;simp(disch:=omega) only[ai,↓ah,seval,CQ,kI,kG,g3,g4];exact hR _
 have hff:=full3 fs h40 hall;have r2:=ae g2;by_cases h40':bs.length>40
 ·have:aU fs bs=9:=by unfold aU;rw[if_pos (.inr (full1 _ h40'))]
  rw[this] at hR;simp(disch:=omega) only[ai,↓ah,seval,CQ,kI,kG,g1,g3,g4,r2,↓hb.ln];exact hR _
 simp(disch:=omega) only[ai,↓ah,seval,CQ,kI,kG,g1,g3,g4,r2,↓hb.ln]
 generalize hH2:Heap.put _ _ _=H2;have hn2:H2.n=H.n+5:=by rw[←hH2];exact hn1
 have f4:=congrArg (fun h0=>Heap.get h0 (H.n+4)) hH2.symm;simp(disch:=omega) only[ai,↓ah,seval] at f4;have k2:∀x,x≠H.n+4→H2.get x=H1.get x:=fun x hx=>by rw[←hH2,aa,if_neg (Ne.symm hx),aa,if_neg (Ne.symm hx)]
 clear hH2;have f0:=(k2 (H.n) (by omega)).trans g0;have f1:=(k2 (H.n+1) (by omega)).trans g1;have f3:=(k2 (H.n+3) (by omega)).trans g3;have kk2:Keep H.n H H2:=⟨by omega,fun x hx _=>(k2 x (by omega)).trans (k1.2 x hx hx)⟩;clear g0 g1 g2 g3 g4 r2 k2 k1 hn1;refine sY (hb.keep kk2) hlb hl' f1 (by omega) rfl rfl rfl rfl rfl (fun hall' tm2=>?_) (fun hex tm2=>?_)
 case refine_2=>
  have:aU fs bs=9:=by unfold aU;rw[if_pos (.inr (full2 _ hex))]
  rw[this] at hR;simp(disch:=omega) only[ai,↓ah,seval,CQ,kI,kG,f3,f4];exact hR _
 have hfb:=full3 bs h40' hall';have r0:=ae f0;simp(disch:=omega) only[ai,↓ah,seval,CQ,kI,kG,f3,f4,r0,KY,KX,↓hf.ln];generalize hH3:Heap.put _ _ _=H3;have hn3:H3.n=H2.n+3:=by rw[←hH3];rfl
 have p0:=congrArg (fun h0=>Heap.get h0 (H2.n)) hH3.symm;simp(disch:=omega) only[ai,↓ah,seval] at p0;have p1:=congrArg (fun h0=>Heap.get h0 (H2.n+1)) hH3.symm;simp(disch:=omega) only[ai,↓ah,seval] at p1;have p2:=congrArg (fun h0=>Heap.get h0 (H2.n+2)) hH3.symm;simp(disch:=omega) only[ai,↓ah,seval] at p2
 have k3:∀x,x < H2.n→x≠H.n+4→H3.get x=H2.get x:=fun x h1 h2=>by
  rw[←hH3,aa,if_neg (by omega),aj,if_neg (by simp only[ac,af];omega),aj,if_neg (by simp only[ac,af];omega),aj,if_neg (by simp only[ac,af];omega),aa,if_neg (Ne.symm h2),aa,if_neg (Ne.symm h2)]
 clear hH3;have q0:=(k3 (H.n) (by omega) (by omega)).trans f0;have q1:=(k3 (H.n+1) (by omega) (by omega)).trans f1;have q3:=(k3 (H.n+3) (by omega) (by omega)).trans f3;have kk3:Keep H.n H H3:=⟨by omega,fun x hx _=>(k3 x (by omega) (by omega)).trans (kk2.2 x hx hx)⟩;clear f0 f1 f3 f4 r0 k3 kk2
 have bad1:∀ls:List (List Id),(ls=fs∨ls=bs)→(∃a∈ls.flatten,bx a=false)→aU fs bs=1:=by
  intro ls hls ⟨a,h1,h2⟩
  have:(fs++bs).flatten.all bx=false:=by
   rw[List.all_eq_false];refine⟨a,?_,by rw[h2];simp⟩;rw[List.flatten_append,List.mem_append];rcases hls with rfl | rfl
   ·exact .inl h1
   ·exact .inr h1
  unfold aU;rw[if_neg (by rw[hff,hfb];simp),if_pos this]
 refine sX (hf.keep kk3) hlf hl q1 (by omega) (by omega) rfl rfl rfl rfl rfl (fun hnf H4 tm4 k4=>?_) (fun hex H4 tm4 k4=>?_)
 case refine_2=>
  have u1:=(k4.2 _ (by omega) (by omega)).trans p1;have u2:=(k4.2 _ (by omega) (by omega)).trans p2;have u3:=(k4.2 _ (by omega) (by omega)).trans q3;rw[bad1 fs (.inl rfl) hex] at hR;simp(disch:=omega) only[ai,↓ah,seval,CQ,kI,kG,u1,u2,u3];exact hR _
 have hn4:=k4.1;have s0:=(k4.2 _ (by omega) (by omega)).trans p0;have s1:=(k4.2 _ (by omega) (by omega)).trans p1;have s2:=(k4.2 _ (by omega) (by omega)).trans p2;have v0:=(k4.2 _ (by omega) (by omega)).trans q0;have v1:=(k4.2 _ (by omega) (by omega)).trans q1;have v3:=(k4.2 _ (by omega) (by omega)).trans q3;have kk4:Keep H.n H H4:=kk3.trans (k4.lower (by omega));have rs0:=ae s0;clear p0 p1 p2 q0 q1 q3;simp(disch:=omega) only[ai,↓ah,seval,CQ,kI,kG,s1,s2,rs0,↓hb.ln];generalize hH5:Heap.put _ _ _=H5;have hn5:H5.n=H4.n:=by rw[←hH5];rfl
 have p2:=congrArg (fun h0=>Heap.get h0 (H2.n+2)) hH5.symm;simp(disch:=omega) only[ai,↓ah,seval] at p2;have k5:∀x,x≠H2.n+2→H5.get x=H4.get x:=fun x hx=>by rw[←hH5,aa,if_neg (Ne.symm hx),aa,if_neg (Ne.symm hx)]
 clear hH5;have p1:=(k5 (H2.n+1) (by omega)).trans s1;have q0:=(k5 (H.n) (by omega)).trans v0;have q1:=(k5 (H.n+1) (by omega)).trans v1;have q3:=(k5 (H.n+3) (by omega)).trans v3;have kk5:Keep H.n H H5:=⟨by omega,fun x hx _=>(k5 x (by omega)).trans (kk4.2 x hx hx)⟩;clear s0 s1 s2 v0 v1 v3 rs0 k5 kk4;refine sX (hb.keep kk5) hlb hl' q1 (by omega) (by omega) rfl rfl rfl rfl rfl (fun hnb H6 tm6 k6=>?_) (fun hex H6 tm6 k6=>?_)
 case refine_2=>
  have u1:=(k6.2 _ (by omega) (by omega)).trans p1;have u2:=(k6.2 _ (by omega) (by omega)).trans p2;have u3:=(k6.2 _ (by omega) (by omega)).trans q3;rw[bad1 bs (.inr rfl) hex] at hR;simp(disch:=omega) only[ai,↓ah,seval,CQ,kI,kG,u1,u2,u3];exact hR _
 have hn6:=k6.1;have s1:=(k6.2 _ (by omega) (by omega)).trans p1;have s2:=(k6.2 _ (by omega) (by omega)).trans p2;have v0:=(k6.2 _ (by omega) (by omega)).trans q0;have v1:=(k6.2 _ (by omega) (by omega)).trans q1;have v3:=(k6.2 _ (by omega) (by omega)).trans q3;have kk6:Keep H.n H H6:=kk5.trans (k6.lower (by omega));have rv0:=ae v0;clear p1 p2 q0 q1 q3
 have hall6:(fs++bs).flatten.all bx=true:=by
  rw[List.all_eq_true];intro a ha;rw[List.flatten_append,List.mem_append] at ha;rcases ha with ha | ha
  ·exact hnf a ha
  ·exact hnb a ha
 simp(disch:=omega) only[ai,↓ah,seval,CQ,kI,kG,s1,s2,rv0]
 generalize hH7:Heap.put _ _ _=H7;have hn7:H7.n=H6.n:=by rw[←hH7];rfl
 have k7:∀x,x≠H2.n+2→H7.get x=H6.get x:=fun x hx=>by rw[←hH7,aa,if_neg (Ne.symm hx),aa,if_neg (Ne.symm hx)]
 clear hH7;have p1:=(k7 (H2.n+1) (by omega)).trans s1;have q0:=(k7 (H.n) (by omega)).trans v0;have q1:=(k7 (H.n+1) (by omega)).trans v1;have q3:=(k7 (H.n+3) (by omega)).trans v3;have kk7:Keep H.n H H7:=⟨by omega,fun x hx _=>(k7 x (by omega)).trans (kk6.2 x hx hx)⟩;clear s1 s2 v0 v1 v3 rv0 k7 kk6;have hbv:IV.agg [f.iv,b.iv]=bv f b:=rfl;rw[hbv];refine Cj (hf.keep kk7) (hb.keep kk7) hlf hlb hl hl' (by omega) fun H8 k8=>?_;have hn8:=k8.1;have s1:=(k8.2 _ (by omega) (by omega)).trans p1;have v0:=(k8.2 _ (by omega) (by omega)).trans q0;have v1:=(k8.2 _ (by omega) (by omega)).trans q1;have v3:=(k8.2 _ (by omega) (by omega)).trans q3;have kk8:Keep H.n H H8:=kk7.trans (k8.lower (by omega));have rv0:=ae v0;clear p1 q0 q1 q3;simp(disch:=omega) only[ai,↓ah,seval,CQ,kI,kG,bv,rv0,KY,KX,↓hf.ln];generalize hH9:Heap.put _ _ _=H9;have hn9:H9.n=H8.n+5:=by rw[←hH9];rfl
 have m0:=congrArg (fun h0=>Heap.get h0 (H8.n)) hH9.symm;simp(disch:=omega) only[ai,↓ah,seval] at m0;have m1:=congrArg (fun h0=>Heap.get h0 (H8.n+1)) hH9.symm;simp(disch:=omega) only[ai,↓ah,seval] at m1;have m2:=congrArg (fun h0=>Heap.get h0 (H8.n+2)) hH9.symm;simp(disch:=omega) only[ai,↓ah,seval] at m2;have m3:=congrArg (fun h0=>Heap.get h0 (H8.n+3)) hH9.symm;simp(disch:=omega) only[ai,↓ah,seval] at m3;have m4:=congrArg (fun h0=>Heap.get h0 (H8.n+4)) hH9.symm;simp(disch:=omega) only[ai,↓ah,seval] at m4
 have k9:∀x,x < H8.n→H9.get x=H8.get x:=fun x h1=>by
  have gx:=congrArg (fun h0=>Heap.get h0 x) hH9.symm;simp(disch:=omega) only[ai,↓ah,seval] at gx;exact gx
 clear hH9;have p1:=(k9 (H2.n+1) (by omega)).trans s1;have q1:=(k9 (H.n+1) (by omega)).trans v1;have q3:=(k9 (H.n+3) (by omega)).trans v3;have kk9:Keep H.n H H9:=⟨by omega,fun x hx _=>(k9 x (by omega)).trans (kk8.2 x hx hx)⟩;clear s1 v0 v1 v3 rv0 k9 kk8
 have dup1:¬(fs++bs).flatten.Nodup→aU fs bs=8:=fun hd=>by
  unfold aU;rw[if_neg (by rw[hff,hfb];simp),if_neg (by rw[hall6];simp),if_neg hd]
 refine sW (ks:=[]) (hf.keep kk9) hlf hl q1 (by omega) (by omega) m1 (by omega) (by omega) (by omega) m0 List.nodup_nil rfl rfl rfl rfl rfl rfl (fun hnd H10 tm10 k10 mm10=>?_) (fun hex H10 tm10 k10=>?_)
 case refine_2=>
  have u1:=(k10.2 _ (by omega) (by omega)).trans m3;have u2:=(k10.2 _ (by omega) (by omega)).trans m4;have u3:=(k10.2 _ (by omega) (by omega)).trans p1;have u4:=(k10.2 _ (by omega) (by omega)).trans q3;rw[dup1 (fun hd=>hex (by rw[List.flatten_append] at hd;rw[List.nil_append];exact(List.nodup_append.1 hd).1))] at hR;simp(disch:=omega) only[ai,↓ah,seval,CQ,kI,kG,u1,u2,u3,u4];exact hR _
 rw[List.nil_append] at hnd mm10;have hn10:=k10.1;have mg:H9.get H8.n=some (.map (gP [] 0) 0):=m0;have s1:=(k10.2 _ (by omega) (by omega)).trans m1;have s2:=(k10.2 _ (by omega) (by omega)).trans m2;have s3:=(k10.2 _ (by omega) (by omega)).trans m3;have s4:=(k10.2 _ (by omega) (by omega)).trans m4;have s5:=(k10.2 _ (by omega) (by omega)).trans p1;have s6:=(k10.2 _ (by omega) (by omega)).trans q1;have s7:=(k10.2 _ (by omega) (by omega)).trans q3;have hb10:=yr (hb.keep kk9) k10 mg;have rs2:=ae s2;clear m0 m1 m2 m3 m4 p1 q1 q3 mg k10;simp(disch:=omega) only[ai,↓ah,seval,CQ,kI,kG,s4,rs2,↓hb.ln];generalize hH11:Heap.put _ _ _=H11;have hn11:H11.n=H10.n:=by rw[←hH11];rfl
 have p4:=congrArg (fun h0=>Heap.get h0 (H8.n+4)) hH11.symm;simp(disch:=omega) only[ai,↓ah,seval] at p4;have k11:KeepB (H8.n+4) H10 H11:=⟨by omega,fun x _ hx=>by rw[←hH11,aa,if_neg (Ne.symm hx),aa,if_neg (Ne.symm hx)]⟩;clear hH11;have p1:=(k11.2 _ (by omega) (by omega)).trans s1;have p3:=(k11.2 _ (by omega) (by omega)).trans s3;have p5:=(k11.2 _ (by omega) (by omega)).trans s5;have p6:=(k11.2 _ (by omega) (by omega)).trans s6;have p7:=(k11.2 _ (by omega) (by omega)).trans s7;have mm11:MapIds H11 H8.n fs.flatten:=(k11.2 _ (by omega) (by omega)).trans mm10
 have hb11:Sl2 H11 b bs:=by
  obtain⟨vs,h1,h2,h3⟩:=hb10;exact⟨vs,h1.same k11.1 fun hl=>k11.2 _ (h1.blk_lt hl) (h1.off hl s4 (by simp)),h2,fun i a b=>(h3 i a b).same k11.1 fun hl=>k11.2 _ ((h3 i a b).blk_lt hl) ((h3 i a b).off hl s4 (by simp))⟩
 clear s1 s2 s3 s4 s5 s6 s7 rs2 k11 mm10 hb10;refine sW (ks:=fs.flatten) hb11 hlb hl' p6 (by omega) (by omega) p1 (by omega) (by omega) (by omega) mm11 hnd rfl rfl rfl rfl rfl rfl (fun hnd' H12 tm12 k12 mm12=>?_) (fun hex H12 tm12 k12=>?_)
 case refine_2=>
  have u1:=(k12.2 _ (by omega) (by omega)).trans p3;have u2:=(k12.2 _ (by omega) (by omega)).trans p4;have u3:=(k12.2 _ (by omega) (by omega)).trans p5;have u4:=(k12.2 _ (by omega) (by omega)).trans p7;rw[dup1 (by rw[List.flatten_append];exact hex)] at hR;simp(disch:=omega) only[ai,↓ah,seval,CQ,kI,kG,u1,u2,u3,u4];exact hR _
 have hn12:=k12.1;have u1:=(k12.2 _ (by omega) (by omega)).trans p3;have u2:=(k12.2 _ (by omega) (by omega)).trans p4;have u3:=(k12.2 _ (by omega) (by omega)).trans p5;have u4:=(k12.2 _ (by omega) (by omega)).trans p7;have u5:=(k12.2 _ (by omega) (by omega)).trans p6
 have ok:aU fs bs=0:=by
  unfold aU;rw[if_neg (by rw[hff,hfb];simp),if_neg (by rw[hall6];simp),if_pos (by rw[List.flatten_append];exact hnd')]
 rw[ok] at hR;simp(disch:=omega) only[ai,↓ah,seval,CQ,kI,kG,u1,u2,u3,u4,u5];exact hR _
end Go.Iso.Gen
end
section
namespace Go.Iso
def Sl2F{α:Type}[Cell α](n0:Nat)(H:Heap)(v:SV)(ls:List (List α)):Prop:=∃vs:List SV,Sl H v vs∧vs.length=ls.length∧(vs≠[]→n0≤v.blk)∧∀(i:Nat) (h:i < ls.length) (h':i < vs.length),Sl H vs[i] ls[i]∧(ls[i]≠[]→n0≤vs[i].blk)
theorem Sl2F.sl2{α:Type}[Cell α]{n0:Nat}{H:Heap}{v:SV}{ls:List (List α)}(h:Sl2F n0 H v ls):Sl2 H v ls:=by
 obtain⟨vs,h1,h2,h3,h4⟩:=h;exact⟨vs,h1,h2,fun i a b=>(h4 i a b).1⟩
theorem Sl2F.keep{α:Type}[Cell α]{n0:Nat}{H H':Heap}{v:SV}{ls:List (List α)}(h:Sl2F n0 H v ls)(k:Keep H.n H H'):Sl2F n0 H' v ls:=by
 obtain⟨vs,h1,h2,h3,h4⟩:=h;exact⟨vs,h1.keep k,h2,h3,fun i a b=>⟨(h4 i a b).1.keep k,(h4 i a b).2⟩⟩
theorem Sl2F.put{α:Type}[Cell α]{n0 x:Nat}{H:Heap}{v:SV}{ls:List (List α)}{ob:IObj}(h:Sl2F n0 H v ls)(hx:x < n0):Sl2F n0 (H.put x ob) v ls:=by
 obtain⟨vs,h1,h2,h3,h4⟩:=h;refine⟨vs,h1.same (Nat.le_refl _) fun hl=>?_,h2,h3,fun i a b=>⟨(h4 i a b).1.same (Nat.le_refl _) fun hl=>?_,(h4 i a b).2⟩⟩
 ·have:=h3 hl
  rw[aa,if_neg (by omega)]
 ·have:=(h4 i a b).2 hl
  rw[aa,if_neg (by omega)]
theorem Sl2F.lower{α:Type}[Cell α]{n0 n1:Nat}{H:Heap}{v:SV}{ls:List (List α)}(h:Sl2F n0 H v ls)(hn:n1≤n0):Sl2F n1 H v ls:=by
 obtain⟨vs,h1,h2,h3,h4⟩:=h;exact⟨vs,h1,h2,fun a=>Nat.le_trans hn (h3 a),fun i a b=>⟨(h4 i a b).1,fun c=>Nat.le_trans hn ((h4 i a b).2 c)⟩⟩
end Go.Iso
namespace Go.Iso.Gen
open Go.Iso Go.Proofs
def kw(ls:List (List Id))(at_:Nat)(l:List Id):List (List Id):=
 if at_=0 then ls else(ls++List.replicate (at_ - ls.length) []).set (at_ - 1) l
def kY(ls:List (List Id))(at_:Nat)(l:List Id):List (List Id):=(kw ls at_ l).take (aQ (kw ls at_ l))
def DT(tm:List IV)(h:tm.length=44):=(bL tm 44 h).trans (by simp only[List.range,List.range.loop,List.map_cons,List.map_nil];exact rfl)
theorem Jy{b2 lo:Nat}{rs:List (List Id)}{H0 H:Heap}{vs:List SV}{Q:Out→Heap→Prop}{tm:List IV}(hlo:lo≤b2)(hb2:H0.n≤b2)(hl:rs.length≤1000000)(hll:∀l∈rs,l.length≤1000000)(hvs:vs.length=rs.length)(ho:Own H b2 31 rs.length vs)(hs:∀j (h:j < rs.length) (h':j < vs.length),Sl H vs[j] rs[j]∧(rs[j]≠[]→vs[j].blk≠b2))(hk:Keep H0.n H0 H)
  (htm:tm.length=44) (t7:tm.getD 7 IV.undef=.slice b2 0 rs.length rs.length true) (t30:tm.getD 30 IV.undef=.slice b2 0 rs.length rs.length true) (t31:tm.getD 31 IV.undef=.int .i64 rs.length) (t32:tm.getD 32 IV.undef=.int .i64 0)
  (hQ:∀H' tm' vs',vs'.length=rs.length→Own H' b2 31 rs.length vs'→(∀j (h:j < rs.length) (h':j < vs'.length),Sl H' vs'[j] rs[j]∧(rs[j]≠[]→H0.n≤vs'[j].blk))→Keep H0.n H0 H'→tm'.length=44→tm'.getD 7 IV.undef=.slice b2 0 rs.length rs.length true→Q (.ex (.jmp (.exit 0)) ⟨tm',[]⟩) H'):W E0 lo (.code (.loop (sK Tryz.f200 607)) none ⟨tm,[]⟩) H Q:=by
 refine aM (fun k fr H'=>∃i vs,i+k=rs.length∧vs.length=rs.length∧Own H' b2 31 rs.length vs∧(∀j (h:j < rs.length) (h':j < vs.length),Sl H' vs[j] rs[j]∧(rs[j]≠[]→vs[j].blk≠b2∧(j < i→H0.n≤vs[j].blk)))∧Keep H0.n H0 H'∧fr.marks=[]∧fr.tm.length=44∧fr.tm.getD 7 IV.undef=.slice b2 0 rs.length rs.length true∧fr.tm.getD 30 IV.undef=.slice b2 0 rs.length rs.length true∧fr.tm.getD 31 IV.undef=.int .i64 rs.length∧fr.tm.getD 32 IV.undef=.int .i64 i) ?_ rs.length ⟨0,vs,by omega,hvs,ho,fun j h h'=>⟨(hs j h h').1,fun hl=>⟨(hs j h h').2 hl,fun h0=>by omega⟩⟩,hk,rfl,htm,t7,t30,t31,t32⟩;clear hvs ho hs hk vs htm t7 t30 t31 t32;rintro k ⟨tm,mk⟩ H' ⟨i,vs,hi,hvs,ho,hs,hk,rfl,htm,t7,t30,t31,t32⟩ L hN hJ;rw[DT tm htm,t7,t30,t31,t32];rw[←iN];have hn:=hk.1;have hb2n:=ho.2.1;have hsl:=ho.sl true;rw[hvs] at hsl;by_cases hil:i < rs.length
 ·have r1:=hsl.read mD i (by omega);simp only[fj,jg,qW,Nat.zero_add] at r1;obtain⟨hi1,hi2⟩:=hs i hil (by omega);have hx:(i:Int) < vs.length:=by omega
  simp(disch:=omega) only[ai,↓ah,seval,LC,↓hsl.idx,r1]
  refine iK hi1 (hll _ (List.getElem_mem hil)) (by omega) fun H2 c k2 hc ho2=>?_;have hn2:=k2.1;have hoo:=ho.keep k2;rw[←hvs] at hoo;have hfull:=hoo.full;have hoo':=hoo.put mD i (by omega) (.sl c 0 rs[i].length rs[i].length true);simp only[mD,qW] at hoo' hfull;have hfl:(aB vs).length=vs.length:=by rw[ao,mD,Nat.mul_one]
  have e1:(i*1+1≤(aB vs).length)=True:=by rw[hfl];simp;omega
  simp(disch:=omega) only[ai,↓ah,seval,LC,↓hsl.idx,hfull,e1]
  rw[hvs] at hoo';refine hN (k - 1) _ _ (by omega) ⟨i+1,_,by omega,by simpa using hvs,hoo',fun j h1 h2=>?_,(hk.trans (k2.lower hn)).trans (.put _ _ (by omega)),rfl,rfl,rfl,rfl,rfl,rfl⟩;have hsame:∀(w:SV) (l:List Id),Sl H2 w l→(l≠[]→w.blk≠b2)→∀ob,Sl (H2.put b2 ob) w l:=fun w l h1 h2 ob=>h1.same (Nat.le_refl _) fun hl=>by rw[aa,if_neg (Ne.symm (h2 hl))]
  by_cases hj:j=i
  ·subst hj;rw[List.getElem_set_self];have hcb:c≠b2:=by omega
   exact⟨hsame _ _ (ho2.sl true) (fun _=>hcb) _,fun _=>⟨hcb,fun _=>by rw[fj];omega⟩⟩
  ·rw[List.getElem_set_ne (Ne.symm hj)];obtain⟨q1,q2⟩:=hs j h1 (by omega);exact⟨hsame _ _ (q1.keep k2) (fun hl=>(q2 hl).1) _,fun hl=>⟨(q2 hl).1,fun h=>(q2 hl).2 (by omega)⟩⟩
 ·simp(disch:=omega) only[ai,↓ah,seval,LC,hJ]
  exact hQ _ _ vs hvs ho (fun j h1 h2=>⟨(hs j h1 h2).1,fun hl=>((hs j h1 h2).2 hl).2 (by omega)⟩) hk rfl rfl
theorem sF(ls:List (List Id))(at_:Nat)(l:List Id):(kw ls at_ l).length=max ls.length at_:=by
 unfold kw;split
 ·omega
 ·rw[List.length_set,List.length_append,List.length_replicate];omega
theorem Bo(ls:List (List Id))(at_:Nat)(l:List Id)(m:Nat)(h:∀x∈ls,x.length≤m)(hl:l.length≤m):∀x∈kw ls at_ l,x.length≤m:=by
 intro x hx;unfold kw at hx;split at hx
 ·exact h x hx
 ·rcases List.mem_or_eq_of_mem_set hx with hx | hx
  ·rw[List.mem_append,List.mem_replicate] at hx;rcases hx with hx | ⟨_,rfl⟩
   ·exact h x hx
   ·simp
  ·subst hx;exact hl
theorem Qu{H:Heap}{us:List SV}{ls:List (List Id)}{w:SV}{l:List Id}{at_:Nat}(hu:us.length=ls.length)(hs:∀j (h:j < ls.length) (h':j < us.length),Sl H us[j] ls[j])(hw:Sl H w l):
  ∀j (h:j < (kw ls at_ l).length) (h':j < ((if at_=0 then us else(us++List.replicate (at_ - us.length) SV.nil).set (at_ - 1) w)).length),Sl H ((if at_=0 then us else(us++List.replicate (at_ - us.length) SV.nil).set (at_ - 1) w))[j] (kw ls at_ l)[j]:=by
 intro j h h';by_cases h0:at_=0
 ·simp only[kw,h0,if_true] at h h'⊢;exact hs j h h'
 ·simp only[kw,h0,if_false] at h h'⊢;by_cases hj:at_ - 1=j
  ·subst hj;rw[List.getElem_set_self,List.getElem_set_self];exact hw
  ·rw[List.getElem_set_ne hj,List.getElem_set_ne hj];by_cases hjl:j < ls.length
   ·rw[List.getElem_append_left (by omega),List.getElem_append_left hjl];exact hs j hjl (by omega)
   ·rw[List.getElem_append_right (by omega),List.getElem_append_right (by omega),List.getElem_replicate,List.getElem_replicate];rfl
theorem zD{v w:SV}{ls:List (List Id)}{l:List Id}(at_:Nat){H:Heap}{lo:Nat}{Q:Out→Heap→Prop}(hv:Sl2 H v ls)(hw:Sl H w l)(hls:ls.length≤100000)(hat:at_≤100000)(hll:∀x∈ls,x.length≤1000000)(hl:l.length≤1000000)(hlo:lo≤H.n)
  (h:∀H' b,Keep H.n H H'→Sl2F H.n H' (.sl b 0 (kY ls at_ l).length (kY ls at_ l).length true) (kY ls at_ l)→Q (.val (SV.sl b 0 (kY ls at_ l).length (kY ls at_ l).length true).iv) H'):W E0 lo (.call 200 [v.iv,.int .i64 at_,w.iv]) H Q:=by
 refine W.pure aX hlo ?_;rw[Xl];obtain⟨us,hu1,hu2,hu3⟩:=hv;have hmax:(if (at_:Int)>(ls.length:Int) then(at_:Int) else(ls.length:Int))=((max ls.length at_:Nat):Int):=by split<;>omega
 obtain⟨n,hn⟩:∃n,n=max ls.length at_:=⟨_,rfl⟩
 rw[←hn] at hmax;have ho1:=Own.mksl (H:=H) (e:=31) (n:=n) mD SV.nil;simp only[qW,yt] at ho1;have k1:Keep H.n H (H.new (.cells false 31 1 (iU n [.nilSlice]))):=Keep.new _ _;obtain⟨H2,e2,n2,g2,ho2⟩:=KP (ex:=true) ho1 (by simp) (hu1.keep k1) mD H.n (by omega) (Nat.le_refl _);have hcp:us++(List.replicate n SV.nil).drop us.length=us++List.replicate (n - us.length) SV.nil:=by rw[List.drop_replicate]
 rw[hcp] at ho2;have hlu:∀lo H',ev1 .lenSl [v.iv] lo H'=some (.int .i64 ls.length,H'):=fun lo H'=>by rw[hu1.ln,hu2]
 have kk2:Keep H.n H H2:=⟨by rw[n2,ac];omega,fun x h1 _=>by rw[g2 x (by omega),aj,if_neg (by omega)]⟩;rw[ac] at n2
 have key:∀(H3:Heap) (xs:List SV),xs=(if at_=0 then us else(us++List.replicate (at_ - us.length) SV.nil).set (at_ - 1) w)→H3.n=H.n+1→Keep H.n H H3→Own H3 H.n 31 n xs→
   ∀tm,tm.length=44→tm.getD 7 IV.undef=.slice H.n 0 n n true→W E0 H.n (.code (.seq (gv Tryz.f200 47) (.seq (.seq (gv Tryz.f200 159) (.block 0 (.loop (sK Tryz.f200 607)))) (.seq (gv Tryz.f200 191) .ret))) none ⟨tm,[]⟩) H3 (lQ H.n F200.results fun o H'=>Keep H.n H H'→Q o H'):=by
  intro H3 xs hxs hn3 k3 ho3 tm htm t7;have hps:=Qu (at_:=at_) hu2 (fun j a b=>(hu3 j a b).keep k3) (hw.keep k3);rw[←hxs] at hps;have hpl:=sF ls at_ l
  have hxl:xs.length=n:=by
   rw[hxs];split
   ·omega
   ·rw[List.length_set,List.length_append,List.length_replicate];omega
  have hs3:=ho3.sl true;rw[hxl] at hs3;have hv3:Sl2 H3 (.sl H.n 0 n n true) (kw ls at_ l):=⟨xs,hs3,by omega,fun j a b=>hps j a b⟩;have hsh:=fg (kw ls at_ l);rw[DT tm htm,t7,←iN];simp(disch:=omega) only[ai,↓ah,seval,LL];refine IS hv3 (by omega) ?_;simp(disch:=omega) only[ai,↓ah,seval,LL,aI,bk,Bool.true_or];have hpart:=Sl.part (ex':=true) (c':=n) hs3 mD (a:=0) (m:=aQ (kw ls at_ l)) (by omega) (by omega);rw[List.drop_zero,Nat.zero_mul,Nat.zero_add] at hpart;rw[←iN];have hxt:(xs.take (aQ (kw ls at_ l))).length=aQ (kw ls at_ l):=by rw[List.length_take];omega
  refine Ck hpart (by omega) (by omega) fun H4 b4 k4 hb4 ho4=>?_;rw[hxt] at ho4;rw[hxt];have hrl:(kY ls at_ l).length=aQ (kw ls at_ l):=by unfold kY;rw[List.length_take];omega
  simp(disch:=omega) only[ai,↓ah,seval,LL]
  have hn4:=k4.1;refine Jy (H0:=H) (rs:=kY ls at_ l) (b2:=b4) (vs:=xs.take (aQ (kw ls at_ l))) (by omega) (by omega) (by omega) (fun x hx=>Bo ls at_ l 1000000 hll hl x (List.mem_of_mem_take hx)) (by omega) (by rw[hrl];exact ho4) ?_ (k3.trans (k4.lower (by omega))) rfl (by rw[hrl];rfl) (by rw[hrl];rfl) (by rw[hrl];rfl) rfl ?_
  ·intro j h1 h2;rw[List.getElem_take]
   have:(kY ls at_ l)[j]=(kw ls at_ l)[j]'(by omega):=List.getElem_take ..
   rw[this];have hj:=hps j (by omega) (by omega);exact⟨hj.keep k4,fun hne=>by have:=hj.blk_lt hne;omega⟩
  ·intro H5 Iw vs5 a1 a2 a3 a4 a5 a6;rw[DT Iw a5,a6];simp(disch:=omega) only[ai,↓ah,seval,LL];refine fun hk=>h _ b4 hk ⟨vs5,?_,a1,fun _=>by rw[fj];omega,a3⟩
   have:=a2.sl true
   rw[a1] at this;exact this
 have hxl2:(us++List.replicate (n - us.length) SV.nil).length=n:=by rw[List.length_append,List.length_replicate];omega
 by_cases h0:at_=0
 ·subst h0;obtain rfl:n=ls.length:=by omega
  simp(disch:=omega) only[ai,↓ah,seval,yP,yO,yN,yM,yL,yK,yJ,yI,yH,uC,uB,(ax Tryz.f200 1),F200,↓hlu,hmax,↓e2,Int.reducePow]
  rw[←gS];refine key H2 _ rfl n2 kk2 ?_ _ rfl rfl;rw[if_pos rfl];rw[show ls.length - us.length=0 from by omega] at ho2;simpa using ho2
 ·rw[show n - us.length=at_ - us.length from by omega] at ho2;have hxl3:(us++List.replicate (at_ - us.length) SV.nil).length=n:=by rw[List.length_append,List.length_replicate];omega
  have ho2':=ho2;rw[←hxl3] at ho2';have hfull:=ho2'.full;have hput:=ho2'.put mD (at_ - 1) (by omega) w;simp only[mD,qW] at hfull hput;have hfl:(aB (us++List.replicate (at_ - us.length) SV.nil)).length=n:=by rw[ao,hxl3,mD,Nat.mul_one]
  have hs2:=ho2.sl true;rw[hxl3] at hs2;have et:((at_:Int) - 1).toNat=at_ - 1:=by omega
  have e1:((at_ - 1)*1+1≤(aB (us++List.replicate (at_ - us.length) SV.nil)).length)=True:=by rw[hfl];simp;omega
  have hx:(at_:Int) - 1 < ((us++List.replicate (at_ - us.length) SV.nil).length:Int):=by omega
  have hidx:=hs2.idx;simp only[iN,fj,jg] at hidx;simp(disch:=omega) only[ai,↓ah,seval,yP,yO,yN,yM,yL,yK,yJ,yI,yH,uC,uB,(ax Tryz.f200 1),F200,↓hlu,hmax,↓e2,Int.reducePow,↓hidx,et,hfull,e1];rw[←gS];rw[hxl3] at hput;refine key _ _ (by rw[if_neg h0]) (by rw[af];exact n2) (kk2.trans (.put _ _ (Nat.le_refl _))) hput _ rfl rfl
def RE(n0:Nat)(H:Heap)(f b:SV)(fs bs:List (List Id)):Prop:=Sl2F n0 H f fs∧Sl2F n0 H b bs∧f.tight∧b.tight
def jx(fs:List (List Id))(bed:Int)(at_:Nat)(l:List Id):List (List Id):=if bed=0 then kY fs at_ l else kY fs 0 []
def jy(bs:List (List Id))(bed:Int)(at_:Nat)(l:List Id):List (List Id):=if bed=0 then kY bs 0 [] else kY bs at_ l
theorem rJ{f b w:SV}{fs bs:List (List Id)}{l:List Id}(bed:Int)(at_:Nat){H:Heap}{lo:Nat}{Q:Out→Heap→Prop}(hf:Sl2 H f fs)(hb:Sl2 H b bs)(hw:Sl H w l)(hlf:fs.length≤100000)(hlb:bs.length≤100000)(hat:at_≤100000)(hll:∀x∈fs,x.length≤1000000)(hll':∀x∈bs,x.length≤1000000)(hl:l.length≤1000000)(hlo:lo≤H.n)
  (h:∀H' f' b',Keep H.n H H'→RE H.n H' f' b' (jx fs bed at_ l) (jy bs bed at_ l)→Q (.val (bv f' b')) H'):W E0 lo (.call 163 [bv f b,.agg [.int .u8 bed,.int .i64 at_],w.iv]) H Q:=by
 refine W.pure aX hlo ?_;rw[XA];by_cases h0:bed=0
 ·simp only[jx,jy,if_pos h0] at h;subst h0;simp(disch:=omega) only[ai,↓ah,seval,HD,bv];generalize hH_H1:Heap.new _ _=H1;have hnH1:H1.n=H.n+3:=by rw[←hH_H1];rfl
  have g0:=congrArg (fun h0=>Heap.get h0 (H.n)) hH_H1.symm;simp(disch:=omega) only[ai,↓ah,seval] at g0;have g1:=congrArg (fun h0=>Heap.get h0 (H.n+1)) hH_H1.symm;simp(disch:=omega) only[ai,↓ah,seval] at g1;have g2:=congrArg (fun h0=>Heap.get h0 (H.n+2)) hH_H1.symm;simp(disch:=omega) only[ai,↓ah,seval] at g2
  have kH1:Keep H.n H H1:=⟨by omega,fun x hx _=>by
   have gx:=congrArg (fun h0=>Heap.get h0 x) hH_H1.symm;simp(disch:=omega) only[ai,↓ah,seval] at gx;exact gx⟩
  clear hH_H1;refine zD at_ (hf.keep kH1) (hw.keep kH1) hlf hat hll hl (by omega) fun H2 b2 k2 s2=>?_;have hn2:=k2.1;replace g0:=(k2.2 _ (by omega) (by omega)).trans g0;replace g1:=(k2.2 _ (by omega) (by omega)).trans g1;replace g2:=(k2.2 _ (by omega) (by omega)).trans g2;have kk2:Keep H.n H H2:=kH1.trans (k2.lower (by omega));have r0:=ae g0;simp(disch:=omega) only[ai,↓ah,seval,HD,r0];refine zD (w:=.nil) 0 (hb.keep kk2) Sl.empty hlb (by omega) hll' (by simp) (by omega) fun H3 b3 k3 s3=>?_;have hn3:=k3.1;replace g2:=(k3.2 _ (by omega) (by omega)).trans g2;simp(disch:=omega) only[ai,↓ah,seval,HD,g2];exact fun hk=>h _ (.sl b2 0 _ _ true) (.sl b3 0 _ _ true) hk ⟨((s2.keep k3).put (by omega)).lower (by omega),(s3.put (by omega)).lower (by omega),⟨rfl,rfl⟩,⟨rfl,rfl⟩⟩
 ·simp only[jx,jy,if_neg h0] at h;have e0:(bed==0)=false:=by simp[h0]
  simp(disch:=omega) only[ai,↓ah,seval,HD,bv,e0]
  generalize hH_H1:Heap.new _ _=H1;have hnH1:H1.n=H.n+3:=by rw[←hH_H1];rfl
  have g0:=congrArg (fun h0=>Heap.get h0 (H.n)) hH_H1.symm;simp(disch:=omega) only[ai,↓ah,seval] at g0;have g1:=congrArg (fun h0=>Heap.get h0 (H.n+1)) hH_H1.symm;simp(disch:=omega) only[ai,↓ah,seval] at g1;have g2:=congrArg (fun h0=>Heap.get h0 (H.n+2)) hH_H1.symm;simp(disch:=omega) only[ai,↓ah,seval] at g2
  have kH1:Keep H.n H H1:=⟨by omega,fun x hx _=>by
   have gx:=congrArg (fun h0=>Heap.get h0 x) hH_H1.symm;simp(disch:=omega) only[ai,↓ah,seval] at gx;exact gx⟩
  clear hH_H1;refine zD (w:=.nil) 0 (hf.keep kH1) Sl.empty hlf (by omega) hll (by simp) (by omega) fun H2 b2 k2 s2=>?_;have hn2:=k2.1;replace g0:=(k2.2 _ (by omega) (by omega)).trans g0;replace g1:=(k2.2 _ (by omega) (by omega)).trans g1;replace g2:=(k2.2 _ (by omega) (by omega)).trans g2;have kk2:Keep H.n H H2:=kH1.trans (k2.lower (by omega));have r0:=ae g0;have r1:=ae g1;simp(disch:=omega) only[ai,↓ah,seval,HD,r0,r1];refine zD at_ (hb.keep kk2) (hw.keep kk2) hlb hat hll' hl (by omega) fun H3 b3 k3 s3=>?_;have hn3:=k3.1;replace g2:=(k3.2 _ (by omega) (by omega)).trans g2;simp(disch:=omega) only[ai,↓ah,seval,HD,g2];exact fun hk=>h _ (.sl b2 0 _ _ true) (.sl b3 0 _ _ true) hk ⟨((s2.keep k3).put (by omega)).lower (by omega),(s3.put (by omega)).lower (by omega),⟨rfl,rfl⟩,⟨rfl,rfl⟩⟩
end Go.Iso.Gen
end
section
namespace Go.Iso
theorem wH{α:Type}[Cell α]{H:Heap}{b e n:Nat}{l m:List α}{v:SV}(hs:Sl H (.sl b 0 l.length n true) l)(hn:n=l.length)(hv:Sl H v m){z:Nat}(hz:Cell.z α=z)(bytes lo:Nat)(hb:(l.length+m.length)*(bytes+1)≤2^40):
  ∃H2 u,ev1 (.append e z bytes) [.slice b 0 l.length n true,v.iv] lo H=some (SV.iv u,H2)∧Keep H.n H H2∧Sl H2 u (l++m):=by
 by_cases hm:m=[]
 ·subst hm;refine⟨H,.sl b 0 l.length n true,?_,Keep.refl _ _,by simpa using hs⟩;simp only[ev1,hv.lenI,hv.srcI hz,Option.bind_some,bF];rw[if_neg (by rw[gD];decide)];rfl
 ·have hpos:0 < m.length:=List.length_pos_iff.2 hm;obtain⟨H2,e1,e2,e3,e4⟩:=ki (e:=e) hs hv hz bytes lo hm (by omega) hb;exact⟨H2,.sl H.n 0 (l.length+m.length) (l.length+m.length) false,e1,e3,by rw[←List.length_append];rw[←List.length_append] at e4;exact e4.sl false⟩
end Go.Iso
namespace Go.Iso.Gen
open Go.Iso Go.Proofs
def gB(fs bs:List (List Id))(fb fa tb ta:Int):Int:=
 if aU fs bs≠0 then aU fs bs
 else if an fb fa≠0∨an tb ta≠0∨fb=tb then 1
 else if (mC fs bs fb fa).length=0 then 13
 else if (mC fs bs fb fa).length+(mC fs bs tb ta).length>4 then 9 else 0
def qA(fs bs:List (List Id))(fb fa tb ta:Int):List Id:=if fb=1 then mC fs bs fb fa++mC fs bs tb ta else mC fs bs tb ta++mC fs bs fb fa
def Ki(fs bs:List (List Id))(fb fa tb ta:Int):List (List Id):=jx (jx fs fb fa.toNat []) tb ta.toNat (qA fs bs fb fa tb ta)
def Kk(fs bs:List (List Id))(fb fa tb ta:Int):List (List Id):=jy (jy bs fb fa.toNat []) tb ta.toNat (qA fs bs fb fa tb ta)
theorem dV{b a:Int}(h:an b a=0):(b=0∨b=1)∧1≤a∧a≤40:=by
 unfold an at h;split at h
 ·assumption
 ·omega
theorem jd(b a:Int):an b a=0∨an b a=1:=by
 unfold an;split
 ·exact .inl rfl
 ·exact .inr rfl
theorem je{fs bs:List (List Id)}(h:aU fs bs=0):fs.length≤40∧bs.length≤40∧(∀l∈fs,l.length≤4)∧(∀l∈bs,l.length≤4)∧(∀a∈(fs++bs).flatten,bx a=true)∧(fs++bs).flatten.Nodup:=by
 unfold aU at h;split at h
 ·omega
 split at h
 ·omega
 split at h
 ·rename_i h1 h2 h3;rw[not_or,Bool.not_eq_true,Bool.not_eq_true] at h1
  have key:∀ls:List (List Id),mA ls=false→ls.length≤40∧∀l∈ls,l.length≤4:=fun ls h=>by
   unfold mA at h;rw[Bool.or_eq_false_iff,List.any_eq_false] at h;refine⟨by simpa using h.1,fun l hl=>by have:=h.2 l hl;simpa using this⟩
  obtain⟨a1,a2⟩:=key fs h1.1;obtain⟨a3,a4⟩:=key bs h1.2;rw[Bool.not_eq_false,List.all_eq_true] at h2;exact⟨a1,a3,a2,a4,h2,h3⟩
 ·omega
theorem qs(ls:List (List Id))(at_:Nat)(l:List Id):(kY ls at_ l).length≤max ls.length at_:=by
 unfold kY;rw[List.length_take,sF];omega
theorem qr(ls:List (List Id))(at_:Nat)(l:List Id)(m:Nat)(h:∀x∈ls,x.length≤m)(hl:l.length≤m):∀x∈kY ls at_ l,x.length≤m:=fun x hx=>Bo ls at_ l m h hl x (List.mem_of_mem_take hx)
theorem jc(fs bs:List (List Id))(b a:Int)(m:Nat)(h:∀x∈fs,x.length≤m)(h':∀x∈bs,x.length≤m):(mC fs bs b a).length≤m:=by
 unfold mC;split
 ·have key:∀(ls:List (List Id)) (i:Nat),(∀x∈ls,x.length≤m)→((ls[i]?).getD []).length≤m:=fun ls i h=>by
   by_cases hi:i < ls.length
   ·rw[List.getElem?_eq_getElem hi];exact h _ (List.getElem_mem hi)
   ·rw[List.getElem?_eq_none (by omega)];simp
  split
  ·exact key _ _ h'
  ·exact key _ _ h
 ·simp
def QU(tm:List IV)(h:tm.length=68):=(bL tm 68 h).trans (by simp only[List.range,List.range.loop,List.map_cons,List.map_nil];exact rfl)
theorem Nr{f b:SV}{fs bs:List (List Id)}(fb fa tb ta:Int){H:Heap}{lo:Nat}{Q:Out→Heap→Prop}(hf:Sl2 H f fs)(hb:Sl2 H b bs)(hlf:fs.length≤100000)(hlb:bs.length≤100000)(hll:∀x∈fs,x.length≤1000000)(hll':∀x∈bs,x.length≤1000000)(hlo:lo≤H.n)
  (he:∀H',Keep H.n H H'→gB fs bs fb fa tb ta≠0→Q (.val (.tuple [bv .nil .nil,.int .i64 (gB fs bs fb fa tb ta)])) H')
  (h:∀H' f' b',Keep H.n H H'→gB fs bs fb fa tb ta=0→RE H.n H' f' b' (Ki fs bs fb fa tb ta) (Kk fs bs fb fa tb ta)→Q (.val (.tuple [bv f' b',.int .i64 0])) H'):W E0 lo (.call 129 [bv f b,.agg [.int .u8 fb,.int .i64 fa],.agg [.int .u8 tb,.int .i64 ta]]) H Q:=by
 refine W.pure aX hlo ?_;rw[XU];simp(disch:=omega) only[ai,↓ah,seval,pe,bv];generalize hH_H1:Heap.new _ _=H1;have hnH1:H1.n=H.n+4:=by rw[←hH_H1];rfl
 have g0:=congrArg (fun h0=>Heap.get h0 (H.n)) hH_H1.symm;simp(disch:=omega) only[ai,↓ah,seval] at g0;have g1:=congrArg (fun h0=>Heap.get h0 (H.n+1)) hH_H1.symm;simp(disch:=omega) only[ai,↓ah,seval] at g1;have g2:=congrArg (fun h0=>Heap.get h0 (H.n+2)) hH_H1.symm;simp(disch:=omega) only[ai,↓ah,seval] at g2;have g3:=congrArg (fun h0=>Heap.get h0 (H.n+3)) hH_H1.symm;simp(disch:=omega) only[ai,↓ah,seval] at g3
 have kH1:Keep H.n H H1:=⟨by omega,fun x hx _=>by
  have gx:=congrArg (fun h0=>Heap.get h0 x) hH_H1.symm;simp(disch:=omega) only[ai,↓ah,seval] at gx;exact gx⟩
 clear hH_H1;rw[show IV.agg [f.iv,b.iv]=bv f b from rfl];refine qZ (hf.keep kH1) (hb.keep kH1) (by omega) (by omega) hll hll' (by omega) fun H2 k2=>?_;have hn2:=k2.1;replace g0:=(k2.2 _ (by omega) (by omega)).trans g0;replace g1:=(k2.2 _ (by omega) (by omega)).trans g1;replace g2:=(k2.2 _ (by omega) (by omega)).trans g2;replace g3:=(k2.2 _ (by omega) (by omega)).trans g3;replace kH1:Keep H.n H H2:=kH1.trans (k2.lower (by omega));clear k2;by_cases hc:aU fs bs=0
 case neg=>
  have e0:(aU fs bs !=0)=true:=by simp[hc]
  have ej:gB fs bs fb fa tb ta=aU fs bs:=by unfold gB;rw[if_pos hc]
  rw[ej] at he;simp(disch:=omega) only[ai,↓ah,seval,pe,e0,g3];exact fun hk=>he _ hk hc
 have hlen:=je hc;have r1:=ae g1;have r2:=ae g2;simp(disch:=omega) only[ai,↓ah,seval,pe,hc,r1];refine bU fb fa (by omega) fun H3 k3=>?_;have hn3:=k3.1;replace g0:=(k3.2 _ (by omega) (by omega)).trans g0;replace g1:=(k3.2 _ (by omega) (by omega)).trans g1;replace g2:=(k3.2 _ (by omega) (by omega)).trans g2;replace g3:=(k3.2 _ (by omega) (by omega)).trans g3;replace kH1:Keep H.n H H3:=kH1.trans (k3.lower (by omega));clear k3 r1 r2;have r1:=ae g1;have r2:=ae g2;have ej1:an fb fa≠0∨an tb ta≠0∨fb=tb→gB fs bs fb fa tb ta=1:=fun h=>by unfold gB;rw[if_neg (by simp[hc]),if_pos h]
 rcases jd fb fa with hfa | hfa
 case inr=>
  rw[ej1 (.inl (by omega))] at he;simp(disch:=omega) only[ai,↓ah,seval,pe,hfa,g3];exact fun hk=>he _ hk (by omega)
 simp(disch:=omega) only[ai,↓ah,seval,pe,hfa,r2]
 refine bU tb ta (by omega) fun H4 k4=>?_;have hn4:=k4.1;replace g0:=(k4.2 _ (by omega) (by omega)).trans g0;replace g1:=(k4.2 _ (by omega) (by omega)).trans g1;replace g2:=(k4.2 _ (by omega) (by omega)).trans g2;replace g3:=(k4.2 _ (by omega) (by omega)).trans g3;replace kH1:Keep H.n H H4:=kH1.trans (k4.lower (by omega));clear k4 r1 r2;have r1:=ae g1;have r2:=ae g2;rcases jd tb ta with hta | hta
 case inr=>
  rw[ej1 (.inr (.inl (by omega)))] at he;simp(disch:=omega) only[ai,↓ah,seval,pe,hta,g3];exact fun hk=>he _ hk (by omega)
 by_cases hbb:fb=tb
 ·rw[ej1 (.inr (.inr hbb))] at he;simp(disch:=omega) only[ai,↓ah,seval,pe,hta,r1,r2,hbb,g3];exact fun hk=>he _ hk (by omega)
 have ebb:(fb==tb)=false:=by simp[hbb]
 have r0:=ae g0;simp(disch:=omega) only[ai,↓ah,seval,pe,hta,r1,r2,ebb,r0];rw[show IV.agg [f.iv,b.iv]=bv f b from rfl];refine td fb fa (hf.keep kH1) (hb.keep kH1) hll hll' (by omega) fun H5 v5 k5 s5=>?_;have hn5:=k5.1;replace g0:=(k5.2 _ (by omega) (by omega)).trans g0;replace g1:=(k5.2 _ (by omega) (by omega)).trans g1;replace g2:=(k5.2 _ (by omega) (by omega)).trans g2;replace g3:=(k5.2 _ (by omega) (by omega)).trans g3;replace kH1:Keep H.n H H5:=kH1.trans (k5.lower (by omega));clear k5 r0 r1 r2;have r0:=ae g0;have r1:=ae g1;have r2:=ae g2;simp(disch:=omega) only[ai,↓ah,seval,pe,r0,r2];rw[show IV.agg [f.iv,b.iv]=bv f b from rfl];refine td tb ta (hf.keep kH1) (hb.keep kH1) hll hll' (by omega) fun H6 v6 k6 s6=>?_;have hn6:=k6.1;replace g0:=(k6.2 _ (by omega) (by omega)).trans g0;replace g1:=(k6.2 _ (by omega) (by omega)).trans g1;replace g2:=(k6.2 _ (by omega) (by omega)).trans g2;replace g3:=(k6.2 _ (by omega) (by omega)).trans g3;replace kH1:Keep H.n H H6:=kH1.trans (k6.lower (by omega));replace s5:=s5.keep k6;clear k6 r0 r1 r2;have r0:=ae g0;have r1:=ae g1;have r2:=ae g2;have hs5:=s5.sl;have hs6:=s6.sl;have hl5:=jc fs bs fb fa 4 hlen.2.2.1 hlen.2.2.2.1;have hl6:=jc fs bs tb ta 4 hlen.2.2.1 hlen.2.2.2.1;by_cases h0:(mC fs bs fb fa).length=0
 ·have ej:gB fs bs fb fa tb ta=13:=by unfold gB;rw[if_neg (by simp[hc]),if_neg (by simp[hfa,hta,hbb]),if_pos h0]
  rw[ej] at he;simp(disch:=omega) only[ai,↓ah,seval,pe,↓hs5.ln,g3];exact fun hk=>he _ hk (by omega)
 by_cases h4:(mC fs bs fb fa).length+(mC fs bs tb ta).length>4
 ·have ej:gB fs bs fb fa tb ta=9:=by unfold gB;rw[if_neg (by simp[hc]),if_neg (by simp[hfa,hta,hbb]),if_neg h0,if_pos h4]
  rw[ej] at he;simp(disch:=omega) only[ai,↓ah,seval,pe,↓hs5.ln,↓hs6.ln,g3];exact fun hk=>he _ hk (by omega)
 have ej:gB fs bs fb fa tb ta=0:=by unfold gB;rw[if_neg (by simp[hc]),if_neg (by simp[hfa,hta,hbb]),if_neg h0,if_neg h4]
 simp(disch:=omega) only[ai,↓ah,seval,pe,↓hs5.ln,↓hs6.ln]
 obtain⟨hfb,hfa1,hfa2⟩:=dV hfa;obtain⟨htb,hta1,hta2⟩:=dV hta
 have key:∀(H9:Heap) (u:SV),H6.n≤H9.n→Keep H.n H H9→H9.get H.n=some (.cells false 26 2 [f.iv,b.iv])→H9.get (H.n+1)=some (.cells false 54 2 [.int .u8 fb,.int .i64 fa])→H9.get (H.n+2)=some (.cells false 54 2 [.int .u8 tb,.int .i64 ta])→H9.get (H.n+3)=some (.cells false 26 2 [.nilSlice,.nilSlice])→Sl H9 u (qA fs bs fb fa tb ta)→
   ∀tm,tm.length=68→tm.getD 3 IV.undef=.ptr H.n 0→tm.getD 4 IV.undef=.ptr (H.n+1) 0→tm.getD 5 IV.undef=.ptr (H.n+2) 0→tm.getD 6 IV.undef=.ptr (H.n+3) 0→tm.getD 11 IV.undef=u.iv→W E0 H.n (.code (.seq (gv Tryz.f129 767) .ret) none ⟨tm,[]⟩) H9 (lQ H.n F129.results fun o H'=>Keep H.n H H'→Q o H'):=by
  intro H9 u hn9 k9 g0 g1 g2 g3 hu tm htm t3 t4 t5 t6 t11;have r0:=ae g0;have r1:=ae g1;have r2:=ae g2;have hjs:(qA fs bs fb fa tb ta).length≤4:=by unfold qA;split<;>rw[List.length_append]<;>omega
  rw[QU tm htm,t3,t4,t5,t6,t11];simp(disch:=omega) only[ai,↓ah,seval,pe,r0,r1];have efa:fa=((fa.toNat:Nat):Int):=by omega
  have eta:ta=((ta.toNat:Nat):Int):=by omega
  rw[show IV.agg [f.iv,b.iv]=bv f b from rfl,efa];refine rJ (w:=.nil) (l:=[]) fb fa.toNat (hf.keep k9) (hb.keep k9) Sl.empty hlf hlb (by omega) hll hll' (by simp) (by omega) fun H10 f10 b10 k10 s10=>?_;rw[←efa];have hn10:=k10.1;replace g0:=(k10.2 _ (by omega) (by omega)).trans g0;replace g1:=(k10.2 _ (by omega) (by omega)).trans g1;replace g2:=(k10.2 _ (by omega) (by omega)).trans g2;replace g3:=(k10.2 _ (by omega) (by omega)).trans g3;have r2:=ae g2;have k10':Keep H.n H H10:=k9.trans (k10.lower (by omega));simp(disch:=omega) only[ai,↓ah,seval,pe,r2]
  have hF:(jx fs fb fa.toNat []).length≤100000∧∀x∈jx fs fb fa.toNat [],x.length≤1000000:=by
   unfold jx;split
   ·exact⟨Nat.le_trans (qs _ _ _) (by omega),qr _ _ _ _ hll (by simp)⟩
   ·exact⟨Nat.le_trans (qs _ _ _) (by omega),qr _ _ _ _ hll (by simp)⟩
  have hB:(jy bs fb fa.toNat []).length≤100000∧∀x∈jy bs fb fa.toNat [],x.length≤1000000:=by
   unfold jy;split
   ·exact⟨Nat.le_trans (qs _ _ _) (by omega),qr _ _ _ _ hll' (by simp)⟩
   ·exact⟨Nat.le_trans (qs _ _ _) (by omega),qr _ _ _ _ hll' (by simp)⟩
  rw[eta];refine rJ tb ta.toNat s10.1.sl2 s10.2.1.sl2 (hu.keep k10) hF.1 hB.1 (by omega) hF.2 hB.2 (by omega) (by omega) fun H11 f11 b11 k11 s11=>?_;rw[←eta];have hn11:=k11.1;replace g3:=(k11.2 _ (by omega) (by omega)).trans g3;simp(disch:=omega) only[ai,↓ah,seval,pe,g3,bv];exact fun hk=>h _ f11 b11 hk ej ⟨(s11.1.put (by omega)).lower (by omega),(s11.2.1.put (by omega)).lower (by omega),s11.2.2⟩
 refine iK hs6 (by omega) (by omega) fun H7 c7 k7 hc7 o7=>?_;have hn7:=k7.1;replace g0:=(k7.2 _ (by omega) (by omega)).trans g0;replace g1:=(k7.2 _ (by omega) (by omega)).trans g1;replace g2:=(k7.2 _ (by omega) (by omega)).trans g2;replace g3:=(k7.2 _ (by omega) (by omega)).trans g3;have kk7:Keep H.n H H7:=kH1.trans (k7.lower (by omega));obtain⟨H8,u8,e8,k8,s8⟩:=wH (e:=138) (o7.sl true) rfl (hs5.keep k7) kJ 16 H.n (by omega);have hn8:=k8.1;replace g0:=(k8.2 _ (by omega) (by omega)).trans g0;replace g1:=(k8.2 _ (by omega) (by omega)).trans g1;replace g2:=(k8.2 _ (by omega) (by omega)).trans g2;replace g3:=(k8.2 _ (by omega) (by omega)).trans g3;have kk8:Keep H.n H H8:=kk7.trans (k8.lower (by omega));have r1:=ae g1;by_cases hb1:fb=1
 ·have ebb1:(fb==1)=true:=by simp[hb1]
  simp(disch:=omega) only[ai,↓ah,seval,pe,↓e8,r1,ebb1]
  refine iK ((hs5.keep k7).keep k8) (by omega) (by omega) fun H9 c9 k9 hc9 o9=>?_;have hn9:=k9.1;replace g0:=(k9.2 _ (by omega) (by omega)).trans g0;replace g1:=(k9.2 _ (by omega) (by omega)).trans g1;replace g2:=(k9.2 _ (by omega) (by omega)).trans g2;replace g3:=(k9.2 _ (by omega) (by omega)).trans g3;have kk9:Keep H.n H H9:=kk8.trans (k9.lower (by omega));obtain⟨H10,u10,e10,k10,s10⟩:=wH (e:=138) (o9.sl true) rfl (((hs6.keep k7).keep k8).keep k9) kJ 16 H.n (by omega);have hn10:=k10.1;replace g0:=(k10.2 _ (by omega) (by omega)).trans g0;replace g1:=(k10.2 _ (by omega) (by omega)).trans g1;replace g2:=(k10.2 _ (by omega) (by omega)).trans g2;replace g3:=(k10.2 _ (by omega) (by omega)).trans g3;simp(disch:=omega) only[ai,↓ah,seval,zi,zh,zg,zf,ze,zd,zc,zb,za,y5,va,uZ,uY,uX,(ax Tryz.f129 1),F129,↓e10];rw[←gS];exact key H10 u10 (by omega) (kk9.trans (k10.lower (by omega))) g0 g1 g2 g3 (by rw[qA,if_pos hb1];exact s10) _ rfl rfl rfl rfl rfl rfl
 ·have ebb1:(fb==1)=false:=by simp[hb1]
  simp(disch:=omega) only[ai,↓ah,seval,zi,zh,zg,zf,ze,zd,zc,zb,za,y5,va,uZ,uY,uX,(ax Tryz.f129 1),F129,↓e8,r1,ebb1]
  rw[←gS];exact key H8 u8 (by omega) kk8 g0 g1 g2 g3 (by rw[qA,if_neg hb1];exact s8) _ rfl rfl rfl rfl rfl rfl
def W2(tm:List IV)(h:tm.length=26):=(bL tm 26 h).trans (by simp only[List.range,List.range.loop,List.map_cons,List.map_nil];exact rfl)
def W0(tm:List IV)(h:tm.length=32):=(bL tm 32 h).trans (by simp only[List.range,List.range.loop,List.map_cons,List.map_nil];exact rfl)
def bE(ls:List (List Id)):List (List Id):=ls.take (aQ ls)
def Cut(H:Heap)(v:SV):Prop:=match v with | .nil=>True | .sl b _ _ _ ex=>ex=true∨(b < H.n∧rX H b 1=true)
structure Pt where
 a:Nat
 m:Nat
 deriving Inhabited
instance:Cell Pt where
 z:=2
 cs p:=[.int .u8 p.a,.int .u8 p.m]
 len _:=rfl
 one _:=rfl
 pos:=by omega
theorem Iu(a b:Nat):(a:Int).tmod (b:Int)=((a%b:Nat):Int):=by
 rw[Int.tmod_eq_emod_of_nonneg (by omega)];omega
theorem Iw(a:Nat):(a:Int).tmod 5=((a%5:Nat):Int):=Iu a 5
theorem Ix(a:Nat):(a:Int).tmod 3=((a%3:Nat):Int):=Iu a 3
def Y9(n:Nat):Id:=⟨((1+n%3:Nat):Int),((n / 3:Nat):Int)⟩
def Kx(l:List Id)(n:Nat):Nat→List Id×Nat
 | 0=>(l,n)
 | m+1=>if l.length < 4 then Kx (l++[Y9 n]) (n+1) m else(l,n)
def QA(s:List (List Id)×Nat)(p:Pt):List (List Id)×Nat:=
 (s.1.set (p.a%80) (Kx (s.1.getD (p.a%80) []) s.2 (p.m%5)).1,(Kx (s.1.getD (p.a%80) []) s.2 (p.m%5)).2)
def ofT(xs:List Pt):List (List Id)×Nat:=(xs.take 40).foldl QA (List.replicate 80 [],0)
def Tb(lo:Nat)(H:Heap)(vs:List SV)(t:List (List Id)):Prop:=vs.length=80∧t.length=80∧(∀i (h:i < vs.length) (h':i < t.length),(vs[i]=.nil∧t[i]=[])∨∃b,vs[i]=.sl b 0 t[i].length t[i].length false∧lo≤b∧t[i]≠[]∧Own H b 138 t[i].length t[i])∧
 ∀i j (h:i < vs.length) (h':j < vs.length),i≠j→vs[i]≠.nil→vs[j]≠.nil→vs[i].blk≠vs[j].blk
def WX(tm:List IV)(h:tm.length=59):=(bL tm 59 h).trans (by simp only[List.range,List.range.loop,List.map_cons,List.map_nil];exact rfl)
structure Good(s:List (List Id)×Nat):Prop where
 len:s.1.length=80
 four:∀l∈s.1,l.length≤4
 ids:∀a∈s.1.flatten,∃j,j < s.2∧a=Y9 j
 nd:s.1.flatten.Nodup
theorem rK{t:List (List Id)}{i:Nat}(hi:i < t.length)(l:List Id):(t.set i (t[i]++l)).flatten.Perm (t.flatten++l):=by
 have e1:t.flatten=(t.take i).flatten++(t[i]++(t.drop (i+1)).flatten):=by
  have h0:t=t.take i++t[i]::t.drop (i+1):=by rw[←List.drop_eq_getElem_cons hi,List.take_append_drop]
  have:=congrArg List.flatten h0
  rw[List.flatten_append,List.flatten_cons] at this;exact this
 rw[List.set_eq_take_append_cons_drop,if_pos hi,List.flatten_append,List.flatten_cons,e1];simp only[List.append_assoc];refine List.Perm.append_left _ (List.Perm.append_left _ ?_);exact List.perm_append_comm
def Tab(H:Heap)(vs:List SV)(t:List (List Id)):Prop:=vs.length=80∧t.length=80∧∀i (h:i < vs.length) (h':i < t.length),Sl H vs[i] t[i]
def aN(t:List (List Id)):List (List Id):=bE (t.take 40)
def aG(t:List (List Id)):List (List Id):=bE (t.drop 40)
def aa8(n0:Nat)(H:Heap)(n k:Nat)(v:SV):Prop:=(n≤k∧v=.nil)∨(k < n∧∃b,v=.sl b 0 n n true∧n0≤b∧Own H b 31 n (List.replicate n SV.nil))
def WU(tm:List IV)(h:tm.length=76):=(bL tm 76 h).trans (by simp only[List.range,List.range.loop,List.map_cons,List.map_nil];exact rfl)
def nB(i:Nat):Int:=((i%80 / 40:Nat):Int)
def nA(i:Nat):Int:=((1+i%40:Nat):Int)
def aba(t fs bs:List (List Id)):Prop:=(∀i,i < 80→mC fs bs (nB i) (nA i)=t.getD i [])∧aQ fs=fs.length∧aQ bs=bs.length
def zZ(tm:List IV)(h:tm.length=80):=(bL tm 80 h).trans (by simp only[List.range,List.range.loop,List.map_cons,List.map_nil];exact rfl)
end Go.Iso.Gen
end
section
namespace Go.Iso
section
variable {α:Type}
theorem Nz{ls:List (List α)}{i:Nat}(h:ls.getD i []≠[]):∃hi:i < ls.length,ls.getD i []=ls[i]:=by
 rw[List.getD_eq_getElem?_getD] at h⊢;by_cases hi:i < ls.length
 ·exact⟨hi,by rw[List.getElem?_eq_getElem hi,Option.getD_some]⟩
 ·rw[List.getElem?_eq_none (by omega)] at h;exact absurd rfl h
theorem br{ls:List (List α)}{i:Nat}(hi:i < ls.length):ls.getD i []=ls[i]:=by rw[List.getD_eq_getElem?_getD,List.getElem?_eq_getElem hi,Option.getD_some]
theorem iH{ls:List (List α)}{i:Nat}(hi:ls.length≤i):ls.getD i []=[]:=by rw[List.getD_eq_getElem?_getD,List.getElem?_eq_none hi,Option.getD_none]
theorem sA{ls ms:List (List α)}(h:∀i,ls.getD i []=ms.getD i []):aQ ls≤aQ ms:=by
 have hle:=fg ls
 cases hn:aQ ls with
 | zero=>omega
 | succ n=>
   have h1:=mZ ls n (by omega) hn;have h2:=h n;rw[br (show n < ls.length by omega)] at h2;obtain⟨h3,h4⟩:=Nz (ls:=ms) (i:=n) (by rw[←h2];exact h1);exact shortN_ge' h3 (by rw[←h4,←h2];exact h1)
where shortN_ge' {l:List (List α)} {i:Nat} (hi:i < l.length) (h:l[i]≠[]):i+1≤aQ l:=Nat.lt_of_not_le fun hle=>h (eu l i hi hle)
end
end Go.Iso
namespace Go.Iso.Gen
open Go.Iso Go.Proofs
theorem gV(ls:List (List Id)):(bE ls).length=aQ ls:=by
 have:=fg ls
 unfold bE;rw[List.length_take];omega
theorem bX(ls:List (List Id))(i:Nat):(bE ls).getD i []=ls.getD i []:=by
 have hs:=fg ls;by_cases h:i < aQ ls
 ·rw[br (by rw[gV];exact h),br (by omega)];unfold bE;rw[List.getElem_take]
 ·rw[iH (by rw[gV];omega)];by_cases hi:i < ls.length
  ·rw[br hi,eu ls i hi (by omega)]
  ·rw[iH (by omega)]
theorem xv{ls ms:List (List Id)}(h:∀i,ls.getD i []=ms.getD i []):bE ls=bE ms:=by
 have hn:aQ ls=aQ ms:=Nat.le_antisymm (sA h) (sA fun i=>(h i).symm);apply List.ext_getElem
 ·rw[gV,gV,hn]
 ·intro i h1 h2
  have:=h i
  rw[←bX,←bX ms,br h1,br h2] at this;exact this
theorem A5(ls:List (List Id)):bE (bE ls)=bE ls:=xv fun i=>bX ls i
theorem m8(ls:List (List Id)):(bE ls).flatten=ls.flatten:=by
 have h:ls=bE ls++ls.drop (aQ ls):=by unfold bE;rw[List.take_append_drop]
 have h2:(ls.drop (aQ ls)).flatten=[]:=by
  rw[List.flatten_eq_nil_iff];intro l hl;obtain⟨i,hi,rfl⟩:=List.mem_iff_getElem.1 hl;rw[List.getElem_drop];exact eu ls _ _ (by omega)
 have:=congrArg List.flatten h
 rw[List.flatten_append,h2,List.append_nil] at this;exact this.symm
theorem GF(ls:List (List Id))(at_:Nat)(l:List Id)(i:Nat):(kw ls at_ l).getD i []=if at_=i+1 then l else ls.getD i []:=by
 unfold kw;by_cases h0:at_=0
 ·rw[if_pos h0,if_neg (by omega)]
 ·rw[if_neg h0];by_cases hi:at_=i+1
  ·subst hi;rw[if_pos rfl,br (by rw[List.length_set,List.length_append,List.length_replicate];omega)];simp
  ·rw[if_neg hi];by_cases hil:i < ls.length
   ·rw[br (by rw[List.length_set,List.length_append,List.length_replicate];omega),List.getElem_set_ne (by omega),List.getElem_append_left hil,br hil]
   ·rw[iH (by omega:ls.length≤i)];by_cases hi2:i < at_
    ·rw[br (by rw[List.length_set,List.length_append,List.length_replicate];omega),List.getElem_set_ne (by omega),List.getElem_append_right (by omega),List.getElem_replicate]
    ·exact iH (by rw[List.length_set,List.length_append,List.length_replicate];omega)
theorem A6(ls:List (List Id))(k:Nat)(hk:k < ls.length)(l:List Id)(i:Nat):(ls.set k l).getD i []=if k=i then l else ls.getD i []:=by
 by_cases h:k=i
 ·subst h;rw[if_pos rfl,br (by rw[List.length_set];exact hk)];simp
 ·rw[if_neg h];simp[List.getD_eq_getElem?_getD,List.getElem?_set_ne h]
theorem vy(A:List (List Id))(k:Nat)(hk:k < A.length)(l:List Id):kY (bE A) (k+1) l=bE (A.set k l):=by
 have:kY (bE A) (k+1) l=bE (kw (bE A) (k+1) l):=rfl
 rw[this];refine xv fun i=>?_;rw[GF,A6 A k hk,bX];by_cases h:k=i
 ·rw[if_pos (by omega),if_pos h]
 ·rw[if_neg (by omega),if_neg h]
theorem xA(A:List (List Id)):kY (bE A) 0 []=bE A:=by
 have:kY (bE A) 0 []=bE (bE A):=rfl
 rw[this,A5]
def ix(b a:Int):Nat:=(40*b+a - 1).toNat
theorem C8(t:List (List Id))(k:Nat)(l:List Id)(h:k < 40):(t.set k l).take 40=(t.take 40).set k l:=by rw[List.take_set]
theorem DX(t:List (List Id))(k:Nat)(l:List Id)(h:40≤k):(t.set k l).drop 40=(t.drop 40).set (k - 40) l:=by rw[List.drop_set,if_neg (by omega)]
theorem vz{t:List (List Id)}(ht:t.length=80){b a:Int}(hv:an b a=0)(l:List Id):jx (aN t) b a.toNat l=aN (t.set (ix b a) l)∧jy (aG t) b a.toNat l=aG (t.set (ix b a) l):=by
 obtain⟨hb,h1,h2⟩:=dV hv;have ha:a.toNat=(a - 1).toNat+1:=by omega
 rcases hb with rfl | rfl
 ·have hi:ix 0 a=(a - 1).toNat:=by unfold ix;omega
  have hlt:(a - 1).toNat < 40:=by omega
  constructor
  ·unfold jx aN;rw[if_pos rfl,ha,vy _ _ (by rw[List.length_take];omega),hi,C8 _ _ _ hlt]
  ·unfold jy aG;rw[if_pos rfl,xA,hi,List.drop_set,if_pos hlt]
 ·have hi:ix 1 a=40+(a - 1).toNat:=by unfold ix;omega
  have hlt:(a - 1).toNat < 40:=by omega
  constructor
  ·unfold jx aN;rw[if_neg (by omega),xA,hi,List.take_set,List.set_eq_of_length_le (by rw[List.length_take];omega)]
  ·unfold jy aG;rw[if_neg (by omega),ha,vy _ _ (by rw[List.length_drop];omega),hi,DX _ _ _ (by omega),Nat.add_sub_cancel_left]
theorem xS(t:List (List Id))(n i:Nat)(h:i < n):(t.take n).getD i []=t.getD i []:=by
 simp[List.getD_eq_getElem?_getD,List.getElem?_take,h]
theorem xT(t:List (List Id))(n i:Nat):(t.drop n).getD i []=t.getD (n+i) []:=by
 simp[List.getD_eq_getElem?_getD,List.getElem?_drop]
theorem iR(t:List (List Id)){b a:Int}(hv:an b a=0):mC (aN t) (aG t) b a=t.getD (ix b a) []:=by
 unfold mC;rw[if_pos hv];obtain⟨hb,h1,h2⟩:=dV hv;rw[←List.getD_eq_getElem?_getD];rcases hb with rfl | rfl
 ·rw[if_neg (by omega)];unfold aN;rw[bX,xS _ _ _ (by omega)];congr 1;unfold ix;omega
 ·rw[if_pos rfl];unfold aG;rw[bX,xT];congr 1;unfold ix;omega
theorem K9(fs bs:List (List Id)){b a:Int}(hv:an b a≠0):mC fs bs b a=[]:=by unfold mC;rw[if_neg hv]
theorem BA(i:Nat):an (nB i) (nA i)=0:=by
 unfold an nB nA;rw[if_pos (by omega)]
theorem GN{b a:Int}(hv:an b a=0):nB (ix b a)=b∧nA (ix b a)=a∧ix b a < 80:=by
 obtain⟨hb,h1,h2⟩:=dV hv;unfold ix nB nA;omega
theorem jI(t:List (List Id)):(aN t).length≤40:=by
 unfold aN
 have:=fg (t.take 40)
 rw[List.length_take] at this;rw[gV];omega
theorem gJ{t:List (List Id)}(ht:t.length=80):(aG t).length≤40:=by
 unfold aG
 have:=fg (t.drop 40)
 rw[List.length_drop] at this;rw[gV];omega
theorem Ax(t:List (List Id)):(aN t++aG t).flatten=t.flatten:=by
 unfold aN aG;rw[List.flatten_append,m8,m8,←List.flatten_append,List.take_append_drop]
theorem eD{t:List (List Id)}{l:List Id}(h:l∈aN t):l∈t:=List.mem_of_mem_take (List.mem_of_mem_take h)
theorem cV{t:List (List Id)}{l:List Id}(h:l∈aG t):l∈t:=List.mem_of_mem_drop (List.mem_of_mem_take h)
structure Valid(t:List (List Id)):Prop where
 len:t.length=80
 four:∀l∈t,l.length≤4
 named:∀a∈t.flatten,bx a=true
 nd:t.flatten.Nodup
theorem Valid.check{t:List (List Id)}(h:Valid t):aU (aN t) (aG t)=0:=by
 have key:∀ls:List (List Id),ls.length≤40→(∀l∈ls,l∈t)→mA ls=false:=fun ls h1 h2=>by
  unfold mA;rw[Bool.or_eq_false_iff,List.any_eq_false];exact⟨by simp;omega,fun l hl=>by have:=h.four l (h2 l hl);simp;omega⟩
 unfold aU;rw[Ax,if_neg,if_neg,if_pos h.nd]
 ·rw[Bool.not_eq_false,List.all_eq_true];exact h.named
 ·rw[key _ (jI t) fun l=>eD,key _ (gJ h.len) fun l=>cV];simp
def vX(fb:Int)(a b:List Id):List Id:=if fb=1 then a++b else b++a
def nn(t:List (List Id))(fb:Int)(i k:Nat):List (List Id):=(t.set i []).set k (vX fb (t.getD i []) (t.getD k []))
theorem Su{fb fa tb ta:Int}(hf:an fb fa=0)(ht:an tb ta=0)(hb:fb≠tb):ix fb fa≠ix tb ta:=by
 intro e;have h1:=GN hf;have h2:=GN ht;rw[e] at h1;exact hb (h1.1.symm.trans h2.1)
theorem Kj{t:List (List Id)}(hV:Valid t)(fb fa tb ta:Int):gB (aN t) (aG t) fb fa tb ta=
  if an fb fa≠0∨an tb ta≠0∨fb=tb then 1 else if (t.getD (ix fb fa) []).length=0 then 13 else if (t.getD (ix fb fa) []).length+(t.getD (ix tb ta) []).length>4 then 9 else 0:=by
 unfold gB;rw[if_neg (by rw[hV.check];simp)];by_cases h:an fb fa≠0∨an tb ta≠0∨fb=tb
 ·rw[if_pos h,if_pos h]
 ·rw[if_neg h,if_neg h];rw[not_or,not_or,Classical.not_not,Classical.not_not] at h;rw[iR t h.1,iR t h.2.1]
theorem Kh{t:List (List Id)}{fb fa tb ta:Int}(hf:an fb fa=0)(ht:an tb ta=0):qA (aN t) (aG t) fb fa tb ta=vX fb (t.getD (ix fb fa) []) (t.getD (ix tb ta) []):=by
 unfold qA vX;rw[iR t hf,iR t ht]
theorem GY{t:List (List Id)}(hV:Valid t){fb fa tb ta:Int}(hf:an fb fa=0)(ht:an tb ta=0):
  Ki (aN t) (aG t) fb fa tb ta=aN (nn t fb (ix fb fa) (ix tb ta))∧Kk (aN t) (aG t) fb fa tb ta=aG (nn t fb (ix fb fa) (ix tb ta)):=by
 unfold Ki Kk nn;have h1:=vz hV.len hf [];rw[h1.1,h1.2,Kh hf ht];exact vz (by rw[List.length_set];exact hV.len) ht _
theorem rG{t:List (List Id)}{i:Nat}(hi:i < t.length)(l:List Id):(t.set i l).flatten.Perm (l++(t.set i []).flatten):=by
 have:=rK (t:=t.set i []) (i:=i) (by rw[List.length_set];exact hi) l
 rw[List.getElem_set_self,List.nil_append,List.set_set] at this;exact this.trans List.perm_append_comm
theorem gY{t:List (List Id)}{i:Nat}(hi:i < t.length):t.flatten.Perm (t.getD i []++(t.set i []).flatten):=by
 have:=rG hi (t.getD i [])
 rw[br hi,List.set_getElem_self] at this;rw[br hi];exact this
theorem vW(fb:Int)(a b:List Id):(vX fb a b).Perm (a++b):=by
 unfold vX;split
 ·exact .refl _
 ·exact List.perm_append_comm
theorem GX(fb:Int)(a b:List Id):(vX fb a b).length=a.length+b.length:=by rw[(vW fb a b).length_eq,List.length_append]
theorem DQ{t:List (List Id)}{i k:Nat}(fb:Int)(hi:i < t.length)(hk:k < t.length)(hik:i≠k):(nn t fb i k).flatten.Perm t.flatten:=by
 unfold nn;have h1:=rG (t:=t.set i []) (i:=k) (by rw[List.length_set];exact hk) (vX fb (t.getD i []) (t.getD k []));have h2:=gY hi;have h3:=gY (t:=t.set i []) (i:=k) (by rw[List.length_set];exact hk);rw[A6 t i hi,if_neg hik] at h3;refine h1.trans ?_;refine(List.Perm.append_right _ (vW _ _ _)).trans ?_;rw[List.append_assoc];refine .trans ?_ h2.symm;exact List.Perm.append_left _ h3.symm
theorem GW(t:List (List Id))(fb:Int)(i k:Nat):(nn t fb i k).length=t.length:=by unfold nn;rw[List.length_set,List.length_set]
theorem BS{t:List (List Id)}(hV:Valid t){i k:Nat}(fb:Int)(hi:i < 80)(hk:k < 80)(hik:i≠k)(h4:(t.getD i []).length+(t.getD k []).length≤4):Valid (nn t fb i k):=by
 have hp:=DQ fb (by rw[hV.len];exact hi) (by rw[hV.len];exact hk) hik;refine⟨by rw[GW,hV.len],fun l hl=>?_,fun a ha=>hV.named a ((hp.mem_iff).1 ha),(hp.nodup_iff).2 hV.nd⟩;unfold nn at hl;rcases List.mem_or_eq_of_mem_set hl with hl | rfl
 ·rcases List.mem_or_eq_of_mem_set hl with hl | rfl
  ·exact hV.four l hl
  ·simp
 ·rw[GX];exact h4
def Zv(b a:Int)(j:Nat):Int:=if an b a=0∧ix b a < j then ix b a else -1
def pI(tm:List IV)(h:tm.length=77):=(bL tm 77 h).trans (by simp only[List.range,List.range.loop,List.map_cons,List.map_nil];exact rfl)
theorem F7{v:SV}{l:List Id}{R lo:Nat}{y3 y4 y7:IV}{H0:Heap}{Q:Out→Heap→Prop}{tm:List IV}(hlo:lo≤R)(hR:R < H0.n)(hv:Sl H0 v l)(hl:l.length≤1000000)(gR:H0.get R=some (.cells false 26 2 [.nilSlice,.nilSlice]))
  (htm:tm.length=77) (t2:tm.getD 2 IV.undef=v.iv) (t3:tm.getD 3 IV.undef=y3) (t4:tm.getD 4 IV.undef=y4) (t6:tm.getD 6 IV.undef=.ptr R 0) (t7:tm.getD 7 IV.undef=y7) (t28:tm.getD 28 IV.undef=v.iv) (t29:tm.getD 29 IV.undef=.int .i64 l.length) (t30:tm.getD 30 IV.undef=.int .i64 0)
  (hQ:l.all bx=true→∀H' tm',Keep H0.n H0 H'→tm'.length=77→tm'.getD 2 IV.undef=v.iv→tm'.getD 3 IV.undef=y3→tm'.getD 4 IV.undef=y4→tm'.getD 6 IV.undef=.ptr R 0→tm'.getD 7 IV.undef=y7→Q (.ex (.jmp (.exit 0)) ⟨tm',[]⟩) H')
  (hE:l.all bx=false→∀H' tm',Keep R H0 H'→H'.get R=some (.cells false 26 2 [.nilSlice,.nilSlice])→tm'.length=77→tm'.getD 6 IV.undef=.ptr R 0→tm'.getD 7 IV.undef=.int .i64 1→Q (.ex (.jmp .ret) ⟨tm',[]⟩) H'):W E0 lo (.code (.loop (sK Tryz.f130 151)) none ⟨tm,[]⟩) H0 Q:=by
 refine aM (fun k fr H'=>∃j,j+k=l.length∧(l.take j).all bx=true∧Keep H0.n H0 H'∧fr.marks=[]∧fr.tm.length=77∧fr.tm.getD 2 IV.undef=v.iv∧fr.tm.getD 3 IV.undef=y3∧fr.tm.getD 4 IV.undef=y4∧fr.tm.getD 6 IV.undef=.ptr R 0∧fr.tm.getD 7 IV.undef=y7∧fr.tm.getD 28 IV.undef=v.iv∧fr.tm.getD 29 IV.undef=.int .i64 l.length∧fr.tm.getD 30 IV.undef=.int .i64 j) ?_ l.length ⟨0,by omega,by simp,Keep.refl _ _,rfl,htm,t2,t3,t4,t6,t7,t28,t29,t30⟩;clear htm t2 t3 t4 t6 t7 t28 t29 t30;rintro k ⟨tm,mk⟩ Hc ⟨j,hjk,hall,hk,rfl,htm,t2,t3,t4,t6,t7,t28,t29,t30⟩ L hN hJ;rw[pI tm htm,t2,t3,t4,t6,t7,t28,t29,t30];have hn:=hk.1;by_cases hj:j < l.length
 ·have hv':=hv.keep hk;have r1:=hv'.read kJ j hj;simp(disch:=omega) only[ai,↓ah,seval,rv,↓hv'.idx,r1,eC];generalize hH_H2:Heap.put _ _ _=H2;have hnH2:H2.n=Hc.n+1:=by rw[←hH_H2];rfl
  have g2:=congrArg (fun h0=>Heap.get h0 (Hc.n)) hH_H2.symm;simp(disch:=omega) only[ai,↓ah,seval] at g2
  have kH2:Keep Hc.n Hc H2:=⟨by omega,fun x hx _=>by
   have gx:=congrArg (fun h0=>Heap.get h0 x) hH_H2.symm;simp(disch:=omega) only[ai,↓ah,seval] at gx;exact gx⟩
  clear hH_H2;rw[←eC];refine vL l[j] (by omega) fun H3 k3=>?_;have hn3:=k3.1;have kk3:Keep H0.n H0 H3:=hk.trans ((kH2.trans (k3.lower (by omega))).lower hn);by_cases hb:bx l[j]=true
  ·rw[hb];simp(disch:=omega) only[ai,↓ah,seval,rv];refine hN (k - 1) _ _ (by omega) ⟨j+1,by omega,?_,kk3,rfl,rfl,rfl,rfl,rfl,rfl,rfl,rfl,rfl,rfl⟩;rw[List.take_succ_eq_append_getElem hj,List.all_append,hall];simp[hb]
  ·have hbf:bx l[j]=false:=by simpa using hb
   rw[hbf];have gR':=(kk3.2 R hR hR).trans gR;simp(disch:=omega) only[ai,↓ah,seval,rv,gR',hJ];refine hE ?_ _ _ ((kk3.lower (by omega)).trans (.put _ _ (Nat.le_refl _))) (by rw[aa,if_pos rfl]) rfl rfl rfl;rw[List.all_eq_false];exact⟨l[j],List.getElem_mem hj,by simp[hbf]⟩
 ·rw[List.take_of_length_le (by omega)] at hall;simp(disch:=omega) only[ai,↓ah,seval,rv,hJ];exact hQ hall _ _ hk rfl rfl rfl rfl rfl rfl
theorem MD{w:SV}{l ks:List Id}{tb mb lo l1:Nat}{H:Heap}{Q:Out→Heap→Prop}{mk:List Nat}{tm:List IV}(hw:Sl H w l)(hl:l.length≤1000000)
  (hgt:H.get tb=some (.cells false 193 1 [.map mb])) (htb:tb < H.n) (hmb:mb < H.n) (hlm:lo≤mb) (hm:MapIds H mb ks) (htm:tm.length=77) (t11:tm.getD 11 IV.undef=.ptr tb 0) (t51:tm.getD 51 IV.undef=w.iv) (t52:tm.getD 52 IV.undef=.int .i64 l.length) (t53:tm.getD 53 IV.undef=.int .i64 0)
  (hQ:∀H' tm' ks',KeepB mb H H'→MapIds H' mb ks'→(∀a,a∈ks'↔a∈ks∨a∈l)→Q (.ex (.jmp (.exit 4)) ⟨tm',mk⟩) H'):W E0 lo (.code (.loop (sK Tryz.f130 76479)) (some l1) ⟨tm,mk⟩) H Q:=by
 refine aM (fun k fr H'=>∃i ks',i+k=l.length∧KeepB mb H H'∧MapIds H' mb ks'∧(∀a,a∈ks'↔a∈ks∨a∈l.take i)∧fr.marks=mk∧fr.tm.length=77∧fr.tm.getD 11 IV.undef=.ptr tb 0∧fr.tm.getD 51 IV.undef=w.iv∧fr.tm.getD 52 IV.undef=.int .i64 l.length∧fr.tm.getD 53 IV.undef=.int .i64 i) ?_ l.length ⟨0,ks,by omega,KeepB.refl _ _,hm,by simp,rfl,htm,t11,t51,t52,t53⟩;clear htm t11 t51 t52 t53;rintro k ⟨tm,mk⟩ H' ⟨i,ks',hi,hk,hm',hiff,rfl,htm,t11,t51,t52,t53⟩ L hN hJ;have hn:=hk.1;have hw':=od hw hk hm;have htm':tb≠mb:=fun e=>by subst e;have h2:H.get tb=_:=hm;rw[h2] at hgt;cases hgt
 have hgt':=(hk.2 tb htb htm').trans hgt;have rt:=ae hgt';rw[pI tm htm,t11,t51,t52,t53];by_cases hil:i < l.length
 ·have r1:=hw'.read kJ i hil;have kk:KeepB mb H ((H'.new (.cells false 138 2 [.int .u8 0,.int .i64 0])).put H'.n (.cells false 138 2 (Cell.cs l[i]))):=hk.trans (KeepB.of Keep.newPut)
  have hm2:MapIds ((H'.new (.cells false 138 2 [.int .u8 0,.int .i64 0])).put H'.n (.cells false 138 2 (Cell.cs l[i]))) mb ks':=by
   show Heap.get _ _=_
   rw[aa,if_neg (by omega),aj,if_neg (by omega)];exact hm'
  obtain⟨ob,hup,hob⟩:=hm2.upd l[i] lo hlm;simp only[eC] at hup;simp(disch:=omega) only[ai,↓ah,seval,rv,↓hw.idx,r1,eC,rt,↓hup];refine hN (k - 1) _ _ (by omega) ⟨i+1,if l[i]∈ks' then ks' else ks'++[l[i]],by omega,kk.trans KeepB.put,?_,fun a=>?_,rfl,rfl,rfl,rfl,rfl,rfl⟩
  ·show Heap.get _ _=_
   rw[aa,if_pos rfl,hob]
  ·rw[List.take_succ_eq_append_getElem hil,List.mem_append,List.mem_singleton];by_cases hin:l[i]∈ks'
   ·rw[if_pos hin,hiff];refine⟨fun h=>h.elim .inl fun h=>.inr (.inl h),fun h=>?_⟩;rcases h with h | h | rfl
    ·exact .inl h
    ·exact .inr h
    ·exact(hiff _).1 hin
   ·rw[if_neg hin,List.mem_append,List.mem_singleton,hiff];exact or_assoc
 ·rw[List.take_of_length_le (by omega)] at hiff;simp(disch:=omega) only[ai,↓ah,seval,rv,hJ];exact hQ _ _ ks' hk hm' hiff
theorem F6{v:SV}{l ks:List Id}{R tb mb lo:Nat}{y3 y4:IV}{mk:List Nat}{H:Heap}{Q:Out→Heap→Prop}{tm:List IV}(hv:Sl H v l)(hl:l.length≤1000000)(hR:R < H.n)(hlo:lo≤R)(gR:H.get R=some (.cells false 26 2 [.nilSlice,.nilSlice]))
  (hgt:H.get tb=some (.cells false 193 1 [.map mb])) (htb:tb < H.n) (hmb:mb < H.n) (hlm:lo≤mb) (hRm:R < mb) (hm:MapIds H mb ks) (htm:tm.length=77) (t2:tm.getD 2 IV.undef=v.iv) (t3:tm.getD 3 IV.undef=y3) (t4:tm.getD 4 IV.undef=y4) (t6:tm.getD 6 IV.undef=.ptr R 0) (t11:tm.getD 11 IV.undef=.ptr tb 0) (t60:tm.getD 60 IV.undef=v.iv) (t61:tm.getD 61 IV.undef=.int .i64 l.length) (t62:tm.getD 62 IV.undef=.int .i64 0)
  (hQ:(∀a∈l,a∉ks)→l.Nodup→∀H' tm',KeepB mb H H'→tm'.length=77→tm'.getD 2 IV.undef=v.iv→tm'.getD 3 IV.undef=y3→tm'.getD 4 IV.undef=y4→tm'.getD 6 IV.undef=.ptr R 0→Q (.ex (.jmp (.exit 6)) ⟨tm',mk⟩) H')
  (hE:¬((∀a∈l,a∉ks)∧l.Nodup)→∀H' tm',H.n≤H'.n→(∀x,x < R→H'.get x=H.get x)→H'.get R=some (.cells false 26 2 [.nilSlice,.nilSlice])→tm'.length=77→tm'.getD 6 IV.undef=.ptr R 0→tm'.getD 7 IV.undef=.int .i64 8→(∀x,x < H.n→x≠mb→x≠R→H'.get x=H.get x)→Q (.ex (.jmp .ret) ⟨tm',mk⟩) H'):W E0 lo (.code (.loop (sK Tryz.f130 2431)) none ⟨tm,mk⟩) H Q:=by
 refine aM (fun k fr H'=>∃i ks',i+k=l.length∧KeepB mb H H'∧MapIds H' mb ks'∧(∀a,a∈ks'↔a∈ks∨a∈l.take i)∧(∀a∈l.take i,a∉ks)∧(l.take i).Nodup∧fr.marks=mk∧fr.tm.length=77∧fr.tm.getD 2 IV.undef=v.iv∧fr.tm.getD 3 IV.undef=y3∧fr.tm.getD 4 IV.undef=y4∧fr.tm.getD 6 IV.undef=.ptr R 0∧fr.tm.getD 11 IV.undef=.ptr tb 0∧fr.tm.getD 60 IV.undef=v.iv∧fr.tm.getD 61 IV.undef=.int .i64 l.length∧fr.tm.getD 62 IV.undef=.int .i64 i) ?_ l.length ⟨0,ks,by omega,KeepB.refl _ _,hm,by simp,by simp,by simp,rfl,htm,t2,t3,t4,t6,t11,t60,t61,t62⟩;clear htm t2 t3 t4 t6 t11 t60 t61 t62;rintro k ⟨tm,mk⟩ H' ⟨i,ks',hi,hk,hm',hiff,hno,hnd,rfl,htm,t2,t3,t4,t6,t11,t60,t61,t62⟩ L hN hJ;have hn:=hk.1;have hw':=od hv hk hm;have htm':tb≠mb:=fun e=>by subst e;have h2:H.get tb=_:=hm;rw[h2] at hgt;cases hgt
 have hgt':=(hk.2 tb htb htm').trans hgt;have gR':=(hk.2 R hR (by omega)).trans gR;have rt:=ae hgt';rw[pI tm htm,t2,t3,t4,t6,t11,t60,t61,t62];by_cases hil:i < l.length
 ·have r1:=hw'.read kJ i hil;have kk:KeepB mb H ((H'.new (.cells false 138 2 [.int .u8 0,.int .i64 0])).put H'.n (.cells false 138 2 (Cell.cs l[i]))):=hk.trans (KeepB.of Keep.newPut)
  have hm2:MapIds ((H'.new (.cells false 138 2 [.int .u8 0,.int .i64 0])).put H'.n (.cells false 138 2 (Cell.cs l[i]))) mb ks':=by
   show Heap.get _ _=_
   rw[aa,if_neg (by omega),aj,if_neg (by omega)];exact hm'
  have hlk:=hm2.look l[i];by_cases hin:l[i]∈ks'
  ·rw[decide_eq_true hin] at hlk;simp only[eC] at hlk;simp(disch:=omega) only[ai,↓ah,seval,rv,↓hv.idx,r1,eC,rt,↓hlk,gR',hJ];refine hE ?_ _ _ (by simp only[af,ac];omega) (fun x hx=>?_) (by rw[aa,if_pos rfl]) rfl rfl rfl (fun x h1 h2 h3=>?_)
   ·rintro⟨h1,h2⟩
    rcases(hiff _).1 hin with h | h
    ·exact h1 _ (List.getElem_mem hil) h
    ·have:=xH (ks:=[]) hil (by simpa using h)
     exact this (by simpa using h2)
   ·rw[aa,if_neg (by omega),aa,if_neg (by omega),aj,if_neg (by omega)];exact hk.2 x (by omega) (by omega)
   ·rw[aa,if_neg (Ne.symm h3),aa,if_neg (by omega),aj,if_neg (by omega)];exact hk.2 x h1 h2
  ·rw[decide_eq_false hin] at hlk;obtain⟨ob,hup,hob⟩:=hm2.upd l[i] lo hlm;rw[if_neg hin] at hob;simp only[eC] at hup hlk;simp(disch:=omega) only[ai,↓ah,seval,rv,↓hv.idx,r1,eC,rt,↓hlk,↓hup];have hnk:l[i]∉ks:=fun h=>hin ((hiff _).2 (.inl h));have hnt:l[i]∉l.take i:=fun h=>hin ((hiff _).2 (.inr h));refine hN (k - 1) _ _ (by omega) ⟨i+1,ks'++[l[i]],by omega,kk.trans KeepB.put,?_,fun a=>?_,fun a ha=>?_,?_,rfl,rfl,rfl,rfl,rfl,rfl,rfl,rfl,rfl,rfl⟩
   ·show Heap.get _ _=_
    rw[aa,if_pos rfl,hob]
   ·rw[List.take_succ_eq_append_getElem hil,List.mem_append,List.mem_append,List.mem_singleton,hiff];exact or_assoc
   ·rw[List.take_succ_eq_append_getElem hil,List.mem_append,List.mem_singleton] at ha;rcases ha with ha | rfl
    ·exact hno a ha
    ·exact hnk
   ·rw[List.take_succ_eq_append_getElem hil];exact vJ hnd hnt
 ·rw[List.take_of_length_le (by omega)] at hno hnd;simp(disch:=omega) only[ai,↓ah,seval,rv,hJ];exact hQ hno hnd _ _ hk rfl rfl rfl rfl rfl
theorem UO{a b c d:Int}(h:a=c∧b=d):((a==c)&&(b==d))=true:=by simp[h.1,h.2]
theorem UP{a b c d:Int}(h:¬(a=c∧b=d)):((a==c)&&(b==d))=false:=by
 rw[Bool.and_eq_false_iff];by_cases h1:a=c
 ·right;simp;exact fun e=>h ⟨h1,e⟩
 ·left;simpa using h1
def jM(t:List (List Id))(nb na:Int)(l:List Id):Int:=
 if an nb na≠0 then 1 else if l.all bx=false then 1 else if l.length>4 then 9 else if (∀a∈l,a∉(t.set (ix nb na) []).flatten)∧l.Nodup then 0 else 8
def InS(t:List (List Id))(k m:Nat)(a:Id):Prop:=∃j,j < m∧j≠k∧a∈t.getD j []
theorem InS.succ(t:List (List Id))(k m:Nat)(a:Id):InS t k (m+1) a↔InS t k m a∨(m≠k∧a∈t.getD m []):=by
 constructor
 ·rintro⟨j,h1,h2,h3⟩
  by_cases hj:j=m
  ·subst hj;exact .inr ⟨h2,h3⟩
  ·exact .inl ⟨j,by omega,h2,h3⟩
 ·rintro(⟨j,h1,h2,h3⟩ | ⟨h2,h3⟩)
  ·exact⟨j,by omega,h2,h3⟩
  ·exact⟨m,by omega,h2,h3⟩
theorem InS.ext{t:List (List Id)}{m n:Nat}(k:Nat)(a:Id)(h:m≤n)(h0:∀j,m≤j→j < n→t.getD j []=[]):InS t k m a↔InS t k n a:=by
 constructor
 ·rintro⟨j,h1,h2,h3⟩;exact⟨j,by omega,h2,h3⟩
 ·rintro⟨j,h1,h2,h3⟩
  refine⟨j,?_,h2,h3⟩
  by_cases hj:j < m
  ·exact hj
  ·rw[h0 j (by omega) h1] at h3;cases h3
theorem InS.all{t:List (List Id)}(ht:t.length=80){k:Nat}(hk:k < 80)(a:Id):InS t k 80 a↔a∈(t.set k []).flatten:=by
 rw[List.mem_flatten]
 constructor
 ·rintro⟨j,h1,h2,h3⟩
  refine⟨t.getD j [],?_,h3⟩
  rw[br (by omega)]
  have:(t.set k [])[j]'(by rw[List.length_set];omega)=t[j]'(by omega):=List.getElem_set_ne (Ne.symm h2) _
  rw[←this];exact List.getElem_mem _
 ·rintro⟨x,h1,h2⟩
  obtain⟨j,hj,rfl⟩:=List.mem_iff_getElem.1 h1;rw[List.length_set] at hj;by_cases hjk:k=j
  ·subst hjk;rw[List.getElem_set_self] at h2;cases h2
  ·rw[List.getElem_set_ne hjk] at h2;exact⟨j,by omega,Ne.symm hjk,by rw[br hj];exact h2⟩
theorem Fy(t:List (List Id)){i:Nat}(h:i < 40):(aN t).getD i []=t.getD i []:=by
 unfold aN;rw[bX,xS _ _ _ h]
theorem Fz(t:List (List Id))(i:Nat):(aG t).getD i []=t.getD (40+i) []:=by
 unfold aG;rw[bX,xT]
theorem IT{f b v:SV}{t:List (List Id)}{l:List Id}(nb na:Int){H:Heap}{lo:Nat}{Q:Out→Heap→Prop}(hV:Valid t)(hf:Sl2 H f (aN t))(hb:Sl2 H b (aG t))(hv:Sl H v l)(hl:l.length≤1000000)(hlo:lo≤H.n)
  (he:∀H',Keep H.n H H'→jM t nb na l≠0→Q (.val (.tuple [bv .nil .nil,.int .i64 (jM t nb na l)])) H')
  (h:∀H' f' b',Keep H.n H H'→jM t nb na l=0→RE H.n H' f' b' (aN (t.set (ix nb na) l)) (aG (t.set (ix nb na) l))→Q (.val (.tuple [bv f' b',.int .i64 0])) H'):W E0 lo (.call 130 [bv f b,.agg [.int .u8 nb,.int .i64 na],v.iv]) H Q:=by
 have hl6:∀l∈t,l.length≤1000000:=fun l hl=>by have:=hV.four l hl;omega
 have hlF:=jI t;have hlB:=gJ hV.len;have h6F:∀l∈aN t,l.length≤1000000:=fun l hl=>hl6 l (eD hl);have h6B:∀l∈aG t,l.length≤1000000:=fun l hl=>hl6 l (cV hl);refine W.pure aX hlo ?_;rw[XT];simp(disch:=omega) only[ai,↓ah,seval,sq,bv];generalize hH_H1:Heap.new _ _=H1;have hnH1:H1.n=H.n+3:=by rw[←hH_H1];rfl
 have g0:=congrArg (fun h0=>Heap.get h0 (H.n)) hH_H1.symm;simp(disch:=omega) only[ai,↓ah,seval] at g0;have g1:=congrArg (fun h0=>Heap.get h0 (H.n+1)) hH_H1.symm;simp(disch:=omega) only[ai,↓ah,seval] at g1;have g2:=congrArg (fun h0=>Heap.get h0 (H.n+2)) hH_H1.symm;simp(disch:=omega) only[ai,↓ah,seval] at g2
 have kH1:Keep H.n H H1:=⟨by omega,fun x hx _=>by
  have gx:=congrArg (fun h0=>Heap.get h0 x) hH_H1.symm;simp(disch:=omega) only[ai,↓ah,seval] at gx;exact gx⟩
 clear hH_H1;rw[show IV.agg [f.iv,b.iv]=bv f b from rfl];refine qZ (hf.keep kH1) (hb.keep kH1) (by omega) (by omega) h6F h6B (by omega) fun H2 k2=>?_;rw[hV.check];have hn2:=k2.1;replace g0:=(k2.2 _ (by omega) (by omega)).trans g0;replace g1:=(k2.2 _ (by omega) (by omega)).trans g1;replace g2:=(k2.2 _ (by omega) (by omega)).trans g2;replace kH1:Keep H.n H H2:=kH1.trans (k2.lower (by omega));clear k2;have r1:=ae g1;simp(disch:=omega) only[ai,↓ah,seval,sq,r1];refine bU nb na (by omega) fun H3 k3=>?_;have hn3:=k3.1;replace g0:=(k3.2 _ (by omega) (by omega)).trans g0;replace g1:=(k3.2 _ (by omega) (by omega)).trans g1;replace g2:=(k3.2 _ (by omega) (by omega)).trans g2;replace kH1:Keep H.n H H3:=kH1.trans (k3.lower (by omega));clear k3 r1;by_cases c1:an nb na=0
 case neg=>
  have e1:=(jd nb na).resolve_left c1;have ej:jM t nb na l=1:=by unfold jM;rw[if_pos c1]
  rw[ej] at he;simp(disch:=omega) only[ai,↓ah,seval,sq,e1,g2];exact fun hk=>he _ hk (by omega)
 simp(disch:=omega) only[ai,↓ah,seval,yZ,yY,yX,yW,yV,yU,yT,yS,yR,yQ,uW,uV,uU,uT,uS,uR,uQ,uP,uO,uN,uM,uL,uK,uJ,uI,uH,uG,uF,uE,uD,AS,(ax Tryz.f130 1),Hy,c1,↓hv.ln]
 refine F7 (R:=H.n+2) (v:=v) (l:=l) (by omega) (by omega) (hv.keep kH1) hl g2 rfl rfl rfl rfl rfl rfl rfl rfl rfl ?_ ?_
 case _=>
  intro hall H4 tm4 k4 htm4 u2 u3 u4 u6 u7;have hn4:=k4.1;replace g0:=(k4.2 _ (by omega) (by omega)).trans g0;replace g1:=(k4.2 _ (by omega) (by omega)).trans g1;replace g2:=(k4.2 _ (by omega) (by omega)).trans g2;replace kH1:Keep H.n H H4:=kH1.trans (k4.lower (by omega));clear k4;rw[pI tm4 htm4,u2,u3,u4,u6,u7];by_cases c3:l.length>4
  ·have ej:jM t nb na l=9:=by unfold jM;rw[if_neg (by simp[c1]),if_neg (by simp[hall]),if_pos c3]
   rw[ej] at he;simp(disch:=omega) only[ai,↓ah,seval,sq,↓hv.ln,g2];exact fun hk=>he _ hk (by omega)
  have r0:=ae g0;simp(disch:=omega) only[ai,↓ah,seval,sq,Tz,↓hv.ln,r0,SR];obtain⟨k,hk⟩:∃k,k=ix nb na:=⟨_,rfl⟩;have hk80:k < 80:=by rw[hk];exact(GN c1).2.2
  obtain⟨hb01,hna1,hna2⟩:=dV c1;have hkk:(k:Int)=40*nb+na - 1:=by rw[hk];unfold ix;omega
  generalize hH5:Heap.new _ _=H5;have hn5:H5.n=H4.n+5:=by rw[←hH5];rfl
  have f0:=congrArg (fun h0=>Heap.get h0 (H4.n)) hH5.symm;simp(disch:=omega) only[ai,↓ah,seval] at f0;have f1:=congrArg (fun h0=>Heap.get h0 (H4.n+1)) hH5.symm;simp(disch:=omega) only[ai,↓ah,seval] at f1;have f2:=congrArg (fun h0=>Heap.get h0 (H4.n+2)) hH5.symm;simp(disch:=omega) only[ai,↓ah,seval] at f2;have f3:=congrArg (fun h0=>Heap.get h0 (H4.n+3)) hH5.symm;simp(disch:=omega) only[ai,↓ah,seval] at f3;have f4:=congrArg (fun h0=>Heap.get h0 (H4.n+4)) hH5.symm;simp(disch:=omega) only[ai,↓ah,seval] at f4
  have k5:Keep H4.n H4 H5:=⟨by omega,fun x hx _=>by
   have gx:=congrArg (fun h0=>Heap.get h0 x) hH5.symm;simp(disch:=omega) only[ai,↓ah,seval] at gx;exact gx⟩
  clear hH5;replace g0:=(k5.2 _ (by omega) (by omega)).trans g0;replace g1:=(k5.2 _ (by omega) (by omega)).trans g1;replace g2:=(k5.2 _ (by omega) (by omega)).trans g2;replace kH1:Keep H.n H H5:=kH1.trans (k5.lower (by omega));clear k5
  have hstep:∀(bed:Int) (i:Nat) (w:SV) (s ks:List Id) (H':Heap),s.length≤1000000→H5.n≤H'.n→(∀x,x < H5.n→x≠H4.n→H'.get x=H5.get x)→MapIds H' H4.n ks→Sl H' w s→∀K:Out→Heap→Prop,(∀H'' ks',(∀x,x < H5.n→x≠H4.n→H''.get x=H5.get x)→MapIds H'' H4.n ks'→(∀a,a∈ks'↔a∈ks∨(¬(bed=nb∧(i:Int)+1=na)∧a∈s))→H'.n≤H''.n→(∀x,H5.n≤x→x < H'.n→H''.get x=H'.get x)→K (.val (.bool true)) H'')→W E0 H.n (.apply (.yield (H4.n+4)) [.agg [.int .u8 bed,.int .i64 ((i:Int)+1)],w.iv]) H' K:=by
   intro bed i w s ks H' hs hn hkp hm hw K hK;have e1:=(hkp (H.n+1) (by omega) (by omega)).trans g1;have e4:=(hkp (H4.n+4) (by omega) (by omega)).trans f4;have et:=(hkp (H4.n+1) (by omega) (by omega)).trans f1;have r1:=ae e1;by_cases hne:bed=nb∧(i:Int)+1=na
   ·have eb:=UO hne;simp(disch:=omega) only[ai,↓ah,seval,sq,e4,r1,eb];refine hK _ ks (fun x h1 h2=>?_) ?_ (fun a=>⟨.inl,fun h=>h.elim id fun h=>absurd hne h.1⟩) ?_ (fun x h1 h2=>?_)
    ·by_cases hx:x=H4.n+4
     ·subst hx;simp(disch:=omega) only[ai,↓ah,seval,f4]
     ·rw[aa,if_neg (Ne.symm hx),aa,if_neg (Ne.symm hx),aa,if_neg (by omega),aj,if_neg (by omega)];exact hkp x h1 h2
    ·show Heap.get _ _=_
     rw[aa,if_neg (by omega),aa,if_neg (by omega),aa,if_neg (by omega),aj,if_neg (by omega)];exact hm
    ·simp only[af,ac];omega
    ·rw[aa,if_neg (by omega),aa,if_neg (by omega),aa,if_neg (by omega),aj,if_neg (by omega)]
   ·have eb:=UP hne;simp(disch:=omega) only[ai,↓ah,seval,sq,e4,r1,eb,↓hw.ln];generalize hH6:Heap.put _ _ _=H6;have n6:H6.n=H'.n+1:=by rw[←hH6];rfl
    have q4:=congrArg (fun h0=>Heap.get h0 (H4.n+4)) hH6.symm;simp(disch:=omega) only[ai,↓ah,seval] at q4
    have k6:∀x,x < H'.n→x≠H4.n+4→H6.get x=H'.get x:=fun x hx h4=>by
     rw[←hH6,aa,if_neg (Ne.symm h4),aa,if_neg (by omega),aj,if_neg (by omega)]
    clear hH6;have hw6:Sl H6 w s:=hw.same (by omega) fun hl=>k6 _ (hw.blk_lt hl) (hw.off hl e4 (by simp));have hm6:MapIds H6 H4.n ks:=(k6 _ (by omega) (by omega)).trans hm;refine MD (ks:=ks) (tb:=H4.n+1) hw6 hs ((k6 _ (by omega) (by omega)).trans et) (by omega) (by omega) (by omega) hm6 rfl rfl rfl rfl rfl ?_;intro H7 tm7 ks7 k7 hm7 hiff;have hn7:=k7.1;have q7:=(k7.2 (H4.n+4) (by omega) (by omega)).trans q4;simp(disch:=omega) only[ai,↓ah,seval,sq,q7];refine hK _ ks7 (fun x h1 h2=>?_) ?_ (fun a=>(hiff a).trans (or_congr_right ⟨fun h=>⟨hne,h⟩,fun h=>h.2⟩)) ?_ (fun x h1 h2=>?_)
    ·by_cases hx:x=H4.n+4
     ·subst hx;simp(disch:=omega) only[ai,↓ah,seval,f4]
     ·rw[aa,if_neg (Ne.symm hx),k7.2 x (by omega) h2,k6 x (by omega) hx];exact hkp x h1 h2
    ·show Heap.get _ _=_
     rw[aa,if_neg (by omega)];exact hm7
    ·simp only[af];omega
    ·rw[aa,if_neg (by omega),k7.2 x (by omega) (by omega),k6 x h2 (by omega)]
  have r2:=ae f2;have kPd:∀H',H5.n≤H'.n→(∀x,x < H5.n→x≠H4.n→H'.get x=H5.get x)→Keep H.n H H':=fun H' a1 a2=>⟨by have:=kH1.1;omega,fun x h1 _=>(a2 x (by omega) (by omega)).trans (kH1.2 x h1 h1)⟩;refine xJ (f:=f) (b:=b) (fs:=aN t) (bs:=aG t) (fun c i H'=>H5.n≤H'.n∧(∀x,x < H5.n→x≠H4.n→H'.get x=H5.get x)∧∃ks,MapIds H' H4.n ks∧∀a,a∈ks↔InS t k (40*c+i) a) (fun _=>False) (by omega) (by omega) (by omega) (by omega) (by rw[r2];rfl) ?_ ?_ ?_ ?_ ?_ ?_ ?_ ?_ ?_
  ·rintro c i H' H'' ⟨a1,a2,ks,a3,a4⟩ b1 b2;exact⟨by omega,fun x h1 h2=>(b2 x h1).trans (a2 x h1 h2),ks,(b2 _ (by omega)).trans a3,a4⟩
  ·exact fun _ _ h _ _=>h
  ·rintro c i H' ⟨a1,a2,a3⟩;exact⟨hf.keep (kPd H' a1 a2),hb.keep (kPd H' a1 a2)⟩
  ·rintro i w H' hi h4 hn ⟨a1,a2,ks,a3,a4⟩ hw K hK hK';refine hstep 0 i w (aN t)[i] ks H' (h6F _ (List.getElem_mem _)) a1 a2 a3 hw K fun H'' ks' c1 c2 c3 c4 c5=>hK H'' ⟨by omega,c1,ks',c2,fun a=>?_⟩ c4 c5;rw[c3,a4,show 40*0+(i+1)=40*0+i+1 by omega,InS.succ,Nat.mul_zero,Nat.zero_add,←Fy t h4,br hi];exact or_congr_right (and_congr_left fun _=>by omega)
  ·rintro i w H' hi h4 hn ⟨a1,a2,ks,a3,a4⟩ hw K hK hK';refine hstep 1 i w (aG t)[i] ks H' (h6B _ (List.getElem_mem _)) a1 a2 a3 hw K fun H'' ks' c1 c2 c3 c4 c5=>hK H'' ⟨by omega,c1,ks',c2,fun a=>?_⟩ c4 c5;rw[c3,a4,show 40*1+(i+1)=40*1+i+1 by omega,InS.succ,Nat.mul_one,←Fz t i,br hi];exact or_congr_right (and_congr_left fun _=>by omega)
  ·exact⟨Nat.le_refl _,fun _ _ _=>rfl,[],f0,fun a=>⟨fun h=>(by cases h),fun⟨j,hj,_⟩=>by omega⟩⟩
  ·rintro H' ⟨a1,a2,ks,a3,a4⟩;refine⟨a1,a2,ks,a3,fun a=>(a4 a).trans ?_⟩;refine InS.ext k a (by omega) fun j h1 h2=>?_;rw[←Fy t (by omega)];exact iH (by omega)
  ·rintro H' ⟨a1,a2,ks,a3,a4⟩ hn
   have hset:∀a,a∈ks↔a∈(t.set k []).flatten:=fun a=>(a4 a).trans ((InS.ext k a (by omega) fun j h1 h2=>by
    rw[show j=40+(j - 40) by omega,←Fz];exact iH (by omega)).trans (InS.all hV.len hk80 a))
   have e2:=(a2 (H.n+2) (by omega) (by omega)).trans g2;have e3:=(a2 (H4.n+3) (by omega) (by omega)).trans f3;have e4:=(a2 (H4.n+4) (by omega) (by omega)).trans f4;have et:=(a2 (H4.n+1) (by omega) (by omega)).trans f1;have e0:=(a2 H.n (by omega) (by omega)).trans g0;have e1:=(a2 (H.n+1) (by omega) (by omega)).trans g1;have kk:=kPd H' a1 a2;simp(disch:=omega) only[ai,↓ah,seval,yZ,yY,yX,yW,yV,yU,yT,yS,yR,yQ,uW,uV,AT,uU,uT,uS,uR,uQ,uP,uO,uN,uM,uL,uK,uJ,uI,uH,uG,uF,uE,uD,(ax Tryz.f130 1),Hy,e4,↓hv.ln];generalize hH8:Heap.put _ _ _=H8;have n8:H8.n=H'.n:=by rw[←hH8];rfl
   have k8:∀x,x≠H4.n+4→H8.get x=H'.get x:=fun x hx=>by rw[←hH8,aa,if_neg (Ne.symm hx)]
   clear hH8;replace e0:=(k8 _ (by omega)).trans e0;replace e1:=(k8 _ (by omega)).trans e1;replace e2:=(k8 _ (by omega)).trans e2;replace e3:=(k8 _ (by omega)).trans e3;replace et:=(k8 _ (by omega)).trans et;replace a3:MapIds H8 H4.n ks:=(k8 _ (by omega)).trans a3;have kk8:Keep H.n H H8:=⟨by have:=kk.1;omega,fun x h1 h2=>(k8 x (by omega)).trans (kk.2 x h1 h2)⟩;refine F6 (R:=H.n+2) (tb:=H4.n+1) (ks:=ks) (hv.keep kk8) hl (by omega) (by omega) e2 et (by omega) (by omega) (by omega) (by omega) a3 rfl rfl rfl rfl rfl rfl rfl rfl rfl ?_ ?_
   case _=>
    intro hno hnd H9 tm9 k9 htm9 x2 x3 x4 x6;have hn9:=k9.1;replace e0:=(k9.2 _ (by omega) (by omega)).trans e0;replace e1:=(k9.2 _ (by omega) (by omega)).trans e1;replace e2:=(k9.2 _ (by omega) (by omega)).trans e2;replace e3:=(k9.2 _ (by omega) (by omega)).trans e3;have kk9:Keep H.n H H9:=⟨by have:=kk8.1;omega,fun x h1 h2=>(k9.2 x (by omega) (by omega)).trans (kk8.2 x h1 h2)⟩
    have ej:jM t nb na l=0:=by
     unfold jM;rw[if_neg (by simp[c1]),if_neg (by simp[hall]),if_neg c3,if_pos ⟨fun a ha hin=>hno a ha ((hset a).2 (by rw[hk];exact hin)),hnd⟩]
    rw[pI tm9 htm9,x2,x3,x4,x6];have r0:=ae e0;have r1:=ae e1;simp(disch:=omega) only[ai,↓ah,seval,sq,r0,r1];have ena:na=((na.toNat:Nat):Int):=by omega
    rw[show IV.agg [f.iv,b.iv]=bv f b from rfl,ena];refine rJ nb na.toNat (hf.keep kk9) (hb.keep kk9) (hv.keep kk9) (by omega) (by omega) (by omega) h6F h6B hl (by omega) fun H10 f10 b10 k10 s10=>?_;rw[←ena];obtain⟨p1,p2⟩:=vz hV.len c1 l;rw[p1,p2] at s10;have hn10:=k10.1;replace e2:=(k10.2 _ (by omega) (by omega)).trans e2;replace e3:=(k10.2 _ (by omega) (by omega)).trans e3;simp(disch:=omega) only[ai,↓ah,seval,sq,e2,e3,bv];refine fun hk'=>h _ f10 b10 hk' ej ⟨Sl2F.lower (n0:=H9.n) ?_ (by omega),Sl2F.lower (n0:=H9.n) ?_ (by omega),s10.2.2⟩
    ·exact(s10.1.put (by omega)).put (by omega)
    ·exact(s10.2.1.put (by omega)).put (by omega)
   case _=>
    intro hbad H9 tm9 hn9 k9 g9 htm9 x6 x7 k9';replace e3:=(k9' _ (by omega) (by omega) (by omega)).trans e3
    have ej:jM t nb na l=8:=by
     unfold jM;rw[if_neg (by simp[c1]),if_neg (by simp[hall]),if_neg c3,if_neg];rintro⟨h1,h2⟩;exact hbad ⟨fun a ha hin=>h1 a ha (by rw[←hk];exact(hset a).1 hin),h2⟩
    rw[ej] at he;rw[pI tm9 htm9,x6,x7];have r9:=ae g9;simp(disch:=omega) only[ai,↓ah,seval,sq,r9,e3];exact fun hk=>he _ hk (by omega)
  ·exact fun _ h=>h.elim
 case _=>
  intro hall H4 tm4 k4 g4 htm4 u6 u7;have ej:jM t nb na l=1:=by unfold jM;rw[if_neg (by simp[c1]),if_pos hall]
  rw[ej] at he;rw[pI tm4 htm4,u6,u7];have r4:=ae g4;simp(disch:=omega) only[ai,↓ah,seval,sq,r4];exact fun hk=>he _ hk (by omega)
end Go.Iso.Gen
end
