/-
  stacks of loops.
-/
import Derived.Test.YtpnbiapmndbhgaaGreatDoorGen
set_option linter.unusedSimpArgs false
set_option linter.unusedVariables false
set_option maxHeartbeats 4000000
set_option maxRecDepth 10000
set_option linter.defProp false
section
namespace Go.Iso.Gen
open Go.Iso
structure Id where
 y:Int
 n:Int
 deriving DecidableEq,Inhabited
instance:Cell Id where
 z:=2
 cs a:=[.int .u8 a.y,.int .i64 a.n]
 len _:=rfl
 one _:=rfl
 pos:=by omega
theorem fC(a:Id):Cell.cs a=[.int .u8 a.y,.int .i64 a.n]:=rfl
theorem lB:Cell.z Id=2:=rfl
theorem gw{Q:Out→Heap→Prop}{H:Heap}{lo:Nat}{f:FuncId}{args:List IV}(v:IV)(hlo:lo≤H.n)(h:∀H',Keep H.n H H'→Q (.val v) H')(k:∀R:Out→Heap→Prop,(∀H',R (.val v) H')→W E0 H.n (.call f args) H R):W E0 lo (.call f args) H Q:=
 W.pure bJ hlo (k _ fun H' hk=>h H' hk)
def bM(a:Id):Bool:=decide (a.y≥1)&&(decide (a.y≤6)&&(decide (a.n≥0)&&decide (a.n < 2048)))
theorem xE(a:Id){H:Heap}{lo:Nat}{Q:Out→Heap→Prop}(hlo:lo≤H.n)(h:∀H',Keep H.n H H'→Q (.val (.bool (bM a))) H'):W E0 lo (.call 111 [.agg (Cell.cs a)]) H Q:=by
 refine gw _ hlo h fun R hR=>?_;rw[ar6];unfold bM at hR
 cases e0:decide (a.y≥1)<;>cases e1:decide (a.y≤6)<;>cases e2:decide (a.n≥0)<;>cases e3:decide (a.n < 2048)<;>simp only[e0,e1,e2,e3,wY,Bool.and_false] at hR<;>simp(disch:=omega) only[ak,↓aj,seval,asR,e0,e1,e2,e3,fC]<;>exact hR _
def av(bed at_:Int):Int:=if (bed=0∨bed=1)∧1≤at_∧at_≤40 then 0 else 1
theorem cJ(bed at_:Int){H:Heap}{lo:Nat}{Q:Out→Heap→Prop}(hlo:lo≤H.n)(h:∀H',Keep H.n H H'→Q (.val (.int .i64 (av bed at_))) H'):W E0 lo (.call 88 [.agg [.int .u8 bed,.int .i64 at_]]) H Q:=by
 refine gw _ hlo h fun R hR=>?_;rw[c88];unfold av at hR;by_cases h1:(bed=0∨bed=1)∧1≤at_∧at_≤40
 ·rw[if_pos h1] at hR;rcases h1 with⟨rfl | rfl,h1,h2⟩<;>simp(disch:=omega) only[ak,↓aj,seval,B88]<;>exact hR _
 ·rw[if_neg h1] at hR;by_cases h2:bed=0
  ·subst h2;by_cases h3:at_ < 1
   ·simp(disch:=omega) only[ak,↓aj,seval,B88];exact hR _
   ·simp(disch:=omega) only[ak,↓aj,seval,B88];exact hR _
  ·by_cases h2:bed=1
   ·subst h2;by_cases h3:at_ < 1
    ·simp(disch:=omega) only[ak,↓aj,seval,B88];exact hR _
    ·simp(disch:=omega) only[ak,↓aj,seval,B88];exact hR _
   ·simp(disch:=omega) only[ak,↓aj,seval,B88];exact hR _
theorem jg{v:SV}{l:List Id}{H:Heap}{lo:Nat}{Q:Out→Heap→Prop}(hv:Sl H v l)(hl:l.length≤1000000)(hlo:lo≤H.n)
  (h:∀H' b,Keep H.n H H'→H.n≤b→Own H' b 138 l.length l→Q (.val (SV.sl b 0 l.length l.length true).iv) H'):W E0 lo (.call 162 [v.iv]) H Q:=by
 refine W.pure bJ hlo ?_;rw[aru];obtain⟨H2,e1,e2,e3,e4⟩:=iw hv (z:=2) rfl 138 H.n [IV.int .u8 0,.int .i64 0] rfl (au _);simp(disch:=omega) only[ak,↓aj,seval,asF,↓hv.ln,↓e1,Int.reducePow];exact fun hk=>h _ _ hk (au _) e4
theorem Eg{v:SV}{l:List SV}{H:Heap}{lo:Nat}{Q:Out→Heap→Prop}(hv:Sl H v l)(hl:l.length≤1000000)(hlo:lo≤H.n)
  (h:∀H' b,Keep H.n H H'→H.n≤b→Own H' b 31 l.length l→Q (.val (SV.sl b 0 l.length l.length true).iv) H'):W E0 lo (.call 213 [v.iv]) H Q:=by
 refine W.pure bJ hlo ?_;rw[aq9];obtain⟨H2,e1,e2,e3,e4⟩:=iw hv (z:=1) rfl 31 H.n [IV.nilSlice] rfl (au _);simp(disch:=omega) only[ak,↓aj,seval,asu,↓hv.ln,↓e1,Int.reducePow];exact fun hk=>h _ _ hk (au _) e4
def akx(tm:List IV)(h:tm.length=33):=(cS tm 33 h).trans (by simp only[List.range,List.range.loop,bI,bj];exact rfl)
def akz(tm:List IV)(h:tm.length=20):=(cS tm 20 h).trans (by simp only[List.range,List.range.loop,bI,bj];exact rfl)
theorem Od{v:SV}{ls:List (List Id)}{H:Heap}{lo:Nat}{Q:Out→Heap→Prop}(hv:Sl2 H v ls)(hl:ls.length≤1000000)
  (h:Q (.val (.int .i64 (aU ls))) H):W E0 lo (.call 214 [v.iv]) H Q:=by
 rw[aq8];simp(disch:=omega) only[ak,↓aj,seval,anz,↓hv.ln];refine aP (fun k fr H'=>k≤ls.length∧(∀i (h:i < ls.length),k≤i→ls[i]=[])∧H'=H∧fr.marks=[]∧fr.tm.length=20∧fr.tm.getD 0 IV.undef=v.iv∧fr.tm.getD 3 IV.undef=.int .i64 k) ?_ ls.length ⟨by omega,fun i h1 h2=>by omega,rfl,rfl,rfl,rfl,rfl⟩;rintro k ⟨tm,mk⟩ H' ⟨hk,hp,rfl,rfl,htm,h0,h3⟩ L hN hJ;rw[akz tm htm,h0,h3];by_cases hk0:k=0
 ·have:k=aU ls:=tO hk hp (fun m _ h=>by omega)
  subst hk0;rw[←this] at h;simp(disch:=omega) only[ak,↓aj,seval,abD,hJ];exact h
 ·obtain⟨w,r1,r2,r3⟩:=hv.elem (k - 1) (by omega);have hkk:((k:Int) - 1).toNat=k - 1:=by omega
  by_cases he:ls[k - 1]'(by omega)=[]
  ·rw[he] at r2;simp(disch:=omega) only[ak,↓aj,seval,abD,↓hv.idx,↓hv.ln,hkk,r1,↓r2.ln];refine hN (k - 1) _ _ (by omega) ⟨by omega,fun i h1 h2=>?_,rfl,rfl,rfl,rfl,by simp;omega⟩;by_cases hik:i=k - 1
   ·subst hik;exact he
   ·exact hp i h1 (by omega)
  ·have:k=aU ls:=tO hk hp (fun m hm h=>by
                                                       have:m=k - 1:=by omega
                                                       subst this;exact he)
   have hpos:0 < (ls[k - 1]'(by omega)).length:=List.length_pos_iff.2 he;rw[←this] at h;simp(disch:=omega) only[ak,↓aj,seval,abD,↓hv.idx,↓hv.ln,hkk,r1,↓r2.ln,hJ];exact h
def nr(fs bs:List (List Id))(bed at_:Int):List Id:=if av bed at_=0 then((if bed=1 then bs else fs)[(at_ - 1).toNat]?).getD [] else[]
def bv(f b:SV):IV:=.agg [f.iv,b.iv]
theorem uC{f b:SV}{fs bs:List (List Id)}(bed at_:Int){H:Heap}{lo:Nat}{Q:Out→Heap→Prop}(hf:Sl2 H f fs)(hb:Sl2 H b bs)(hl:∀l∈fs,l.length≤1000000)(hl':∀l∈bs,l.length≤1000000)(hlo:lo≤H.n)
  (h:∀H' v,Keep H.n H H'→Fresh H.n H' 138 v (nr fs bs bed at_)→Q (.val v.iv) H'):W E0 lo (.call 128 [bv f b,.agg [.int .u8 bed,.int .i64 at_]]) H Q:=by
 refine W.pure bJ hlo ?_;rw[arP];simp(disch:=omega) only[ak,↓aj,seval,ET,bv];refine cJ bed at_ (by simp only[ac];omega) fun H1 k1=>?_;have hn1:=k1.1;simp only[ac] at hn1;have kr:=k1.read;have kk:Keep H.n H H1:=((Keep.new _ _).trans (Keep.new _ _)).trans (k1.lower (by simp only[ac];omega));simp only[ac] at kr;unfold av;by_cases hv:(bed=0∨bed=1)∧1≤at_∧at_≤40
 case neg=>
  rw[if_neg hv];simp(disch:=omega) only[ak,↓aj,seval,ET];exact fun hk=>h _ .nil hk (.inl ⟨rfl,by simp[nr,av,hv]⟩)
 rw[if_pos hv];have hat:nr fs bs bed at_=((if bed=1 then bs else fs)[(at_ - 1).toNat]?).getD []:=by simp[nr,av,hv]
 rw[hat] at h;obtain⟨hbed,h1,h2⟩:=hv;have hat1:(at_ - 1).toNat+1=at_.toNat:=by omega
 rcases hbed with rfl | rfl
 ·simp only[Int.reduceEq,if_false] at h;by_cases hin:at_>fs.length
  ·have:fs[(at_ - 1).toNat]? =none:=jq (by omega)
   rw[this] at h;simp(disch:=omega) only[ak,↓aj,seval,ET,kr,↓hf.ln];exact fun hk=>h _ .nil hk (.inl ⟨rfl,rfl⟩)
  ·have hlt:(at_ - 1).toNat < fs.length:=by omega
   rw[gF hlt,ig] at h;obtain⟨w,r1,r2,r3⟩:=(hf.keep kk).elem _ hlt;simp(disch:=omega) only[ak,↓aj,seval,ET,kr,↓hf.ln,↓hf.idx,r1];refine jg r2 (hl _ (bQ _)) (by omega) fun H2 c k2 hc ho=>?_;simp(disch:=omega) only[ak,↓aj,seval,ET];exact fun hk=>h _ _ hk (.inr ⟨c,rfl,by omega,ho⟩)
 ·simp only[if_true] at h;by_cases hin:at_>bs.length
  ·have:bs[(at_ - 1).toNat]? =none:=jq (by omega)
   rw[this] at h;simp(disch:=omega) only[ak,↓aj,seval,ET,kr,↓hb.ln];exact fun hk=>h _ .nil hk (.inl ⟨rfl,rfl⟩)
  ·have hlt:(at_ - 1).toNat < bs.length:=by omega
   rw[gF hlt,ig] at h;obtain⟨w,r1,r2,r3⟩:=(hb.keep kk).elem _ hlt;simp(disch:=omega) only[ak,↓aj,seval,ET,kr,↓hb.ln,↓hb.idx,r1];refine jg r2 (hl' _ (bQ _)) (by omega) fun H2 c k2 hc ho=>?_;simp(disch:=omega) only[ak,↓aj,seval,ET];exact fun hk=>h _ _ hk (.inr ⟨c,rfl,by omega,ho⟩)
def aky(tm:List IV)(h:tm.length=29):=(cS tm 29 h).trans (by simp only[List.range,List.range.loop,bI,bj];exact rfl)
theorem rI{v:SV}{ls:List (List Id)}{yb l1 lo:Nat}{bed:Int}{rd:Option Nat}{mk:List Nat}{Q:Out→Heap→Prop}(P:Nat→Heap→Prop)(D:Heap→Prop)(hls:ls.length≤1000000)
  (hP:∀i H',P i H'→Sl2 H' v ls∧H'.read yb 0 1=some [.yield l1])
  (step:∀i w H',(hi:i < ls.length)→i < 40→P i H'→Sl H' w ls[i]→∀K:Out→Heap→Prop,(∀H'',P (i+1) H''→K (.val (.bool true)) H'')→(∀H'',D H''→K (.val (.bool false)) H'')→W E0 lo (.apply (.yield l1) [.agg [.int .u8 bed,.int .i64 ((i:Int)+1)],w.iv]) H' K)
  {H:Heap} {tm:List IV} (h0:P 0 H) (htm:tm.length=29) (t2:tm.getD 2 IV.undef=.ptr yb 0) (t3:tm.getD 3 IV.undef=.int .u8 bed) (t11:tm.getD 11 IV.undef=v.iv) (t12:tm.getD 12 IV.undef=.int .i64 ls.length) (t13:tm.getD 13 IV.undef=.int .i64 0)
  (hQ:∀H' tm',P (min ls.length 40) H'→Q (.ex (.jmp (.exit 2)) ⟨tm',mk⟩) H') (hD:∀H' tm',D H'→Q (.ex (.jmp .ret) ⟨tm',mk⟩) H'):W E0 lo (.code (.loop Ck) rd ⟨tm,mk⟩) H Q:=by
 refine aP (fun k fr H'=>∃i,i+k=ls.length∧i≤40∧P i H'∧fr.marks=mk∧fr.tm.length=29∧fr.tm.getD 2 IV.undef=.ptr yb 0∧fr.tm.getD 3 IV.undef=.int .u8 bed∧fr.tm.getD 11 IV.undef=v.iv∧fr.tm.getD 12 IV.undef=.int .i64 ls.length∧fr.tm.getD 13 IV.undef=.int .i64 i) ?_ ls.length ⟨0,by omega,by omega,h0,rfl,htm,t2,t3,t11,t12,t13⟩;rintro k ⟨tm,mk⟩ H' ⟨i,hi,h40,hp,rfl,htm,t2,t3,t11,t12,t13⟩ L hN hJ;rw[aky tm htm,t2,t3,t11,t12,t13];obtain⟨hv,hy⟩:=hP i H' hp;by_cases hil:i < ls.length
 ·obtain⟨w,r1,r2,r3⟩:=hv.elem i hil;by_cases h4:i < 40
  ·simp(disch:=omega) only[ak,↓aj,seval,EL,↓hv.idx,r1,hy]
   rw[←sC];refine step i w H' hil h4 hp r2 _ (fun H'' h''=>?_) (fun H'' h''=>?_)
   ·simp(disch:=omega) only[ak,↓aj,seval,EL]
    exact hN (k - 1) _ _ (by omega) ⟨i+1,by omega,by omega,h'',rfl,rfl,rfl,rfl,rfl,rfl,rfl⟩
   ·simp(disch:=omega) only[ak,↓aj,seval,EL,hJ]
    exact hD _ _ h''
  ·simp(disch:=omega) only[ak,↓aj,seval,EL,↓hv.idx,r1,hJ]
   refine hQ _ _ ?_;rw[show min ls.length 40=i from by omega];exact hp
 ·simp(disch:=omega) only[ak,↓aj,seval,EL,hJ]
  refine hQ _ _ ?_;rw[show min ls.length 40=i from by omega];exact hp
def eY(ls:List (List Id)):Nat:=(ls.map List.length).sum
theorem pJ(ls:List (List Id))(i:Nat)(h:i < ls.length):eY (ls.take (i+1))=eY (ls.take i)+ls[i].length:=by
 unfold eY;rw[gv h,qa,List.sum_append];simp
theorem He(ls:List (List Id))(m:Nat)(hm:∀l∈ls,l.length≤m)(i:Nat):eY (ls.take i)≤i*m:=by
 induction i with
 | zero=>simp[eY]
 | succ i ih=>
   by_cases h:i < ls.length
   ·rw[pJ ls i h,eW]
    have:=hm ls[i] (bQ h)
    omega
   ·rw[bW (by omega)];rw[bW (by omega)] at ih;rw[eW];omega
theorem zL{f b:SV}{fs bs:List (List Id)}{H:Heap}{lo l1 nb:Nat}{R:Out→Heap→Prop}(P:Nat→Nat→Heap→Prop)(D:Heap→Prop)(hlo:lo≤H.n)(hlf:fs.length≤1000000)(hlb:bs.length≤1000000)
  (hnb:nb < H.n) (hg:H.read nb 0 2=some [f.iv,b.iv])
  (hPs:∀c i H' H'',P c i H'→H'.n≤H''.n→(∀x,x < H.n→H''.get x=H'.get x)→P c i H'')
  (hDs:∀H' H'',D H'→H'.n≤H''.n→(∀x,x < H.n→H''.get x=H'.get x)→D H'')
  (hPd:∀c i H',P c i H'→Sl2 H' f fs∧Sl2 H' b bs)
  (step0:∀i w H',(hi:i < fs.length)→i < 40→H.n≤H'.n→P 0 i H'→Sl H' w fs[i]→∀K:Out→Heap→Prop,(∀H'',P 0 (i+1) H''→H'.n≤H''.n→(∀x,H.n≤x→x < H'.n→H''.get x=H'.get x)→K (.val (.bool true)) H'')→(∀H'',D H''→H'.n≤H''.n→(∀x,H.n≤x→x < H'.n→H''.get x=H'.get x)→K (.val (.bool false)) H'')→W E0 lo (.apply (.yield l1) [.agg [.int .u8 0,.int .i64 ((i:Int)+1)],w.iv]) H' K)
  (step1:∀i w H',(hi:i < bs.length)→i < 40→H.n≤H'.n→P 1 i H'→Sl H' w bs[i]→∀K:Out→Heap→Prop,(∀H'',P 1 (i+1) H''→H'.n≤H''.n→(∀x,H.n≤x→x < H'.n→H''.get x=H'.get x)→K (.val (.bool true)) H'')→(∀H'',D H''→H'.n≤H''.n→(∀x,H.n≤x→x < H'.n→H''.get x=H'.get x)→K (.val (.bool false)) H'')→W E0 lo (.apply (.yield l1) [.agg [.int .u8 1,.int .i64 ((i:Int)+1)],w.iv]) H' K)
  (h0:P 0 0 H) (h01:∀H',P 0 (min fs.length 40) H'→P 1 0 H')
  (hQ:∀H',P 1 (min bs.length 40) H'→H.n≤H'.n→R (.val (.tuple [])) H') (hD:∀H',D H'→H.n≤H'.n→R (.val (.tuple [])) H'):W E0 lo (.call 185 [.yield l1,.ptr nb 0]) H R:=by
 rw[aro];obtain⟨hf,hb⟩:=hPd 0 0 H h0;simp(disch:=omega) only[ak,↓aj,seval,Ny,lA,lz,Qn,Qm,↓hf.ln,↓hb.ln,hg];generalize hH1:Heap.put _ _ _=H1;have hn1:H1.n=H.n+4:=by rw[←hH1];rfl
 have g0:=congrArg (fun h0=>Heap.get h0 (H.n)) hH1.symm;simp(disch:=omega) only[ak,↓aj,seval] at g0;have g1:=congrArg (fun h0=>Heap.get h0 (H.n+1)) hH1.symm;simp(disch:=omega) only[ak,↓aj,seval] at g1;have g2:=congrArg (fun h0=>Heap.get h0 (H.n+2)) hH1.symm;simp(disch:=omega) only[ak,↓aj,seval] at g2;have g3:=congrArg (fun h0=>Heap.get h0 (H.n+3)) hH1.symm;simp(disch:=omega) only[ak,↓aj,seval] at g3
 have k1:∀x,x < H.n→H1.get x=H.get x:=fun x hx=>by
  have gx:=congrArg (fun h0=>Heap.get h0 x) hH1.symm;simp(disch:=omega) only[ak,↓aj,seval] at gx;exact gx
 clear hH1;refine rI (yb:=H.n) (l1:=l1) (fun i H'=>P 0 i H'∧H1.n≤H'.n∧∀x,H.n≤x→x < H1.n→H'.get x=H1.get x) (fun H'=>D H'∧H1.n≤H'.n∧∀x,H.n≤x→x < H1.n→H'.get x=H1.get x) hlf (fun i H' hp=>⟨(hPd 0 i H' hp.1).1,by rw[ah ((hp.2.2 H.n (by omega) (by omega)).trans g0)];rfl⟩) ?_ ⟨hPs 0 0 H H1 h0 (by omega) k1,au _,fun _ _ _=>rfl⟩ rfl rfl rfl rfl rfl rfl ?_ ?_
 ·intro i w H' hi h4 hp hw K hK hK';refine step0 i w H' hi h4 (by omega) hp.1 hw K (fun H'' a1 a2 a3=>hK H'' ⟨a1,by omega,fun x b1 b2=>(a3 x b1 (by omega)).trans (hp.2.2 x b1 b2)⟩) (fun H'' a1 a2 a3=>hK' H'' ⟨a1,by omega,fun x b1 b2=>(a3 x b1 (by omega)).trans (hp.2.2 x b1 b2)⟩)
 ·rintro H2 tm' ⟨hp2,hn2,hk2⟩;have f0:=(hk2 _ (by omega) (by omega)).trans g0;have f1:=(hk2 _ (by omega) (by omega)).trans g1;have f2:=(hk2 _ (by omega) (by omega)).trans g2;have f3:=(hk2 _ (by omega) (by omega)).trans g3;have r1:=ah f1;simp(disch:=omega) only[ak,↓aj,seval,Ny,lA,lz,f3,r1,↓hf.ln,↓hb.ln];generalize hH3:Heap.put _ _ _=H3;have hn3:H3.n=H2.n:=by rw[←hH3];rfl
  have k3:∀x,x≠H.n+3→H3.get x=H2.get x:=fun x hx=>by
   rw[←hH3,ae,if_neg (Ne.symm hx),ae,if_neg (Ne.symm hx)]
  have e3:=congrArg (fun h0=>Heap.get h0 (H.n+3)) hH3.symm;simp(disch:=omega) only[ak,↓aj,seval] at e3;have e0:=(k3 H.n (by omega)).trans f0;have e1:=(k3 (H.n+1) (by omega)).trans f1;have e2:=(k3 (H.n+2) (by omega)).trans f2;clear hH3 f0 f1 f2 f3 r1;refine rI (yb:=H.n) (l1:=l1) (fun i H'=>P 1 i H'∧H3.n≤H'.n∧∀x,H.n≤x→x < H3.n→H'.get x=H3.get x) (fun H'=>D H'∧H3.n≤H'.n∧∀x,H.n≤x→x < H3.n→H'.get x=H3.get x) hlb (fun i H' hp=>⟨(hPd 1 i H' hp.1).2,by rw[ah ((hp.2.2 H.n (by omega) (by omega)).trans e0)];rfl⟩) ?_ ⟨hPs 1 0 H2 H3 (h01 H2 hp2) (by omega) (fun x hx=>k3 x (by omega)),au _,fun _ _ _=>rfl⟩ rfl rfl rfl rfl rfl rfl ?_ ?_
  ·intro i w H' hi h4 hp hw K hK hK';refine step1 i w H' hi h4 (by omega) hp.1 hw K (fun H'' a1 a2 a3=>hK H'' ⟨a1,by omega,fun x b1 b2=>(a3 x b1 (by omega)).trans (hp.2.2 x b1 b2)⟩) (fun H'' a1 a2 a3=>hK' H'' ⟨a1,by omega,fun x b1 b2=>(a3 x b1 (by omega)).trans (hp.2.2 x b1 b2)⟩)
  ·rintro H4 tm4 ⟨hp4,hn4,hk4⟩;have f2:=(hk4 _ (by omega) (by omega)).trans e2;have f3:=(hk4 _ (by omega) (by omega)).trans e3;simp(disch:=omega) only[ak,↓aj,seval,Ny,lA,lz,f2,f3];refine hQ _ (hPs 1 _ H4 _ hp4 (au _) fun x hx=>?_) (by simp only[af];omega);simp(disch:=omega) only[ak,↓aj,seval]
  ·rintro H4 tm4 ⟨hp4,hn4,hk4⟩;have f2:=(hk4 _ (by omega) (by omega)).trans e2;have f3:=(hk4 _ (by omega) (by omega)).trans e3;simp(disch:=omega) only[ak,↓aj,seval,Ny,lA,lz,f2,f3];refine hD _ (hDs H4 _ hp4 (au _) fun x hx=>?_) (by simp only[af];omega);simp(disch:=omega) only[ak,↓aj,seval]
 ·rintro H2 tm' ⟨hp2,hn2,hk2⟩;have f2:=(hk2 _ (by omega) (by omega)).trans g2;have f3:=(hk2 _ (by omega) (by omega)).trans g3;simp(disch:=omega) only[ak,↓aj,seval,Ny,lA,lz,f2,f3];refine hD _ (hDs H2 _ hp2 (au _) fun x hx=>?_) (by simp only[af];omega);simp(disch:=omega) only[ak,↓aj,seval]
theorem Ef{f b:SV}{fs bs:List (List Id)}{H:Heap}{lo:Nat}{Q:Out→Heap→Prop}(hf:Sl2 H f fs)(hb:Sl2 H b bs)(hlf:fs.length≤1000000)(hlb:bs.length≤1000000)(hl:∀l∈fs,l.length≤1000000)(hl':∀l∈bs,l.length≤1000000)(hlo:lo≤H.n)
  (h:∀H',Keep H.n H H'→Q (.val (.int .i64 (eY (fs.take 40)+eY (bs.take 40):Nat))) H'):W E0 lo (.call 112 [bv f b]) H Q:=by
 refine gw _ hlo h fun R hR=>?_;rw[ar5];simp(disch:=omega) only[ak,↓aj,seval,alP,anG,bv,amI];generalize hH1:Heap.new _ _=H1;have hn1:H1.n=H.n+5:=by rw[←hH1];rfl
 have g1:=congrArg (fun h0=>Heap.get h0 (H.n+1)) hH1.symm;simp(disch:=omega) only[ak,↓aj,seval] at g1;have g2:=congrArg (fun h0=>Heap.get h0 (H.n+2)) hH1.symm;simp(disch:=omega) only[ak,↓aj,seval] at g2;have g3:=congrArg (fun h0=>Heap.get h0 (H.n+3)) hH1.symm;simp(disch:=omega) only[ak,↓aj,seval] at g3;have g4:=congrArg (fun h0=>Heap.get h0 (H.n+4)) hH1.symm;simp(disch:=omega) only[ak,↓aj,seval] at g4
 have k1:Keep H.n H H1:=⟨by omega,fun x hx _=>by
  have gx:=congrArg (fun h0=>Heap.get h0 x) hH1.symm;simp(disch:=omega) only[ak,↓aj,seval] at gx;exact gx⟩
 clear hH1;have r2:=ah g2;have hle:=He fs 1000000 hl;have hle':=He bs 1000000 hl';have hPd:∀H',H1.n≤H'.n→(∀x,x < H1.n→x≠H.n+1→H'.get x=H1.get x)→Keep H.n H H':=fun H' a1 a2=>⟨by omega,fun x h1 _=>(a2 x (by omega) (by omega)).trans (k1.2 x h1 h1)⟩
 have hstep:∀(bed:Int) (i:Nat) (w:SV) (l:List Id) (s:Nat) (H':Heap),s≤80000000→l.length≤1000000→H1.n≤H'.n→(∀x,x < H1.n→x≠H.n+1→H'.get x=H1.get x)→H'.get (H.n+1)=some (.cells false 3 1 [.int .i64 s])→Sl H' w l→∀K:Out→Heap→Prop,(∀H'',(∀x,x < H1.n→x≠H.n+1→H''.get x=H1.get x)→H''.get (H.n+1)=some (.cells false 3 1 [.int .i64 ((s+l.length:Nat):Int)])→H'.n≤H''.n→(∀x,H1.n≤x→x < H'.n→H''.get x=H'.get x)→K (.val (.bool true)) H'')→W E0 H.n (.apply (.yield (H.n+4)) [.agg [.int .u8 bed,.int .i64 ((i:Int)+1)],w.iv]) H' K:=by
  intro bed i w l s H' hs hl hn hk hg hw K hK;have e4:=(hk (H.n+4) (by omega) (by omega)).trans g4;have er:=ah hg;simp(disch:=omega) only[ak,↓aj,seval,alP,e4,er,hg,↓hw.ln];refine hK _ (fun x h1 h2=>?_) ?_ (au _) (fun x h1 h2=>?_)
  ·by_cases hx:x=H.n+4
   ·subst hx;simp(disch:=omega) only[ak,↓aj,seval,g4]
   ·rw[ae,if_neg (Ne.symm hx),ae,if_neg (Ne.symm h2),ae,if_neg (Ne.symm hx)];exact hk x h1 h2
  ·simp(disch:=omega) only[ak,↓aj,seval,Int.natCast_add]
  ·simp(disch:=omega) only[ak,↓aj,seval]
 refine zL (f:=f) (b:=b) (fs:=fs) (bs:=bs) (fun c i H'=>H1.n≤H'.n∧(∀x,x < H1.n→x≠H.n+1→H'.get x=H1.get x)∧H'.get (H.n+1)=some (.cells false 3 1 [.int .i64 ((if c=0 then eY (fs.take i) else eY (fs.take 40)+eY (bs.take i):Nat):Int)])) (fun _=>False) (by omega) hlf hlb (by omega) (by rw[r2];rfl) ?_ ?_ ?_ ?_ ?_ ?_ ?_ ?_ ?_
 ·rintro c i H' H'' ⟨a1,a2,a3⟩ b1 b2;exact⟨by omega,fun x h1 h2=>(b2 x h1).trans (a2 x h1 h2),(b2 _ (by omega)).trans a3⟩
 ·exact fun _ _ h _ _=>h
 ·rintro c i H' ⟨a1,a2,a3⟩;exact⟨hf.keep (hPd H' a1 a2),hb.keep (hPd H' a1 a2)⟩
 ·rintro i w H' hi h4 hn ⟨a1,a2,a3⟩ hw K hK hK';rw[if_pos rfl] at a3
  have:=hle i
  refine hstep 0 i w fs[i] _ H' (by omega) (hl _ (bQ _)) a1 a2 a3 hw K fun H'' c1 c2 c3 c4=>hK H'' ⟨by omega,c1,?_⟩ c3 c4;rw[if_pos rfl,pJ fs i hi];exact c2
 ·rintro i w H' hi h4 hn ⟨a1,a2,a3⟩ hw K hK hK';rw[if_neg (by omega)] at a3
  have:=hle 40
  have:=hle' i
  refine hstep 1 i w bs[i] _ H' (by omega) (hl' _ (bQ _)) a1 a2 a3 hw K fun H'' c1 c2 c3 c4=>hK H'' ⟨by omega,c1,?_⟩ c3 c4;rw[if_neg (by omega),pJ bs i hi,←kE];exact c2
 ·exact⟨au _,fun _ _ _=>rfl,g1⟩
 ·rintro H' ⟨a1,a2,a3⟩;refine⟨a1,a2,?_⟩;rw[if_pos rfl] at a3;rw[if_neg (by omega),List.take_zero,a3];by_cases h4:fs.length≤40
  ·rw[show min fs.length 40=fs.length from by omega,xc,bW h4];rfl
  ·rw[show min fs.length 40=40 from by omega];rfl
 ·rintro H' ⟨a1,a2,a3⟩ hn;rw[if_neg (by omega)] at a3;have e3:=(a2 (H.n+3) (by omega) (by omega)).trans g3;have e4:=(a2 (H.n+4) (by omega) (by omega)).trans g4;have er:=ah a3
  have hb4:bs.take (min bs.length 40)=bs.take 40:=by
   by_cases h4:bs.length≤40
   ·rw[show min bs.length 40=bs.length from by omega,xc,bW h4]
   ·rw[show min bs.length 40=40 from by omega]
  simp(disch:=omega) only[ak,↓aj,seval,alP,e3,e4,er,hb4]
  exact hR _
 ·exact fun _ h=>h.elim
def aqV(tm:List IV)(h:tm.length=19):=(cS tm 19 h).trans (by simp only[List.range,List.range.loop,bI,bj];exact rfl)
def iH:List Id→Nat→List (IV×IV×Nat)
 | [],_=>[]
 | k::ks,s=>(.agg (Cell.cs k),.bool true,s)::iH ks (s+1)
def acU:Bool×List Pk:=(true,[.int,.int])
theorem DM(a b:Id):dQ acU (.agg (Cell.cs a)) (.agg (Cell.cs b))=some (decide (a=b)):=by
 simp only[dQ,acU,aQ,nO,if_true,IV.cells,fC,iD,FU]
 cases a with | mk y n=>cases b with | mk y' n'=>
 congr 1;by_cases h1:y=y'<;>by_cases h2:n=n'<;>simp[h1,h2]
theorem DL(a:Id):cv acU (.agg (Cell.cs a))=true:=rfl
theorem Hj(a:Id):∀(ks:List Id) (s i:Nat),∃r,aI acU (.agg (Cell.cs a)) (iH ks s) i=some r∧((a∈ks∧∃j,r=some (i+j,.bool true)∧cD (.agg (Cell.cs a)) (.bool true) (iH ks s) j=iH ks s)∨(a∉ks∧r=none)):=by
 intro ks
 induction ks with
 | nil=>intro s i;exact⟨none,rfl,.inr ⟨by simp,rfl⟩⟩
 | cons k ks ih=>
   intro s i;by_cases h:a=k
   ·subst h;refine⟨some (i,.bool true),?_,.inl ⟨by simp,0,rfl,rfl⟩⟩;simp only[iH,aI,DM,decide_true]
   ·obtain⟨r,h1,h2⟩:=ih (s+1) (i+1);refine⟨r,?_,?_⟩
    ·simp only[iH,aI,DM,decide_eq_false h];exact h1
    ·rcases h2 with⟨h2,j,h3,h4⟩ | ⟨h2,h3⟩
     ·refine .inl ⟨by simp[h2],j+1,by rw[h3];congr 2;omega,?_⟩;simp only[iH,cD,h4]
     ·exact .inr ⟨by simp[h,h2],h3⟩
theorem rJ:∀(ks:List Id) (a:Id) (s:Nat),iH (ks++[a]) s=iH ks s++[(.agg (Cell.cs a),.bool true,s+ks.length)]
 | [],a,s=>rfl
 | k::ks,a,s=>by
   rw[xl,iH,rJ ks a (s+1),iH,xl,fB,show s+1+ks.length=s+(ks.length+1) from by omega]
def MapIds(H:Heap)(mb:Nat)(ks:List Id):Prop:=H.get mb=some (.map (iH ks 0) ks.length)
theorem MapIds.look{H:Heap}{mb:Nat}{ks:List Id}(h:MapIds H mb ks)(a:Id)(t lo:Nat):ev1 (.lookup t (true,[.int,.int]) (.bool false) false) [.map mb,.agg [.int .u8 a.y,.int .i64 a.n]] lo H=some (.bool (decide (a∈ks)),H):=by
 have h:H.get mb=some (.map (iH ks 0) ks.length):=h;obtain⟨r,h1,h2⟩:=Hj a ks 0 0;have h1':aI (true,[.int,.int]) (.agg [.int .u8 a.y,.int .i64 a.n]) (iH ks 0) 0=some r:=h1;have hk:cv (true,[.int,.int]) (.agg [.int .u8 a.y,.int .i64 a.n])=true:=DL a;simp only[ev1,aB,h,dI,hk,if_true,h1'];rcases h2 with⟨h2,j,rfl,_⟩ | ⟨h2,rfl⟩
 ·rw[decide_eq_true h2];rfl
 ·rw[decide_eq_false h2];rfl
theorem MapIds.upd{H:Heap}{mb:Nat}{ks:List Id}(h:MapIds H mb ks)(a:Id)(lo:Nat)(hlo:lo≤mb):∃ob,ev1 (.mapUpd (true,[.int,.int])) [.map mb,.agg [.int .u8 a.y,.int .i64 a.n],.bool true] lo H=some (IV.undef,H.put mb ob)∧ob=.map (iH (if a∈ks then ks else ks++[a]) 0) (if a∈ks then ks else ks++[a]).length:=by
 have h:H.get mb=some (.map (iH ks 0) ks.length):=h;obtain⟨r,h1,h2⟩:=Hj a ks 0 0;have h1':aI (true,[.int,.int]) (.agg [.int .u8 a.y,.int .i64 a.n]) (iH ks 0) 0=some r:=h1;have hk:cv (true,[.int,.int]) (.agg [.int .u8 a.y,.int .i64 a.n])=true:=DL a;simp only[ev1,aB,h,hk,h1',hlo,and_self,if_true];rcases h2 with⟨h2,j,rfl,h3⟩ | ⟨h2,rfl⟩
 ·rw[if_pos h2];refine⟨_,rfl,?_⟩;rw[cu];exact congrArg (fun x=>IObj.map x ks.length) h3
 ·rw[if_neg h2];refine⟨_,rfl,?_⟩;rw[rJ,cu,bn];rfl
def ov(tm:List IV)(h:tm.length=84):=(cS tm 84 h).trans (by simp only[List.range,List.range.loop,bI,bj];exact rfl)
theorem uy{v:SV}{ls:List (List Id)}{rb lo:Nat}{x:IV}{H:Heap}{Q:Out→Heap→Prop}{rd:Option Nat}{mk:List Nat}{tm:List IV}(hv:Sl2 H v ls)(hl:ls.length≤1000000)(hll:∀l∈ls,l.length≤1000000)
  (hg:H.get rb=some (.cells false 36 1 [x])) (hlo:lo≤rb) (htm:tm.length=84) (t2:tm.getD 2 IV.undef=.ptr rb 0) (t27:tm.getD 27 IV.undef=v.iv) (t28:tm.getD 28 IV.undef=.int .i64 ls.length) (t29:tm.getD 29 IV.undef=.int .i64 0)
  (hQ:(∀l∈ls,l.length≤4)→∀tm',Q (.ex (.jmp (.exit 2)) ⟨tm',mk⟩) H) (hR:(∃l∈ls,l.length>4)→∀tm',Q (.ex (.jmp .ret) ⟨tm',mk⟩) (H.put rb (.cells false 36 1 [.int .i64 9]))):W E0 lo (.code (.loop Gx) rd ⟨tm,mk⟩) H Q:=by
 refine aP (fun k fr H'=>∃i,i+k=ls.length∧(∀j (h:j < ls.length),j < i→ls[j].length≤4)∧H'=H∧fr.marks=mk∧fr.tm.length=84∧fr.tm.getD 2 IV.undef=.ptr rb 0∧fr.tm.getD 27 IV.undef=v.iv∧fr.tm.getD 28 IV.undef=.int .i64 ls.length∧fr.tm.getD 29 IV.undef=.int .i64 i) ?_ ls.length ⟨0,by omega,fun j _ h=>by omega,rfl,rfl,htm,t2,t27,t28,t29⟩;rintro k ⟨tm,mk⟩ H' ⟨i,hi,hp,rfl,rfl,htm,t2,t27,t28,t29⟩ L hN hJ;rw[ov tm htm,t2,t27,t28,t29];by_cases hil:i < ls.length
 ·obtain⟨w,r1,r2,r3⟩:=hv.elem i hil;have hli:=hll _ (bQ hil);by_cases h4:ls[i].length>4
  ·simp(disch:=omega) only[ak,↓aj,seval,nC,↓hv.idx,r1,↓r2.ln,hg,hJ]
   exact hR ⟨_,bQ hil,h4⟩ _
  ·simp(disch:=omega) only[ak,↓aj,seval,nC,↓hv.idx,r1,↓r2.ln]
   refine hN (k - 1) _ _ (by omega) ⟨i+1,by omega,fun j h1 h2=>?_,rfl,rfl,rfl,rfl,rfl,rfl,rfl⟩;by_cases hj:j=i
   ·subst hj;omega
   ·exact hp j h1 (by omega)
 ·simp(disch:=omega) only[ak,↓aj,seval,nC,hJ]
  refine hQ (fun l hl=>?_) _;obtain⟨j,hj,rfl⟩:=List.mem_iff_getElem.1 hl;exact hp j hj (by omega)
theorem BY{w:SV}{l:List Id}{rb lo:Nat}{x:IV}{H:Heap}{Q:Out→Heap→Prop}{rd:Option Nat}{mk:List Nat}{tm:List IV}(hw:Sl H w l)(hl:l.length≤1000000)
  (hg:H.get rb=some (.cells false 36 1 [x])) (hrb:rb < H.n) (hlo:lo≤rb) (htm:tm.length=84) (t2:tm.getD 2 IV.undef=.ptr rb 0) (t47:tm.getD 47 IV.undef=w.iv) (t48:tm.getD 48 IV.undef=.int .i64 l.length) (t49:tm.getD 49 IV.undef=.int .i64 0)
  (hQ:(∀a∈l,bM a=true)→∀H' tm',Keep H.n H H'→tm'.length=84→tm'.getD 2 IV.undef=.ptr rb 0→tm'.getD 41 IV.undef=tm.getD 41 IV.undef→tm'.getD 42 IV.undef=tm.getD 42 IV.undef→tm'.getD 43 IV.undef=tm.getD 43 IV.undef→Q (.ex (.jmp (.exit 8)) ⟨tm',mk⟩) H') (hR:(∃a∈l,bM a=false)→∀H' tm',Keep H.n H H'→Q (.ex (.jmp .ret) ⟨tm',mk⟩) (H'.put rb (.cells false 36 1 [.int .i64 1]))):W E0 lo (.code (.loop Gw) rd ⟨tm,mk⟩) H Q:=by
 refine aP (fun k fr H'=>∃i,i+k=l.length∧(∀j (h:j < l.length),j < i→bM l[j]=true)∧Keep H.n H H'∧fr.marks=mk∧fr.tm.length=84∧fr.tm.getD 2 IV.undef=.ptr rb 0∧fr.tm.getD 47 IV.undef=w.iv∧fr.tm.getD 48 IV.undef=.int .i64 l.length∧fr.tm.getD 49 IV.undef=.int .i64 i∧fr.tm.getD 41 IV.undef=tm.getD 41 IV.undef∧fr.tm.getD 42 IV.undef=tm.getD 42 IV.undef∧fr.tm.getD 43 IV.undef=tm.getD 43 IV.undef) ?_ l.length ⟨0,by omega,fun j _ h=>by omega,Keep.refl _ _,rfl,htm,t2,t47,t48,t49,rfl,rfl,rfl⟩;generalize tm.getD 41 IV.undef=y41 at *;generalize tm.getD 42 IV.undef=y42 at *;generalize tm.getD 43 IV.undef=y43 at *;rintro k ⟨tm,mk⟩ H' ⟨i,hi,hp,hk,rfl,htm,t2,t47,t48,t49,t41,t42,t43⟩ L hN hJ;have hn:=hk.1;have hw':=hw.keep hk;have hg':=(hk.2 rb hrb hrb).trans hg;rw[ov tm htm,t2,t47,t48,t49,t41,t42,t43];by_cases hil:i < l.length
 ·have r1:=hw'.read lB i hil;simp(disch:=omega) only[ak,↓aj,seval,nC,↓hw.idx,r1,fC];generalize hH1:Heap.put _ _ _=H1;have k1:Keep H'.n H' H1:=by rw[←hH1];exact Keep.newPut
  have hn1:=k1.1;clear hH1;rw[←fC];refine xE _ (by omega) fun H2 k2=>?_;have hn2:=k2.1;have kk:Keep H.n H H2:=hk.trans ((k1.trans (k2.lower hn1)).lower hn);have hg2:=(kk.2 rb hrb hrb).trans hg
  cases hb:bM l[i]
  ·simp(disch:=omega) only[ak,↓aj,seval,nC,hg2,hJ]
   exact hR ⟨_,bQ hil,hb⟩ _ _ kk
  ·simp(disch:=omega) only[ak,↓aj,seval,nC]
   refine hN (k - 1) _ _ (by omega) ⟨i+1,by omega,fun j h1 h2=>?_,kk,rfl,rfl,rfl,rfl,rfl,rfl,rfl,rfl,rfl⟩;by_cases hj:j=i
   ·subst hj;exact hb
   ·exact hp j h1 (by omega)
 ·simp(disch:=omega) only[ak,↓aj,seval,nC,hJ]
  refine hQ (fun a ha=>?_) _ _ hk rfl rfl rfl rfl rfl;obtain⟨j,hj,rfl⟩:=List.mem_iff_getElem.1 ha;exact hp j hj (by omega)
theorem ux{v:SV}{ls:List (List Id)}{rb lo:Nat}{x:IV}{H:Heap}{Q:Out→Heap→Prop}{rd:Option Nat}{mk:List Nat}{tm:List IV}(hv:Sl2 H v ls)(hl:ls.length≤1000000)(hll:∀l∈ls,l.length≤1000000)
  (hg:H.get rb=some (.cells false 36 1 [x])) (hrb:rb < H.n) (hlo:lo≤rb) (htm:tm.length=84) (t2:tm.getD 2 IV.undef=.ptr rb 0) (t41:tm.getD 41 IV.undef=v.iv) (t42:tm.getD 42 IV.undef=.int .i64 ls.length) (t43:tm.getD 43 IV.undef=.int .i64 0)
  (hQ:(∀a∈ls.flatten,bM a=true)→∀H' tm',Keep H.n H H'→Q (.ex (.jmp (.exit 6)) ⟨tm',mk⟩) H') (hR:(∃a∈ls.flatten,bM a=false)→∀H' tm',Keep H.n H H'→Q (.ex (.jmp .ret) ⟨tm',mk⟩) (H'.put rb (.cells false 36 1 [.int .i64 1]))):W E0 lo (.code (.loop Gv) rd ⟨tm,mk⟩) H Q:=by
 refine aP (fun k fr H'=>∃i,i+k=ls.length∧(∀j (h:j < ls.length),j < i→∀a∈ls[j],bM a=true)∧Keep H.n H H'∧fr.marks=mk∧fr.tm.length=84∧fr.tm.getD 2 IV.undef=.ptr rb 0∧fr.tm.getD 41 IV.undef=v.iv∧fr.tm.getD 42 IV.undef=.int .i64 ls.length∧fr.tm.getD 43 IV.undef=.int .i64 i) ?_ ls.length ⟨0,by omega,fun j _ h=>by omega,Keep.refl _ _,rfl,htm,t2,t41,t42,t43⟩;rintro k ⟨tm,mk⟩ H' ⟨i,hi,hp,hk,rfl,htm,t2,t41,t42,t43⟩ L hN hJ;have hn:=hk.1;have hv':=hv.keep hk;have hg':=(hk.2 rb hrb hrb).trans hg;rw[ov tm htm,t2,t41,t42,t43];by_cases hil:i < ls.length
 ·obtain⟨w,r1,r2,r3⟩:=hv'.elem i hil;simp(disch:=omega) only[ak,↓aj,seval,nC,↓hv.idx,r1,↓r2.ln];refine BY r2 (hll _ (bQ hil)) hg' (by omega) hlo rfl rfl rfl rfl rfl (fun hall H2 tm2 k2 a1 a2 a3 a4 a5=>?_) (fun hex H2 tm2 k2=>?_)
  ·rw[ov tm2 a1,a2,a3,a4,a5];simp(disch:=omega) only[ak,↓aj,seval,nC];refine hN (k - 1) _ _ (by omega) ⟨i+1,by omega,fun j h1 h2=>?_,hk.trans (k2.lower hn),rfl,rfl,rfl,rfl,rfl,rfl⟩;by_cases hj:j=i
   ·subst hj;exact hall
   ·exact hp j h1 (by omega)
  ·simp(disch:=omega) only[ak,↓aj,seval,nC,hJ]
   obtain⟨a,ha,hb⟩:=hex;exact hR ⟨a,List.mem_flatten.2 ⟨_,bQ hil,ha⟩,hb⟩ _ _ (hk.trans (k2.lower hn))
 ·simp(disch:=omega) only[ak,↓aj,seval,nC,hJ]
  refine hQ (fun a ha=>?_) _ _ hk;obtain⟨l,hl,ha⟩:=List.mem_flatten.1 ha;obtain⟨j,hj,rfl⟩:=List.mem_iff_getElem.1 hl;exact hp j hj (by omega) a ha
def KeepB(b:Nat)(H H':Heap):Prop:=H.n≤H'.n∧∀x,x < H.n→x≠b→H'.get x=H.get x
theorem KeepB.refl(b:Nat)(H:Heap):KeepB b H H:=⟨au _,fun _ _ _=>rfl⟩
theorem KeepB.trans{b:Nat}{A B C:Heap}(h:KeepB b A B)(k:KeepB b B C):KeepB b A C:=
 ⟨dH h.1 k.1,fun x h1 h2=>(k.2 x (dK h1 h.1) h2).trans (h.2 x h1 h2)⟩
theorem KeepB.of{b:Nat}{A B:Heap}(h:Keep A.n A B):KeepB b A B:=⟨h.1,fun x h1 _=>h.2 x h1 h1⟩
theorem KeepB.put{b:Nat}{H:Heap}{ob:IObj}:KeepB b H (H.put b ob):=⟨au _,fun x _ h=>by rw[ae,if_neg (Ne.symm h)]⟩
theorem oX{α:Type}[Cell α]{H H':Heap}{v:SV}{l:List α}{b:Nat}{es:List (IV×IV×Nat)}{c:Nat}(h:Sl H v l)(k:KeepB b H H')(hb:H.get b=some (.map es c)):Sl H' v l:=
 h.same k.1 fun hl=>k.2 _ (h.blk_lt hl) (h.off hl hb (by simp))
theorem Al{α:Type}[Cell α]{H H':Heap}{v:SV}{ls:List (List α)}{b:Nat}{es:List (IV×IV×Nat)}{c:Nat}(h:Sl2 H v ls)(k:KeepB b H H')(hb:H.get b=some (.map es c)):Sl2 H' v ls:=by
 obtain⟨vs,h1,h2,h3⟩:=h;exact⟨vs,oX h1 k hb,h2,fun i a b=>oX (h3 i a b) k hb⟩
theorem xC{ks:List Id}{a:Id}(h:ks.Nodup)(ha:a∉ks):(ks++[a]).Nodup:=by
 rw[xn];refine⟨h,by simp,?_⟩;intro x hx y hy;rw[zq] at hy;subst hy;exact fun e=>ha (e▸hx)
theorem zJ{ks l:List Id}{i:Nat}(hi:i < l.length)(h:l[i]∈ks++l.take i):¬(ks++l).Nodup:=by
 intro hn
 have e:ks++l=(ks++l.take i)++(l[i]::l.drop (i+1)):=by
  rw[cO,←qh hi,tZ]
 rw[e,xn] at hn;exact hn.2.2 _ h _ (nQ ..) rfl
theorem BX{w:SV}{l ks:List Id}{rb tb mb lo:Nat}{x:IV}{H:Heap}{Q:Out→Heap→Prop}{rd:Option Nat}{mk:List Nat}{tm:List IV}(hw:Sl H w l)(hl:l.length≤1000000)
  (hg:H.get rb=some (.cells false 36 1 [x])) (hrb:rb < H.n) (hlo:lo≤rb) (hgt:H.get tb=some (.cells false 193 1 [.map mb])) (htb:tb < H.n) (hmb:mb < H.n) (hlm:lo≤mb) (hm:MapIds H mb ks) (hnd:ks.Nodup) (htm:tm.length=84) (t2:tm.getD 2 IV.undef=.ptr rb 0) (t13:tm.getD 13 IV.undef=.ptr tb 0) (t71:tm.getD 71 IV.undef=w.iv) (t72:tm.getD 72 IV.undef=.int .i64 l.length) (t73:tm.getD 73 IV.undef=.int .i64 0)
  (hQ:(ks++l).Nodup→∀H' tm',KeepB mb H H'→MapIds H' mb (ks++l)→tm'.length=84→tm'.getD 2 IV.undef=.ptr rb 0→tm'.getD 13 IV.undef=.ptr tb 0→tm'.getD 65 IV.undef=tm.getD 65 IV.undef→tm'.getD 66 IV.undef=tm.getD 66 IV.undef→tm'.getD 67 IV.undef=tm.getD 67 IV.undef→Q (.ex (.jmp (.exit 14)) ⟨tm',mk⟩) H') (hR:¬(ks++l).Nodup→∀H' tm',KeepB mb H H'→Q (.ex (.jmp .ret) ⟨tm',mk⟩) (H'.put rb (.cells false 36 1 [.int .i64 8]))):W E0 lo (.code (.loop Gu) rd ⟨tm,mk⟩) H Q:=by
 refine aP (fun k fr H'=>∃i,i+k=l.length∧(ks++l.take i).Nodup∧KeepB mb H H'∧MapIds H' mb (ks++l.take i)∧fr.marks=mk∧fr.tm.length=84∧fr.tm.getD 2 IV.undef=.ptr rb 0∧fr.tm.getD 13 IV.undef=.ptr tb 0∧fr.tm.getD 71 IV.undef=w.iv∧fr.tm.getD 72 IV.undef=.int .i64 l.length∧fr.tm.getD 73 IV.undef=.int .i64 i∧fr.tm.getD 65 IV.undef=tm.getD 65 IV.undef∧fr.tm.getD 66 IV.undef=tm.getD 66 IV.undef∧fr.tm.getD 67 IV.undef=tm.getD 67 IV.undef) ?_ l.length ⟨0,by omega,by simpa using hnd,KeepB.refl _ _,by simpa using hm,rfl,htm,t2,t13,t71,t72,t73,rfl,rfl,rfl⟩;generalize tm.getD 65 IV.undef=y65 at *;generalize tm.getD 66 IV.undef=y66 at *;generalize tm.getD 67 IV.undef=y67 at *;rintro k ⟨tm,mk⟩ H' ⟨i,hi,hnd',hk,hm',rfl,htm,t2,t13,t71,t72,t73,t65,t66,t67⟩ L hN hJ;have hn:=hk.1;have hw':=oX hw hk hm;have hrm:rb≠mb:=fun e=>by subst e;have h2:H.get rb=_:=hm;rw[h2] at hg;cases hg
 have htm':tb≠mb:=fun e=>by subst e;have h2:H.get tb=_:=hm;rw[h2] at hgt;cases hgt
 have hg':=(hk.2 rb hrb hrm).trans hg;have hgt':=(hk.2 tb htb htm').trans hgt;have rt:=ah hgt';rw[ov tm htm,t2,t13,t71,t72,t73,t65,t66,t67];by_cases hil:i < l.length
 ·have r1:=hw'.read lB i hil;have kk:KeepB mb H ((H'.new (.cells false 138 2 [.int .u8 0,.int .i64 0])).put H'.n (.cells false 138 2 (Cell.cs l[i]))):=hk.trans (KeepB.of Keep.newPut)
  have hm2:MapIds ((H'.new (.cells false 138 2 [.int .u8 0,.int .i64 0])).put H'.n (.cells false 138 2 (Cell.cs l[i]))) mb (ks++l.take i):=by
   show Heap.get _ _=_
   rw[ae,if_neg (by omega),al,if_neg (by omega)];exact hm'
  have hlk:=hm2.look l[i];have eb:(H'.n=rb)=False:=by simp;omega
  by_cases hin:l[i]∈ks++l.take i
  ·rw[decide_eq_true hin] at hlk;simp only[fC] at hlk;simp(disch:=omega) only[ak,↓aj,seval,nC,↓hw.idx,r1,fC,rt,↓hlk,hg',eb,hJ];exact hR (zJ hil hin) _ _ kk
  ·rw[decide_eq_false hin] at hlk;obtain⟨ob,hup,hob⟩:=hm2.upd l[i] lo hlm;rw[if_neg hin,cO,←gv hil] at hob;simp only[fC] at hlk hup;simp(disch:=omega) only[ak,↓aj,seval,nC,↓hw.idx,r1,fC,rt,↓hlk,↓hup];refine hN (k - 1) _ _ (by omega) ⟨i+1,by omega,?_,kk.trans KeepB.put,?_,rfl,rfl,rfl,rfl,rfl,rfl,rfl,rfl,rfl,rfl⟩
   ·rw[gv hil,←cO];exact xC hnd' hin
   ·show Heap.get _ _=_
    rw[ae,if_pos rfl,hob]
 ·rw[bW (by omega)] at hnd' hm';simp(disch:=omega) only[ak,↓aj,seval,nC,hJ];exact hQ hnd' _ _ hk hm' rfl rfl rfl rfl rfl rfl
theorem mG(ls:List (List Id))(i:Nat)(h:i < ls.length):(ls.take (i+1)).flatten=(ls.take i).flatten++ls[i]:=by
 rw[gv h,iG];simp
theorem xB{ks:List Id}{ls:List (List Id)}{i:Nat}(h:i < ls.length)(hn:¬((ks++(ls.take i).flatten)++ls[i]).Nodup):¬(ks++ls.flatten).Nodup:=by
 intro hd;apply hn;rw[cO,←mG ls i h];rw[←tZ (i+1) ls,iG,←cO] at hd;exact(List.nodup_append.1 hd).1
theorem uw{v:SV}{ls:List (List Id)}{ks:List Id}{rb tb mb lo:Nat}{x:IV}{H:Heap}{Q:Out→Heap→Prop}{rd:Option Nat}{mk:List Nat}{tm:List IV}(hv:Sl2 H v ls)(hl:ls.length≤1000000)(hll:∀l∈ls,l.length≤1000000)
  (hg:H.get rb=some (.cells false 36 1 [x])) (hrb:rb < H.n) (hlo:lo≤rb) (hgt:H.get tb=some (.cells false 193 1 [.map mb])) (htb:tb < H.n) (hmb:mb < H.n) (hlm:lo≤mb) (hm:MapIds H mb ks) (hnd:ks.Nodup) (htm:tm.length=84) (t2:tm.getD 2 IV.undef=.ptr rb 0) (t13:tm.getD 13 IV.undef=.ptr tb 0) (t65:tm.getD 65 IV.undef=v.iv) (t66:tm.getD 66 IV.undef=.int .i64 ls.length) (t67:tm.getD 67 IV.undef=.int .i64 0)
  (hQ:(ks++ls.flatten).Nodup→∀H' tm',KeepB mb H H'→MapIds H' mb (ks++ls.flatten)→Q (.ex (.jmp (.exit 12)) ⟨tm',mk⟩) H') (hR:¬(ks++ls.flatten).Nodup→∀H' tm',KeepB mb H H'→Q (.ex (.jmp .ret) ⟨tm',mk⟩) (H'.put rb (.cells false 36 1 [.int .i64 8]))):W E0 lo (.code (.loop Gs) rd ⟨tm,mk⟩) H Q:=by
 refine aP (fun k fr H'=>∃i,i+k=ls.length∧(ks++(ls.take i).flatten).Nodup∧KeepB mb H H'∧MapIds H' mb (ks++(ls.take i).flatten)∧fr.marks=mk∧fr.tm.length=84∧fr.tm.getD 2 IV.undef=.ptr rb 0∧fr.tm.getD 13 IV.undef=.ptr tb 0∧fr.tm.getD 65 IV.undef=v.iv∧fr.tm.getD 66 IV.undef=.int .i64 ls.length∧fr.tm.getD 67 IV.undef=.int .i64 i) ?_ ls.length ⟨0,by omega,by simpa using hnd,KeepB.refl _ _,by simpa using hm,rfl,htm,t2,t13,t65,t66,t67⟩;rintro k ⟨tm,mk⟩ H' ⟨i,hi,hnd',hk,hm',rfl,htm,t2,t13,t65,t66,t67⟩ L hN hJ;have hn:=hk.1;have hv':=Al hv hk hm;have hrm:rb≠mb:=fun e=>by subst e;have h2:H.get rb=_:=hm;rw[h2] at hg;cases hg
 have htm':tb≠mb:=fun e=>by subst e;have h2:H.get tb=_:=hm;rw[h2] at hgt;cases hgt
 have hg':=(hk.2 rb hrb hrm).trans hg;have hgt':=(hk.2 tb htb htm').trans hgt;rw[ov tm htm,t2,t13,t65,t66,t67];by_cases hil:i < ls.length
 ·obtain⟨w,r1,r2,r3⟩:=hv'.elem i hil;simp(disch:=omega) only[ak,↓aj,seval,nC,↓hv.idx,r1,↓r2.ln];refine BX r2 (hll _ (bQ hil)) hg' (by omega) hlo hgt' (by omega) (by omega) hlm hm' hnd' rfl rfl rfl rfl rfl rfl (fun hall H2 tm2 k2 m2 a1 a2 a3 a4 a5 a6=>?_) (fun hex H2 tm2 k2=>?_)
  ·rw[ov tm2 a1,a2,a3,a4,a5,a6];simp(disch:=omega) only[ak,↓aj,seval,nC];refine hN (k - 1) _ _ (by omega) ⟨i+1,by omega,?_,hk.trans k2,?_,rfl,rfl,rfl,rfl,rfl,rfl,rfl⟩
   ·rw[mG ls i hil,←cO];exact hall
   ·rw[mG ls i hil,←cO];exact m2
  ·simp(disch:=omega) only[ak,↓aj,seval,nC,hJ]
   exact hR (xB hil hex) _ _ (hk.trans k2)
 ·rw[bW (by omega)] at hnd' hm';simp(disch:=omega) only[ak,↓aj,seval,nC,hJ];exact hQ hnd' _ _ hk hm'
def nq(ls:List (List Id)):Bool:=decide (ls.length>40)||ls.any fun l=>decide (l.length>4)
def aW(fs bs:List (List Id)):Int:=
 if nq fs=true∨nq bs=true then 9
 else if (fs++bs).flatten.all bM=false then 1
 else if (fs++bs).flatten.Nodup then 0 else 8
theorem ss{f b:SV}{fs bs:List (List Id)}{H:Heap}{lo:Nat}{Q:Out→Heap→Prop}(hf:Sl2 H f fs)(hb:Sl2 H b bs)(hlf:fs.length≤1000000)(hlb:bs.length≤1000000)(hl:∀l∈fs,l.length≤1000000)(hl':∀l∈bs,l.length≤1000000)(hlo:lo≤H.n)
  (h:∀H',Keep H.n H H'→Q (.val (.int .i64 (aW fs bs))) H'):W E0 lo (.call 60 [bv f b]) H Q:=by
 refine gw _ hlo h fun R hR=>?_;clear h;rw[c60];have full1:∀ls:List (List Id),ls.length>40→nq ls=true:=fun ls h=>by simp[nq,h]
 have full2:∀ls:List (List Id),(∃l∈ls,l.length>4)→nq ls=true:=fun ls ⟨l,h1,h2⟩=>by
  unfold nq;rw[kF];exact .inr (List.any_eq_true.2 ⟨l,h1,decide_eq_true h2⟩)
 have full3:∀ls:List (List Id),¬ls.length>40→(∀l∈ls,l.length≤4)→nq ls=false:=fun ls h1 h2=>by
  unfold nq;rw[decide_eq_false h1,Bool.false_or,List.any_eq_false];intro l hl;have:=h2 l hl;simp;omega
 by_cases h40:fs.length>40
 ·have:aW fs bs=9:=by unfold aW;rw[if_pos (.inl (full1 _ h40))]
  rw[this] at hR;simp(disch:=omega) only[ak,↓aj,seval,EO,lA,lz,bv,Qn,Qm,↓hf.ln];exact hR _
 simp(disch:=omega) only[ak,↓aj,seval,EO,lA,lz,bv,Qn,Qm,↓hf.ln]
 generalize hH1:Heap.put _ _ _=H1;have hn1:H1.n=H.n+5:=by rw[←hH1];rfl
 have g0:=congrArg (fun h0=>Heap.get h0 (H.n)) hH1.symm;simp(disch:=omega) only[ak,↓aj,seval] at g0;have g1:=congrArg (fun h0=>Heap.get h0 (H.n+1)) hH1.symm;simp(disch:=omega) only[ak,↓aj,seval] at g1;have g2:=congrArg (fun h0=>Heap.get h0 (H.n+2)) hH1.symm;simp(disch:=omega) only[ak,↓aj,seval] at g2;have g3:=congrArg (fun h0=>Heap.get h0 (H.n+3)) hH1.symm;simp(disch:=omega) only[ak,↓aj,seval] at g3;have g4:=congrArg (fun h0=>Heap.get h0 (H.n+4)) hH1.symm;simp(disch:=omega) only[ak,↓aj,seval] at g4
 have k1:Keep H.n H H1:=⟨by omega,fun x hx _=>by
  have gx:=congrArg (fun h0=>Heap.get h0 x) hH1.symm;simp(disch:=omega) only[ak,↓aj,seval] at gx;exact gx⟩
 clear hH1;refine uy (hf.keep k1) hlf hl g1 (by omega) rfl rfl rfl rfl rfl (fun hall tm'=>?_) (fun hex tm'=>?_)
 case refine_2=>
  have:aW fs bs=9:=by unfold aW;rw[if_pos (.inl (full2 _ hex))]
  rw[this] at hR;simp(disch:=omega) only[ak,↓aj,seval,EO,lA,lz,g3,g4];exact hR _
 have hff:=full3 fs h40 hall;have r2:=ah g2;by_cases h40':bs.length>40
 ·have:aW fs bs=9:=by unfold aW;rw[if_pos (.inr (full1 _ h40'))]
  rw[this] at hR;simp(disch:=omega) only[ak,↓aj,seval,EO,lA,lz,g1,g3,g4,r2,↓hb.ln];exact hR _
 simp(disch:=omega) only[ak,↓aj,seval,EO,lA,lz,g1,g3,g4,r2,↓hb.ln]
 generalize hH2:Heap.put _ _ _=H2;have hn2:H2.n=H.n+5:=by rw[←hH2];exact hn1
 have f4:=congrArg (fun h0=>Heap.get h0 (H.n+4)) hH2.symm;simp(disch:=omega) only[ak,↓aj,seval] at f4;have k2:∀x,x≠H.n+4→H2.get x=H1.get x:=fun x hx=>by rw[←hH2,ae,if_neg (Ne.symm hx),ae,if_neg (Ne.symm hx)]
 clear hH2;have f0:=(k2 (H.n) (by omega)).trans g0;have f1:=(k2 (H.n+1) (by omega)).trans g1;have f3:=(k2 (H.n+3) (by omega)).trans g3;have kk2:Keep H.n H H2:=⟨by omega,fun x hx _=>(k2 x (by omega)).trans (k1.2 x hx hx)⟩;clear g0 g1 g2 g3 g4 r2 k2 k1 hn1;refine uy (hb.keep kk2) hlb hl' f1 (by omega) rfl rfl rfl rfl rfl (fun hall' tm2=>?_) (fun hex tm2=>?_)
 case refine_2=>
  have:aW fs bs=9:=by unfold aW;rw[if_pos (.inr (full2 _ hex))]
  rw[this] at hR;simp(disch:=omega) only[ak,↓aj,seval,EO,lA,lz,f3,f4];exact hR _
 have hfb:=full3 bs h40' hall';have r0:=ah f0;simp(disch:=omega) only[ak,↓aj,seval,EO,lA,lz,f3,f4,r0,Qn,Qm,↓hf.ln];generalize hH3:Heap.put _ _ _=H3;have hn3:H3.n=H2.n+3:=by rw[←hH3];rfl
 have p0:=congrArg (fun h0=>Heap.get h0 (H2.n)) hH3.symm;simp(disch:=omega) only[ak,↓aj,seval] at p0;have p1:=congrArg (fun h0=>Heap.get h0 (H2.n+1)) hH3.symm;simp(disch:=omega) only[ak,↓aj,seval] at p1;have p2:=congrArg (fun h0=>Heap.get h0 (H2.n+2)) hH3.symm;simp(disch:=omega) only[ak,↓aj,seval] at p2
 have k3:∀x,x < H2.n→x≠H.n+4→H3.get x=H2.get x:=fun x h1 h2=>by
  rw[←hH3,ae,if_neg (by omega),al,if_neg (by simp only[ac,af];omega),al,if_neg (by simp only[ac,af];omega),al,if_neg (by simp only[ac,af];omega),ae,if_neg (Ne.symm h2),ae,if_neg (Ne.symm h2)]
 clear hH3;have q0:=(k3 (H.n) (by omega) (by omega)).trans f0;have q1:=(k3 (H.n+1) (by omega) (by omega)).trans f1;have q3:=(k3 (H.n+3) (by omega) (by omega)).trans f3;have kk3:Keep H.n H H3:=⟨by omega,fun x hx _=>(k3 x (by omega) (by omega)).trans (kk2.2 x hx hx)⟩;clear f0 f1 f3 f4 r0 k3 kk2
 have bad1:∀ls:List (List Id),(ls=fs∨ls=bs)→(∃a∈ls.flatten,bM a=false)→aW fs bs=1:=by
  intro ls hls ⟨a,h1,h2⟩
  have:(fs++bs).flatten.all bM=false:=by
   rw[List.all_eq_false];refine⟨a,?_,by rw[h2];simp⟩;rw[iG,nP];rcases hls with rfl | rfl
   ·exact .inl h1
   ·exact .inr h1
  unfold aW;rw[if_neg (by rw[hff,hfb];simp),if_pos this]
 refine ux (hf.keep kk3) hlf hl q1 (by omega) (by omega) rfl rfl rfl rfl rfl (fun hnf H4 tm4 k4=>?_) (fun hex H4 tm4 k4=>?_)
 case refine_2=>
  have u1:=(k4.2 _ (by omega) (by omega)).trans p1;have u2:=(k4.2 _ (by omega) (by omega)).trans p2;have u3:=(k4.2 _ (by omega) (by omega)).trans q3;rw[bad1 fs (.inl rfl) hex] at hR;simp(disch:=omega) only[ak,↓aj,seval,EO,lA,lz,u1,u2,u3];exact hR _
 have hn4:=k4.1;have s0:=(k4.2 _ (by omega) (by omega)).trans p0;have s1:=(k4.2 _ (by omega) (by omega)).trans p1;have s2:=(k4.2 _ (by omega) (by omega)).trans p2;have v0:=(k4.2 _ (by omega) (by omega)).trans q0;have v1:=(k4.2 _ (by omega) (by omega)).trans q1;have v3:=(k4.2 _ (by omega) (by omega)).trans q3;have kk4:Keep H.n H H4:=kk3.trans (k4.lower (by omega));have rs0:=ah s0;clear p0 p1 p2 q0 q1 q3;simp(disch:=omega) only[ak,↓aj,seval,EO,lA,lz,s1,s2,rs0,↓hb.ln];generalize hH5:Heap.put _ _ _=H5;have hn5:H5.n=H4.n:=by rw[←hH5];rfl
 have p2:=congrArg (fun h0=>Heap.get h0 (H2.n+2)) hH5.symm;simp(disch:=omega) only[ak,↓aj,seval] at p2;have k5:∀x,x≠H2.n+2→H5.get x=H4.get x:=fun x hx=>by rw[←hH5,ae,if_neg (Ne.symm hx),ae,if_neg (Ne.symm hx)]
 clear hH5;have p1:=(k5 (H2.n+1) (by omega)).trans s1;have q0:=(k5 (H.n) (by omega)).trans v0;have q1:=(k5 (H.n+1) (by omega)).trans v1;have q3:=(k5 (H.n+3) (by omega)).trans v3;have kk5:Keep H.n H H5:=⟨by omega,fun x hx _=>(k5 x (by omega)).trans (kk4.2 x hx hx)⟩;clear s0 s1 s2 v0 v1 v3 rs0 k5 kk4;refine ux (hb.keep kk5) hlb hl' q1 (by omega) (by omega) rfl rfl rfl rfl rfl (fun hnb H6 tm6 k6=>?_) (fun hex H6 tm6 k6=>?_)
 case refine_2=>
  have u1:=(k6.2 _ (by omega) (by omega)).trans p1;have u2:=(k6.2 _ (by omega) (by omega)).trans p2;have u3:=(k6.2 _ (by omega) (by omega)).trans q3;rw[bad1 bs (.inr rfl) hex] at hR;simp(disch:=omega) only[ak,↓aj,seval,EO,lA,lz,u1,u2,u3];exact hR _
 have hn6:=k6.1;have s1:=(k6.2 _ (by omega) (by omega)).trans p1;have s2:=(k6.2 _ (by omega) (by omega)).trans p2;have v0:=(k6.2 _ (by omega) (by omega)).trans q0;have v1:=(k6.2 _ (by omega) (by omega)).trans q1;have v3:=(k6.2 _ (by omega) (by omega)).trans q3;have kk6:Keep H.n H H6:=kk5.trans (k6.lower (by omega));have rv0:=ah v0;clear p1 p2 q0 q1 q3
 have hall6:(fs++bs).flatten.all bM=true:=by
  rw[rq];intro a ha;rw[iG,nP] at ha;rcases ha with ha | ha
  ·exact hnf a ha
  ·exact hnb a ha
 simp(disch:=omega) only[ak,↓aj,seval,EO,lA,lz,s1,s2,rv0]
 generalize hH7:Heap.put _ _ _=H7;have hn7:H7.n=H6.n:=by rw[←hH7];rfl
 have k7:∀x,x≠H2.n+2→H7.get x=H6.get x:=fun x hx=>by rw[←hH7,ae,if_neg (Ne.symm hx),ae,if_neg (Ne.symm hx)]
 clear hH7;have p1:=(k7 (H2.n+1) (by omega)).trans s1;have q0:=(k7 (H.n) (by omega)).trans v0;have q1:=(k7 (H.n+1) (by omega)).trans v1;have q3:=(k7 (H.n+3) (by omega)).trans v3;have kk7:Keep H.n H H7:=⟨by omega,fun x hx _=>(k7 x (by omega)).trans (kk6.2 x hx hx)⟩;clear s1 s2 v0 v1 v3 rv0 k7 kk6;have hbv:IV.agg [f.iv,b.iv]=bv f b:=rfl;rw[hbv];refine Ef (hf.keep kk7) (hb.keep kk7) hlf hlb hl hl' (by omega) fun H8 k8=>?_;have hn8:=k8.1;have s1:=(k8.2 _ (by omega) (by omega)).trans p1;have v0:=(k8.2 _ (by omega) (by omega)).trans q0;have v1:=(k8.2 _ (by omega) (by omega)).trans q1;have v3:=(k8.2 _ (by omega) (by omega)).trans q3;have kk8:Keep H.n H H8:=kk7.trans (k8.lower (by omega));have rv0:=ah v0;clear p1 q0 q1 q3;simp(disch:=omega) only[ak,↓aj,seval,EO,lA,lz,bv,rv0,Qn,Qm,↓hf.ln];generalize hH9:Heap.put _ _ _=H9;have hn9:H9.n=H8.n+5:=by rw[←hH9];rfl
 have m0:=congrArg (fun h0=>Heap.get h0 (H8.n)) hH9.symm;simp(disch:=omega) only[ak,↓aj,seval] at m0;have m1:=congrArg (fun h0=>Heap.get h0 (H8.n+1)) hH9.symm;simp(disch:=omega) only[ak,↓aj,seval] at m1;have m2:=congrArg (fun h0=>Heap.get h0 (H8.n+2)) hH9.symm;simp(disch:=omega) only[ak,↓aj,seval] at m2;have m3:=congrArg (fun h0=>Heap.get h0 (H8.n+3)) hH9.symm;simp(disch:=omega) only[ak,↓aj,seval] at m3;have m4:=congrArg (fun h0=>Heap.get h0 (H8.n+4)) hH9.symm;simp(disch:=omega) only[ak,↓aj,seval] at m4
 have k9:∀x,x < H8.n→H9.get x=H8.get x:=fun x h1=>by
  have gx:=congrArg (fun h0=>Heap.get h0 x) hH9.symm;simp(disch:=omega) only[ak,↓aj,seval] at gx;exact gx
 clear hH9;have p1:=(k9 (H2.n+1) (by omega)).trans s1;have q1:=(k9 (H.n+1) (by omega)).trans v1;have q3:=(k9 (H.n+3) (by omega)).trans v3;have kk9:Keep H.n H H9:=⟨by omega,fun x hx _=>(k9 x (by omega)).trans (kk8.2 x hx hx)⟩;clear s1 v0 v1 v3 rv0 k9 kk8
 have dup1:¬(fs++bs).flatten.Nodup→aW fs bs=8:=fun hd=>by
  unfold aW;rw[if_neg (by rw[hff,hfb];simp),if_neg (by rw[hall6];simp),if_neg hd]
 refine uw (ks:=[]) (hf.keep kk9) hlf hl q1 (by omega) (by omega) m1 (by omega) (by omega) (by omega) m0 List.nodup_nil rfl rfl rfl rfl rfl rfl (fun hnd H10 tm10 k10 mm10=>?_) (fun hex H10 tm10 k10=>?_)
 case refine_2=>
  have u1:=(k10.2 _ (by omega) (by omega)).trans m3;have u2:=(k10.2 _ (by omega) (by omega)).trans m4;have u3:=(k10.2 _ (by omega) (by omega)).trans p1;have u4:=(k10.2 _ (by omega) (by omega)).trans q3;rw[dup1 (fun hd=>hex (by rw[iG] at hd;rw[tU];exact(List.nodup_append.1 hd).1))] at hR;simp(disch:=omega) only[ak,↓aj,seval,EO,lA,lz,u1,u2,u3,u4];exact hR _
 rw[tU] at hnd mm10;have hn10:=k10.1;have mg:H9.get H8.n=some (.map (iH [] 0) 0):=m0;have s1:=(k10.2 _ (by omega) (by omega)).trans m1;have s2:=(k10.2 _ (by omega) (by omega)).trans m2;have s3:=(k10.2 _ (by omega) (by omega)).trans m3;have s4:=(k10.2 _ (by omega) (by omega)).trans m4;have s5:=(k10.2 _ (by omega) (by omega)).trans p1;have s6:=(k10.2 _ (by omega) (by omega)).trans q1;have s7:=(k10.2 _ (by omega) (by omega)).trans q3;have hb10:=Al (hb.keep kk9) k10 mg;have rs2:=ah s2;clear m0 m1 m2 m3 m4 p1 q1 q3 mg k10;simp(disch:=omega) only[ak,↓aj,seval,EO,lA,lz,s4,rs2,↓hb.ln];generalize hH11:Heap.put _ _ _=H11;have hn11:H11.n=H10.n:=by rw[←hH11];rfl
 have p4:=congrArg (fun h0=>Heap.get h0 (H8.n+4)) hH11.symm;simp(disch:=omega) only[ak,↓aj,seval] at p4;have k11:KeepB (H8.n+4) H10 H11:=⟨by omega,fun x _ hx=>by rw[←hH11,ae,if_neg (Ne.symm hx),ae,if_neg (Ne.symm hx)]⟩;clear hH11;have p1:=(k11.2 _ (by omega) (by omega)).trans s1;have p3:=(k11.2 _ (by omega) (by omega)).trans s3;have p5:=(k11.2 _ (by omega) (by omega)).trans s5;have p6:=(k11.2 _ (by omega) (by omega)).trans s6;have p7:=(k11.2 _ (by omega) (by omega)).trans s7;have mm11:MapIds H11 H8.n fs.flatten:=(k11.2 _ (by omega) (by omega)).trans mm10
 have hb11:Sl2 H11 b bs:=by
  obtain⟨vs,h1,h2,h3⟩:=hb10;exact⟨vs,h1.same k11.1 fun hl=>k11.2 _ (h1.blk_lt hl) (h1.off hl s4 (by simp)),h2,fun i a b=>(h3 i a b).same k11.1 fun hl=>k11.2 _ ((h3 i a b).blk_lt hl) ((h3 i a b).off hl s4 (by simp))⟩
 clear s1 s2 s3 s4 s5 s6 s7 rs2 k11 mm10 hb10;refine uw (ks:=fs.flatten) hb11 hlb hl' p6 (by omega) (by omega) p1 (by omega) (by omega) (by omega) mm11 hnd rfl rfl rfl rfl rfl rfl (fun hnd' H12 tm12 k12 mm12=>?_) (fun hex H12 tm12 k12=>?_)
 case refine_2=>
  have u1:=(k12.2 _ (by omega) (by omega)).trans p3;have u2:=(k12.2 _ (by omega) (by omega)).trans p4;have u3:=(k12.2 _ (by omega) (by omega)).trans p5;have u4:=(k12.2 _ (by omega) (by omega)).trans p7;rw[dup1 (by rw[iG];exact hex)] at hR;simp(disch:=omega) only[ak,↓aj,seval,EO,lA,lz,u1,u2,u3,u4];exact hR _
 have hn12:=k12.1;have u1:=(k12.2 _ (by omega) (by omega)).trans p3;have u2:=(k12.2 _ (by omega) (by omega)).trans p4;have u3:=(k12.2 _ (by omega) (by omega)).trans p5;have u4:=(k12.2 _ (by omega) (by omega)).trans p7;have u5:=(k12.2 _ (by omega) (by omega)).trans p6
 have ok:aW fs bs=0:=by
  unfold aW;rw[if_neg (by rw[hff,hfb];simp),if_neg (by rw[hall6];simp),if_pos (by rw[iG];exact hnd')]
 rw[ok] at hR;simp(disch:=omega) only[ak,↓aj,seval,EO,lA,lz,u1,u2,u3,u4,u5];exact hR _
end Go.Iso.Gen
end
section
namespace Go.Iso
def Sl2F{α:Type}[Cell α](n0:Nat)(H:Heap)(v:SV)(ls:List (List α)):Prop:=∃vs:List SV,Sl H v vs∧vs.length=ls.length∧(vs≠[]→n0≤v.blk)∧∀(i:Nat) (h:i < ls.length) (h':i < vs.length),Sl H vs[i] ls[i]∧(ls[i]≠[]→n0≤vs[i].blk)
theorem Sl2F.sl2{α:Type}[Cell α]{n0:Nat}{H:Heap}{v:SV}{ls:List (List α)}(h:Sl2F n0 H v ls):Sl2 H v ls:=by
 obtain⟨vs,h1,h2,h3,h4⟩:=h;exact⟨vs,h1,h2,fun i a b=>(h4 i a b).1⟩
theorem Sl2F.keep{α:Type}[Cell α]{n0:Nat}{H H':Heap}{v:SV}{ls:List (List α)}(h:Sl2F n0 H v ls)(k:Keep H.n H H'):Sl2F n0 H' v ls:=by
 obtain⟨vs,h1,h2,h3,h4⟩:=h;exact⟨vs,h1.keep k,h2,h3,fun i a b=>⟨(h4 i a b).1.keep k,(h4 i a b).2⟩⟩
theorem Sl2F.put{α:Type}[Cell α]{n0 x:Nat}{H:Heap}{v:SV}{ls:List (List α)}{ob:IObj}(h:Sl2F n0 H v ls)(hx:x < n0):Sl2F n0 (H.put x ob) v ls:=by
 obtain⟨vs,h1,h2,h3,h4⟩:=h;refine⟨vs,h1.same (au _) fun hl=>?_,h2,h3,fun i a b=>⟨(h4 i a b).1.same (au _) fun hl=>?_,(h4 i a b).2⟩⟩
 ·have:=h3 hl
  rw[ae,if_neg (by omega)]
 ·have:=(h4 i a b).2 hl
  rw[ae,if_neg (by omega)]
theorem Sl2F.lower{α:Type}[Cell α]{n0 n1:Nat}{H:Heap}{v:SV}{ls:List (List α)}(h:Sl2F n0 H v ls)(hn:n1≤n0):Sl2F n1 H v ls:=by
 obtain⟨vs,h1,h2,h3,h4⟩:=h;exact⟨vs,h1,h2,fun a=>dH hn (h3 a),fun i a b=>⟨(h4 i a b).1,fun c=>dH hn ((h4 i a b).2 c)⟩⟩
end Go.Iso
namespace Go.Iso.Gen
open Go.Iso
def li(ls:List (List Id))(at_:Nat)(l:List Id):List (List Id):=
 if at_=0 then ls else(ls++List.replicate (at_ - ls.length) []).set (at_ - 1) l
def lQ(ls:List (List Id))(at_:Nat)(l:List Id):List (List Id):=(li ls at_ l).take (aU (li ls at_ l))
def FS(tm:List IV)(h:tm.length=44):=(cS tm 44 h).trans (by simp only[List.range,List.range.loop,bI,bj];exact rfl)
theorem OW{b2 lo:Nat}{rs:List (List Id)}{H0 H:Heap}{vs:List SV}{Q:Out→Heap→Prop}{tm:List IV}(hlo:lo≤b2)(hb2:H0.n≤b2)(hl:rs.length≤1000000)(hll:∀l∈rs,l.length≤1000000)(hvs:vs.length=rs.length)(ho:Own H b2 31 rs.length vs)(hs:∀j (h:j < rs.length) (h':j < vs.length),Sl H vs[j] rs[j]∧(rs[j]≠[]→vs[j].blk≠b2))(hk:Keep H0.n H0 H)
  (htm:tm.length=44) (t7:tm.getD 7 IV.undef=.slice b2 0 rs.length rs.length true) (t30:tm.getD 30 IV.undef=.slice b2 0 rs.length rs.length true) (t31:tm.getD 31 IV.undef=.int .i64 rs.length) (t32:tm.getD 32 IV.undef=.int .i64 0)
  (hQ:∀H' tm' vs',vs'.length=rs.length→Own H' b2 31 rs.length vs'→(∀j (h:j < rs.length) (h':j < vs'.length),Sl H' vs'[j] rs[j]∧(rs[j]≠[]→H0.n≤vs'[j].blk))→Keep H0.n H0 H'→tm'.length=44→tm'.getD 7 IV.undef=.slice b2 0 rs.length rs.length true→Q (.ex (.jmp (.exit 0)) ⟨tm',[]⟩) H'):W E0 lo (.code (.loop vS) none ⟨tm,[]⟩) H Q:=by
 refine aP (fun k fr H'=>∃i vs,i+k=rs.length∧vs.length=rs.length∧Own H' b2 31 rs.length vs∧(∀j (h:j < rs.length) (h':j < vs.length),Sl H' vs[j] rs[j]∧(rs[j]≠[]→vs[j].blk≠b2∧(j < i→H0.n≤vs[j].blk)))∧Keep H0.n H0 H'∧fr.marks=[]∧fr.tm.length=44∧fr.tm.getD 7 IV.undef=.slice b2 0 rs.length rs.length true∧fr.tm.getD 30 IV.undef=.slice b2 0 rs.length rs.length true∧fr.tm.getD 31 IV.undef=.int .i64 rs.length∧fr.tm.getD 32 IV.undef=.int .i64 i) ?_ rs.length ⟨0,vs,by omega,hvs,ho,fun j h h'=>⟨(hs j h h').1,fun hl=>⟨(hs j h h').2 hl,fun h0=>by omega⟩⟩,hk,rfl,htm,t7,t30,t31,t32⟩;clear hvs ho hs hk vs htm t7 t30 t31 t32;rintro k ⟨tm,mk⟩ H' ⟨i,vs,hi,hvs,ho,hs,hk,rfl,htm,t7,t30,t31,t32⟩ L hN hJ;rw[FS tm htm,t7,t30,t31,t32];rw[←oY];have hn:=hk.1;have hb2n:=ho.2.1;have hsl:=ho.sl true;rw[hvs] at hsl;by_cases hil:i < rs.length
 ·have r1:=hsl.read nu i (by omega);simp only[mj,tH,sm,cu] at r1;obtain⟨hi1,hi2⟩:=hs i hil (by omega);have hx:(i:Int) < vs.length:=by omega
  simp(disch:=omega) only[ak,↓aj,seval,abE,↓hsl.idx,r1]
  refine jg hi1 (hll _ (bQ hil)) (by omega) fun H2 c k2 hc ho2=>?_;have hn2:=k2.1;have hoo:=ho.keep k2;rw[←hvs] at hoo;have hfull:=hoo.full;have hoo':=hoo.put nu i (by omega) (.sl c 0 rs[i].length rs[i].length true);simp only[nu,sm] at hoo' hfull;have hfl:(aG vs).length=vs.length:=by rw[aw,nu,lL]
  have e1:(i*1+1≤(aG vs).length)=True:=by rw[hfl];simp;omega
  simp(disch:=omega) only[ak,↓aj,seval,abE,↓hsl.idx,hfull,e1]
  rw[hvs] at hoo';refine hN (k - 1) _ _ (by omega) ⟨i+1,_,by omega,by simpa using hvs,hoo',fun j h1 h2=>?_,(hk.trans (k2.lower hn)).trans (.put _ _ (by omega)),rfl,rfl,rfl,rfl,rfl,rfl⟩;have hsame:∀(w:SV) (l:List Id),Sl H2 w l→(l≠[]→w.blk≠b2)→∀ob,Sl (H2.put b2 ob) w l:=fun w l h1 h2 ob=>h1.same (au _) fun hl=>by rw[ae,if_neg (Ne.symm (h2 hl))]
  by_cases hj:j=i
  ·subst hj;rw[qe];have hcb:c≠b2:=by omega
   exact⟨hsame _ _ (ho2.sl true) (fun _=>hcb) _,fun _=>⟨hcb,fun _=>by rw[mj];omega⟩⟩
  ·rw[j0 (Ne.symm hj)];obtain⟨q1,q2⟩:=hs j h1 (by omega);exact⟨hsame _ _ (q1.keep k2) (fun hl=>(q2 hl).1) _,fun hl=>⟨(q2 hl).1,fun h=>(q2 hl).2 (by omega)⟩⟩
 ·simp(disch:=omega) only[ak,↓aj,seval,abE,hJ]
  exact hQ _ _ vs hvs ho (fun j h1 h2=>⟨(hs j h1 h2).1,fun hl=>((hs j h1 h2).2 hl).2 (by omega)⟩) hk rfl rfl
theorem uf(ls:List (List Id))(at_:Nat)(l:List Id):(li ls at_ l).length=max ls.length at_:=by
 unfold li;split
 ·omega
 ·rw[cI,bn,qc];omega
theorem Dm(ls:List (List Id))(at_:Nat)(l:List Id)(m:Nat)(h:∀x∈ls,x.length≤m)(hl:l.length≤m):∀x∈li ls at_ l,x.length≤m:=by
 intro x hx;unfold li at hx;split at hx
 ·exact h x hx
 ·rcases rv hx with hx | hx
  ·rw[nP,List.mem_replicate] at hx;rcases hx with hx | ⟨_,rfl⟩
   ·exact h x hx
   ·simp
  ·subst hx;exact hl
theorem aj2{H:Heap}{us:List SV}{ls:List (List Id)}{w:SV}{l:List Id}{at_:Nat}(hu:us.length=ls.length)(hs:∀j (h:j < ls.length) (h':j < us.length),Sl H us[j] ls[j])(hw:Sl H w l):
  ∀j (h:j < (li ls at_ l).length) (h':j < ((if at_=0 then us else(us++List.replicate (at_ - us.length) SV.nil).set (at_ - 1) w)).length),Sl H ((if at_=0 then us else(us++List.replicate (at_ - us.length) SV.nil).set (at_ - 1) w))[j] (li ls at_ l)[j]:=by
 intro j h h';by_cases h0:at_=0
 ·simp only[li,h0,if_true] at h h'⊢;exact hs j h h'
 ·simp only[li,h0,if_false] at h h'⊢;by_cases hj:at_ - 1=j
  ·subst hj;rw[qe,qe];exact hw
  ·rw[j0 hj,j0 hj];by_cases hjl:j < ls.length
   ·rw[ub (by omega),ub hjl];exact hs j hjl (by omega)
   ·rw[zw (by omega),zw (by omega),Fl,Fl];rfl
theorem Bq{v w:SV}{ls:List (List Id)}{l:List Id}(at_:Nat){H:Heap}{lo:Nat}{Q:Out→Heap→Prop}(hv:Sl2 H v ls)(hw:Sl H w l)(hls:ls.length≤100000)(hat:at_≤100000)(hll:∀x∈ls,x.length≤1000000)(hl:l.length≤1000000)(hlo:lo≤H.n)
  (h:∀H' b,Keep H.n H H'→Sl2F H.n H' (.sl b 0 (lQ ls at_ l).length (lQ ls at_ l).length true) (lQ ls at_ l)→Q (.val (SV.sl b 0 (lQ ls at_ l).length (lQ ls at_ l).length true).iv) H'):W E0 lo (.call 200 [v.iv,.int .i64 at_,w.iv]) H Q:=by
 refine W.pure bJ hlo ?_;rw[arc];obtain⟨us,hu1,hu2,hu3⟩:=hv;have hmax:(if (at_:Int)>(ls.length:Int) then(at_:Int) else(ls.length:Int))=((max ls.length at_:Nat):Int):=by split<;>omega
 obtain⟨n,hn⟩:∃n,n=max ls.length at_:=⟨_,rfl⟩
 rw[←hn] at hmax;have ho1:=Own.mksl (H:=H) (e:=31) (n:=n) nu SV.nil;simp only[sm,Am] at ho1;have k1:Keep H.n H (H.new (.cells false 31 1 (nn n [.nilSlice]))):=Keep.new _ _;obtain⟨H2,e2,n2,g2,ho2⟩:=Qf (ex:=true) ho1 (by simp) (hu1.keep k1) nu H.n (by omega) (au _);have hcp:us++(List.replicate n SV.nil).drop us.length=us++List.replicate (n - us.length) SV.nil:=by rw[List.drop_replicate]
 rw[hcp] at ho2;have hlu:∀lo H',ev1 .lenSl [v.iv] lo H'=some (.int .i64 ls.length,H'):=fun lo H'=>by rw[hu1.ln,hu2]
 have kk2:Keep H.n H H2:=⟨by rw[n2,ac];omega,fun x h1 _=>by rw[g2 x (by omega),al,if_neg (by omega)]⟩;rw[ac] at n2
 have key:∀(H3:Heap) (xs:List SV),xs=(if at_=0 then us else(us++List.replicate (at_ - us.length) SV.nil).set (at_ - 1) w)→H3.n=H.n+1→Keep H.n H H3→Own H3 H.n 31 n xs→
   ∀tm,tm.length=44→tm.getD 7 IV.undef=.slice H.n 0 n n true→W E0 H.n (.code (.seq GD (.seq (.seq GC (.block 0 (.loop vS))) (.seq Ch .ret))) none ⟨tm,[]⟩) H3 (nN H.n F200.results fun o H'=>Keep H.n H H'→Q o H'):=by
  intro H3 xs hxs hn3 k3 ho3 tm htm t7;have hps:=aj2 (at_:=at_) hu2 (fun j a b=>(hu3 j a b).keep k3) (hw.keep k3);rw[←hxs] at hps;have hpl:=uf ls at_ l
  have hxl:xs.length=n:=by
   rw[hxs];split
   ·omega
   ·rw[cI,bn,qc];omega
  have hs3:=ho3.sl true;rw[hxl] at hs3;have hv3:Sl2 H3 (.sl H.n 0 n n true) (li ls at_ l):=⟨xs,hs3,by omega,fun j a b=>hps j a b⟩;have hsh:=gq (li ls at_ l);rw[FS tm htm,t7,←oY];simp(disch:=omega) only[ak,↓aj,seval,abL];refine Od hv3 (by omega) ?_;simp(disch:=omega) only[ak,↓aj,seval,abL,bm,bU,Bool.true_or];have hpart:=Sl.part (ex':=true) (c':=n) hs3 nu (a:=0) (m:=aU (li ls at_ l)) (by omega) (by omega);rw[wZ,xf,cu] at hpart;rw[←oY];have hxt:(xs.take (aU (li ls at_ l))).length=aU (li ls at_ l):=by rw[gu];omega
  refine Eg hpart (by omega) (by omega) fun H4 b4 k4 hb4 ho4=>?_;rw[hxt] at ho4;rw[hxt];have hrl:(lQ ls at_ l).length=aU (li ls at_ l):=by unfold lQ;rw[gu];omega
  simp(disch:=omega) only[ak,↓aj,seval,abL]
  have hn4:=k4.1;refine OW (H0:=H) (rs:=lQ ls at_ l) (b2:=b4) (vs:=xs.take (aU (li ls at_ l))) (by omega) (by omega) (by omega) (fun x hx=>Dm ls at_ l 1000000 hll hl x (zt hx)) (by omega) (by rw[hrl];exact ho4) ?_ (k3.trans (k4.lower (by omega))) rfl (by rw[hrl];rfl) (by rw[hrl];rfl) (by rw[hrl];rfl) rfl ?_
  ·intro j h1 h2;rw[List.getElem_take]
   have:(lQ ls at_ l)[j]=(li ls at_ l)[j]'(by omega):=List.getElem_take ..
   rw[this];have hj:=hps j (by omega) (by omega);exact⟨hj.keep k4,fun hne=>by have:=hj.blk_lt hne;omega⟩
  ·intro H5 N0 vs5 a1 a2 a3 a4 a5 a6;rw[FS N0 a5,a6];simp(disch:=omega) only[ak,↓aj,seval,abL];refine fun hk=>h _ b4 hk ⟨vs5,?_,a1,fun _=>by rw[mj];omega,a3⟩
   have:=a2.sl true
   rw[a1] at this;exact this
 have hxl2:(us++List.replicate (n - us.length) SV.nil).length=n:=by rw[bn,qc];omega
 by_cases h0:at_=0
 ·subst h0;obtain rfl:n=ls.length:=by omega
  simp(disch:=omega) only[ak,↓aj,seval,AE,AD,AC,AB,AA,Az,Ay,Ax,Aw,v7,vZ,EH,F200,↓hlu,hmax,↓e2,Int.reducePow]
  rw[←iJ];refine key H2 _ rfl n2 kk2 ?_ _ rfl rfl;rw[if_pos rfl];rw[show ls.length - us.length=0 from by omega] at ho2;simpa using ho2
 ·rw[show n - us.length=at_ - us.length from by omega] at ho2;have hxl3:(us++List.replicate (at_ - us.length) SV.nil).length=n:=by rw[bn,qc];omega
  have ho2':=ho2;rw[←hxl3] at ho2';have hfull:=ho2'.full;have hput:=ho2'.put nu (at_ - 1) (by omega) w;simp only[nu,sm] at hfull hput;have hfl:(aG (us++List.replicate (at_ - us.length) SV.nil)).length=n:=by rw[aw,hxl3,nu,lL]
  have hs2:=ho2.sl true;rw[hxl3] at hs2;have et:((at_:Int) - 1).toNat=at_ - 1:=by omega
  have e1:((at_ - 1)*1+1≤(aG (us++List.replicate (at_ - us.length) SV.nil)).length)=True:=by rw[hfl];simp;omega
  have hx:(at_:Int) - 1 < ((us++List.replicate (at_ - us.length) SV.nil).length:Int):=by omega
  have hidx:=hs2.idx;simp only[oY,mj,tH] at hidx;simp(disch:=omega) only[ak,↓aj,seval,AE,AD,AC,AB,AA,Az,Ay,Ax,Aw,v7,vZ,EH,F200,↓hlu,hmax,↓e2,Int.reducePow,↓hidx,et,hfull,e1];rw[←iJ];rw[hxl3] at hput;refine key _ _ (by rw[if_neg h0]) (by rw[af];exact n2) (kk2.trans (.put _ _ (au _))) hput _ rfl rfl
def alG(n0:Nat)(H:Heap)(f b:SV)(fs bs:List (List Id)):Prop:=Sl2F n0 H f fs∧Sl2F n0 H b bs∧f.tight∧b.tight
def j2(fs:List (List Id))(bed:Int)(at_:Nat)(l:List Id):List (List Id):=if bed=0 then lQ fs at_ l else lQ fs 0 []
def j3(bs:List (List Id))(bed:Int)(at_:Nat)(l:List Id):List (List Id):=if bed=0 then lQ bs 0 [] else lQ bs at_ l
theorem sZ{f b w:SV}{fs bs:List (List Id)}{l:List Id}(bed:Int)(at_:Nat){H:Heap}{lo:Nat}{Q:Out→Heap→Prop}(hf:Sl2 H f fs)(hb:Sl2 H b bs)(hw:Sl H w l)(hlf:fs.length≤100000)(hlb:bs.length≤100000)(hat:at_≤100000)(hll:∀x∈fs,x.length≤1000000)(hll':∀x∈bs,x.length≤1000000)(hl:l.length≤1000000)(hlo:lo≤H.n)
  (h:∀H' f' b',Keep H.n H H'→alG H.n H' f' b' (j2 fs bed at_ l) (j3 bs bed at_ l)→Q (.val (bv f' b')) H'):W E0 lo (.call 163 [bv f b,.agg [.int .u8 bed,.int .i64 at_],w.iv]) H Q:=by
 refine W.pure bJ hlo ?_;rw[art];by_cases h0:bed=0
 ·simp only[j2,j3,if_pos h0] at h;subst h0;simp(disch:=omega) only[ak,↓aj,seval,Nz,bv];generalize hH_H1:Heap.new _ _=H1;have hnH1:H1.n=H.n+3:=by rw[←hH_H1];rfl
  have g0:=congrArg (fun h0=>Heap.get h0 (H.n)) hH_H1.symm;simp(disch:=omega) only[ak,↓aj,seval] at g0;have g1:=congrArg (fun h0=>Heap.get h0 (H.n+1)) hH_H1.symm;simp(disch:=omega) only[ak,↓aj,seval] at g1;have g2:=congrArg (fun h0=>Heap.get h0 (H.n+2)) hH_H1.symm;simp(disch:=omega) only[ak,↓aj,seval] at g2
  have kH1:Keep H.n H H1:=⟨by omega,fun x hx _=>by
   have gx:=congrArg (fun h0=>Heap.get h0 x) hH_H1.symm;simp(disch:=omega) only[ak,↓aj,seval] at gx;exact gx⟩
  clear hH_H1;refine Bq at_ (hf.keep kH1) (hw.keep kH1) hlf hat hll hl (by omega) fun H2 b2 k2 s2=>?_;have hn2:=k2.1;replace g0:=(k2.2 _ (by omega) (by omega)).trans g0;replace g1:=(k2.2 _ (by omega) (by omega)).trans g1;replace g2:=(k2.2 _ (by omega) (by omega)).trans g2;have kk2:Keep H.n H H2:=kH1.trans (k2.lower (by omega));have r0:=ah g0;simp(disch:=omega) only[ak,↓aj,seval,Nz,r0];refine Bq (w:=.nil) 0 (hb.keep kk2) Sl.empty hlb (by omega) hll' (by simp) (by omega) fun H3 b3 k3 s3=>?_;have hn3:=k3.1;replace g2:=(k3.2 _ (by omega) (by omega)).trans g2;simp(disch:=omega) only[ak,↓aj,seval,Nz,g2];exact fun hk=>h _ (.sl b2 0 _ _ true) (.sl b3 0 _ _ true) hk ⟨((s2.keep k3).put (by omega)).lower (by omega),(s3.put (by omega)).lower (by omega),⟨rfl,rfl⟩,⟨rfl,rfl⟩⟩
 ·simp only[j2,j3,if_neg h0] at h;have e0:(bed==0)=false:=by simp[h0]
  simp(disch:=omega) only[ak,↓aj,seval,Nz,bv,e0]
  generalize hH_H1:Heap.new _ _=H1;have hnH1:H1.n=H.n+3:=by rw[←hH_H1];rfl
  have g0:=congrArg (fun h0=>Heap.get h0 (H.n)) hH_H1.symm;simp(disch:=omega) only[ak,↓aj,seval] at g0;have g1:=congrArg (fun h0=>Heap.get h0 (H.n+1)) hH_H1.symm;simp(disch:=omega) only[ak,↓aj,seval] at g1;have g2:=congrArg (fun h0=>Heap.get h0 (H.n+2)) hH_H1.symm;simp(disch:=omega) only[ak,↓aj,seval] at g2
  have kH1:Keep H.n H H1:=⟨by omega,fun x hx _=>by
   have gx:=congrArg (fun h0=>Heap.get h0 x) hH_H1.symm;simp(disch:=omega) only[ak,↓aj,seval] at gx;exact gx⟩
  clear hH_H1;refine Bq (w:=.nil) 0 (hf.keep kH1) Sl.empty hlf (by omega) hll (by simp) (by omega) fun H2 b2 k2 s2=>?_;have hn2:=k2.1;replace g0:=(k2.2 _ (by omega) (by omega)).trans g0;replace g1:=(k2.2 _ (by omega) (by omega)).trans g1;replace g2:=(k2.2 _ (by omega) (by omega)).trans g2;have kk2:Keep H.n H H2:=kH1.trans (k2.lower (by omega));have r0:=ah g0;have r1:=ah g1;simp(disch:=omega) only[ak,↓aj,seval,Nz,r0,r1];refine Bq at_ (hb.keep kk2) (hw.keep kk2) hlb hat hll' hl (by omega) fun H3 b3 k3 s3=>?_;have hn3:=k3.1;replace g2:=(k3.2 _ (by omega) (by omega)).trans g2;simp(disch:=omega) only[ak,↓aj,seval,Nz,g2];exact fun hk=>h _ (.sl b2 0 _ _ true) (.sl b3 0 _ _ true) hk ⟨((s2.keep k3).put (by omega)).lower (by omega),(s3.put (by omega)).lower (by omega),⟨rfl,rfl⟩,⟨rfl,rfl⟩⟩
end Go.Iso.Gen
end
section
namespace Go.Iso
theorem yw{α:Type}[Cell α]{H:Heap}{b e n:Nat}{l m:List α}{v:SV}(hs:Sl H (.sl b 0 l.length n true) l)(hn:n=l.length)(hv:Sl H v m){z:Nat}(hz:Cell.z α=z)(bytes lo:Nat)(hb:(l.length+m.length)*(bytes+1)≤2^40):
  ∃H2 u,ev1 (.append e z bytes) [.slice b 0 l.length n true,v.iv] lo H=some (SV.iv u,H2)∧Keep H.n H H2∧Sl H2 u (l++m):=by
 by_cases hm:m=[]
 ·subst hm;refine⟨H,.sl b 0 l.length n true,?_,Keep.refl _ _,by simpa using hs⟩;simp only[ev1,hv.lenI,hv.srcI hz,bk,cp];rw[if_neg (by rw[jd];decide)];rfl
 ·have hpos:0 < m.length:=List.length_pos_iff.2 hm;obtain⟨H2,e1,e2,e3,e4⟩:=oU (e:=e) hs hv hz bytes lo hm (by omega) hb;exact⟨H2,.sl H.n 0 (l.length+m.length) (l.length+m.length) false,e1,e3,by rw[←bn];rw[←bn] at e4;exact e4.sl false⟩
end Go.Iso
namespace Go.Iso.Gen
open Go.Iso
def ik(fs bs:List (List Id))(fb fa tb ta:Int):Int:=
 if aW fs bs≠0 then aW fs bs
 else if av fb fa≠0∨av tb ta≠0∨fb=tb then 1
 else if (nr fs bs fb fa).length=0 then 13
 else if (nr fs bs fb fa).length+(nr fs bs tb ta).length>4 then 9 else 0
def rK(fs bs:List (List Id))(fb fa tb ta:Int):List Id:=if fb=1 then nr fs bs fb fa++nr fs bs tb ta else nr fs bs tb ta++nr fs bs fb fa
def PI(fs bs:List (List Id))(fb fa tb ta:Int):List (List Id):=j2 (j2 fs fb fa.toNat []) tb ta.toNat (rK fs bs fb fa tb ta)
def PK(fs bs:List (List Id))(fb fa tb ta:Int):List (List Id):=j3 (j3 bs fb fa.toNat []) tb ta.toNat (rK fs bs fb fa tb ta)
theorem e9{b a:Int}(h:av b a=0):(b=0∨b=1)∧1≤a∧a≤40:=by
 unfold av at h;split at h
 ·assumption
 ·omega
theorem jS(b a:Int):av b a=0∨av b a=1:=by
 unfold av;split
 ·exact .inl rfl
 ·exact .inr rfl
theorem jT{fs bs:List (List Id)}(h:aW fs bs=0):fs.length≤40∧bs.length≤40∧(∀l∈fs,l.length≤4)∧(∀l∈bs,l.length≤4)∧(∀a∈(fs++bs).flatten,bM a=true)∧(fs++bs).flatten.Nodup:=by
 unfold aW at h;split at h
 ·omega
 split at h
 ·omega
 split at h
 ·rename_i h1 h2 h3;rw[not_or,zn,zn] at h1
  have key:∀ls:List (List Id),nq ls=false→ls.length≤40∧∀l∈ls,l.length≤4:=fun ls h=>by
   unfold nq at h;rw[Fg,List.any_eq_false] at h;refine⟨by simpa using h.1,fun l hl=>by have:=h.2 l hl;simpa using this⟩
  obtain⟨a1,a2⟩:=key fs h1.1;obtain⟨a3,a4⟩:=key bs h1.2;rw[Bool.not_eq_false,rq] at h2;exact⟨a1,a3,a2,a4,h2,h3⟩
 ·omega
theorem rC(ls:List (List Id))(at_:Nat)(l:List Id):(lQ ls at_ l).length≤max ls.length at_:=by
 unfold lQ;rw[gu,uf];omega
theorem rB(ls:List (List Id))(at_:Nat)(l:List Id)(m:Nat)(h:∀x∈ls,x.length≤m)(hl:l.length≤m):∀x∈lQ ls at_ l,x.length≤m:=fun x hx=>Dm ls at_ l m h hl x (zt hx)
theorem jR(fs bs:List (List Id))(b a:Int)(m:Nat)(h:∀x∈fs,x.length≤m)(h':∀x∈bs,x.length≤m):(nr fs bs b a).length≤m:=by
 unfold nr;split
 ·have key:∀(ls:List (List Id)) (i:Nat),(∀x∈ls,x.length≤m)→((ls[i]?).getD []).length≤m:=fun ls i h=>by
   by_cases hi:i < ls.length
   ·rw[gF hi];exact h _ (bQ hi)
   ·rw[jq (by omega)];simp
  split
  ·exact key _ _ h'
  ·exact key _ _ h
 ·simp
def akp(tm:List IV)(h:tm.length=68):=(cS tm 68 h).trans (by simp only[List.range,List.range.loop,bI,bj];exact rfl)
theorem acR{f b:SV}{fs bs:List (List Id)}(fb fa tb ta:Int){H:Heap}{lo:Nat}{Q:Out→Heap→Prop}(hf:Sl2 H f fs)(hb:Sl2 H b bs)(hlf:fs.length≤100000)(hlb:bs.length≤100000)(hll:∀x∈fs,x.length≤1000000)(hll':∀x∈bs,x.length≤1000000)(hlo:lo≤H.n)
  (he:∀H',Keep H.n H H'→ik fs bs fb fa tb ta≠0→Q (.val (.tuple [bv .nil .nil,.int .i64 (ik fs bs fb fa tb ta)])) H')
  (h:∀H' f' b',Keep H.n H H'→ik fs bs fb fa tb ta=0→alG H.n H' f' b' (PI fs bs fb fa tb ta) (PK fs bs fb fa tb ta)→Q (.val (.tuple [bv f' b',.int .i64 0])) H'):W E0 lo (.call 129 [bv f b,.agg [.int .u8 fb,.int .i64 fa],.agg [.int .u8 tb,.int .i64 ta]]) H Q:=by
 refine W.pure bJ hlo ?_;rw[arO];simp(disch:=omega) only[ak,↓aj,seval,pW,bv];generalize hH_H1:Heap.new _ _=H1;have hnH1:H1.n=H.n+4:=by rw[←hH_H1];rfl
 have g0:=congrArg (fun h0=>Heap.get h0 (H.n)) hH_H1.symm;simp(disch:=omega) only[ak,↓aj,seval] at g0;have g1:=congrArg (fun h0=>Heap.get h0 (H.n+1)) hH_H1.symm;simp(disch:=omega) only[ak,↓aj,seval] at g1;have g2:=congrArg (fun h0=>Heap.get h0 (H.n+2)) hH_H1.symm;simp(disch:=omega) only[ak,↓aj,seval] at g2;have g3:=congrArg (fun h0=>Heap.get h0 (H.n+3)) hH_H1.symm;simp(disch:=omega) only[ak,↓aj,seval] at g3
 have kH1:Keep H.n H H1:=⟨by omega,fun x hx _=>by
  have gx:=congrArg (fun h0=>Heap.get h0 x) hH_H1.symm;simp(disch:=omega) only[ak,↓aj,seval] at gx;exact gx⟩
 clear hH_H1;rw[show IV.agg [f.iv,b.iv]=bv f b from rfl];refine ss (hf.keep kH1) (hb.keep kH1) (by omega) (by omega) hll hll' (by omega) fun H2 k2=>?_;have hn2:=k2.1;replace g0:=(k2.2 _ (by omega) (by omega)).trans g0;replace g1:=(k2.2 _ (by omega) (by omega)).trans g1;replace g2:=(k2.2 _ (by omega) (by omega)).trans g2;replace g3:=(k2.2 _ (by omega) (by omega)).trans g3;replace kH1:Keep H.n H H2:=kH1.trans (k2.lower (by omega));clear k2;by_cases hc:aW fs bs=0
 case neg=>
  have e0:(aW fs bs !=0)=true:=by simp[hc]
  have ej:ik fs bs fb fa tb ta=aW fs bs:=by unfold ik;rw[if_pos hc]
  rw[ej] at he;simp(disch:=omega) only[ak,↓aj,seval,pW,e0,g3];exact fun hk=>he _ hk hc
 have hlen:=jT hc;have r1:=ah g1;have r2:=ah g2;simp(disch:=omega) only[ak,↓aj,seval,pW,hc,r1];refine cJ fb fa (by omega) fun H3 k3=>?_;have hn3:=k3.1;replace g0:=(k3.2 _ (by omega) (by omega)).trans g0;replace g1:=(k3.2 _ (by omega) (by omega)).trans g1;replace g2:=(k3.2 _ (by omega) (by omega)).trans g2;replace g3:=(k3.2 _ (by omega) (by omega)).trans g3;replace kH1:Keep H.n H H3:=kH1.trans (k3.lower (by omega));clear k3 r1 r2;have r1:=ah g1;have r2:=ah g2;have ej1:av fb fa≠0∨av tb ta≠0∨fb=tb→ik fs bs fb fa tb ta=1:=fun h=>by unfold ik;rw[if_neg (by simp[hc]),if_pos h]
 rcases jS fb fa with hfa | hfa
 case inr=>
  rw[ej1 (.inl (by omega))] at he;simp(disch:=omega) only[ak,↓aj,seval,pW,hfa,g3];exact fun hk=>he _ hk (by omega)
 simp(disch:=omega) only[ak,↓aj,seval,pW,hfa,r2]
 refine cJ tb ta (by omega) fun H4 k4=>?_;have hn4:=k4.1;replace g0:=(k4.2 _ (by omega) (by omega)).trans g0;replace g1:=(k4.2 _ (by omega) (by omega)).trans g1;replace g2:=(k4.2 _ (by omega) (by omega)).trans g2;replace g3:=(k4.2 _ (by omega) (by omega)).trans g3;replace kH1:Keep H.n H H4:=kH1.trans (k4.lower (by omega));clear k4 r1 r2;have r1:=ah g1;have r2:=ah g2;rcases jS tb ta with hta | hta
 case inr=>
  rw[ej1 (.inr (.inl (by omega)))] at he;simp(disch:=omega) only[ak,↓aj,seval,pW,hta,g3];exact fun hk=>he _ hk (by omega)
 by_cases hbb:fb=tb
 ·rw[ej1 (.inr (.inr hbb))] at he;simp(disch:=omega) only[ak,↓aj,seval,pW,hta,r1,r2,hbb,g3];exact fun hk=>he _ hk (by omega)
 have ebb:(fb==tb)=false:=by simp[hbb]
 have r0:=ah g0;simp(disch:=omega) only[ak,↓aj,seval,pW,hta,r1,r2,ebb,r0];rw[show IV.agg [f.iv,b.iv]=bv f b from rfl];refine uC fb fa (hf.keep kH1) (hb.keep kH1) hll hll' (by omega) fun H5 v5 k5 s5=>?_;have hn5:=k5.1;replace g0:=(k5.2 _ (by omega) (by omega)).trans g0;replace g1:=(k5.2 _ (by omega) (by omega)).trans g1;replace g2:=(k5.2 _ (by omega) (by omega)).trans g2;replace g3:=(k5.2 _ (by omega) (by omega)).trans g3;replace kH1:Keep H.n H H5:=kH1.trans (k5.lower (by omega));clear k5 r0 r1 r2;have r0:=ah g0;have r1:=ah g1;have r2:=ah g2;simp(disch:=omega) only[ak,↓aj,seval,pW,r0,r2];rw[show IV.agg [f.iv,b.iv]=bv f b from rfl];refine uC tb ta (hf.keep kH1) (hb.keep kH1) hll hll' (by omega) fun H6 v6 k6 s6=>?_;have hn6:=k6.1;replace g0:=(k6.2 _ (by omega) (by omega)).trans g0;replace g1:=(k6.2 _ (by omega) (by omega)).trans g1;replace g2:=(k6.2 _ (by omega) (by omega)).trans g2;replace g3:=(k6.2 _ (by omega) (by omega)).trans g3;replace kH1:Keep H.n H H6:=kH1.trans (k6.lower (by omega));replace s5:=s5.keep k6;clear k6 r0 r1 r2;have r0:=ah g0;have r1:=ah g1;have r2:=ah g2;have hs5:=s5.sl;have hs6:=s6.sl;have hl5:=jR fs bs fb fa 4 hlen.2.2.1 hlen.2.2.2.1;have hl6:=jR fs bs tb ta 4 hlen.2.2.1 hlen.2.2.2.1;by_cases h0:(nr fs bs fb fa).length=0
 ·have ej:ik fs bs fb fa tb ta=13:=by unfold ik;rw[if_neg (by simp[hc]),if_neg (by simp[hfa,hta,hbb]),if_pos h0]
  rw[ej] at he;simp(disch:=omega) only[ak,↓aj,seval,pW,↓hs5.ln,g3];exact fun hk=>he _ hk (by omega)
 by_cases h4:(nr fs bs fb fa).length+(nr fs bs tb ta).length>4
 ·have ej:ik fs bs fb fa tb ta=9:=by unfold ik;rw[if_neg (by simp[hc]),if_neg (by simp[hfa,hta,hbb]),if_neg h0,if_pos h4]
  rw[ej] at he;simp(disch:=omega) only[ak,↓aj,seval,pW,↓hs5.ln,↓hs6.ln,g3];exact fun hk=>he _ hk (by omega)
 have ej:ik fs bs fb fa tb ta=0:=by unfold ik;rw[if_neg (by simp[hc]),if_neg (by simp[hfa,hta,hbb]),if_neg h0,if_neg h4]
 simp(disch:=omega) only[ak,↓aj,seval,pW,↓hs5.ln,↓hs6.ln]
 obtain⟨hfb,hfa1,hfa2⟩:=e9 hfa;obtain⟨htb,hta1,hta2⟩:=e9 hta
 have key:∀(H9:Heap) (u:SV),H6.n≤H9.n→Keep H.n H H9→H9.get H.n=some (.cells false 26 2 [f.iv,b.iv])→H9.get (H.n+1)=some (.cells false 54 2 [.int .u8 fb,.int .i64 fa])→H9.get (H.n+2)=some (.cells false 54 2 [.int .u8 tb,.int .i64 ta])→H9.get (H.n+3)=some (.cells false 26 2 [.nilSlice,.nilSlice])→Sl H9 u (rK fs bs fb fa tb ta)→
   ∀tm,tm.length=68→tm.getD 3 IV.undef=.ptr H.n 0→tm.getD 4 IV.undef=.ptr (H.n+1) 0→tm.getD 5 IV.undef=.ptr (H.n+2) 0→tm.getD 6 IV.undef=.ptr (H.n+3) 0→tm.getD 11 IV.undef=u.iv→W E0 H.n (.code (.seq CA .ret) none ⟨tm,[]⟩) H9 (nN H.n F129.results fun o H'=>Keep H.n H H'→Q o H'):=by
  intro H9 u hn9 k9 g0 g1 g2 g3 hu tm htm t3 t4 t5 t6 t11;have r0:=ah g0;have r1:=ah g1;have r2:=ah g2;have hjs:(rK fs bs fb fa tb ta).length≤4:=by unfold rK;split<;>rw[bn]<;>omega
  rw[akp tm htm,t3,t4,t5,t6,t11];simp(disch:=omega) only[ak,↓aj,seval,pW,r0,r1];have efa:fa=((fa.toNat:Nat):Int):=by omega
  have eta:ta=((ta.toNat:Nat):Int):=by omega
  rw[show IV.agg [f.iv,b.iv]=bv f b from rfl,efa];refine sZ (w:=.nil) (l:=[]) fb fa.toNat (hf.keep k9) (hb.keep k9) Sl.empty hlf hlb (by omega) hll hll' (by simp) (by omega) fun H10 f10 b10 k10 s10=>?_;rw[←efa];have hn10:=k10.1;replace g0:=(k10.2 _ (by omega) (by omega)).trans g0;replace g1:=(k10.2 _ (by omega) (by omega)).trans g1;replace g2:=(k10.2 _ (by omega) (by omega)).trans g2;replace g3:=(k10.2 _ (by omega) (by omega)).trans g3;have r2:=ah g2;have k10':Keep H.n H H10:=k9.trans (k10.lower (by omega));simp(disch:=omega) only[ak,↓aj,seval,pW,r2]
  have hF:(j2 fs fb fa.toNat []).length≤100000∧∀x∈j2 fs fb fa.toNat [],x.length≤1000000:=by
   unfold j2;split
   ·exact⟨dH (rC _ _ _) (by omega),rB _ _ _ _ hll (by simp)⟩
   ·exact⟨dH (rC _ _ _) (by omega),rB _ _ _ _ hll (by simp)⟩
  have hB:(j3 bs fb fa.toNat []).length≤100000∧∀x∈j3 bs fb fa.toNat [],x.length≤1000000:=by
   unfold j3;split
   ·exact⟨dH (rC _ _ _) (by omega),rB _ _ _ _ hll' (by simp)⟩
   ·exact⟨dH (rC _ _ _) (by omega),rB _ _ _ _ hll' (by simp)⟩
  rw[eta];refine sZ tb ta.toNat s10.1.sl2 s10.2.1.sl2 (hu.keep k10) hF.1 hB.1 (by omega) hF.2 hB.2 (by omega) (by omega) fun H11 f11 b11 k11 s11=>?_;rw[←eta];have hn11:=k11.1;replace g3:=(k11.2 _ (by omega) (by omega)).trans g3;simp(disch:=omega) only[ak,↓aj,seval,pW,g3,bv];exact fun hk=>h _ f11 b11 hk ej ⟨(s11.1.put (by omega)).lower (by omega),(s11.2.1.put (by omega)).lower (by omega),s11.2.2⟩
 refine jg hs6 (by omega) (by omega) fun H7 c7 k7 hc7 o7=>?_;have hn7:=k7.1;replace g0:=(k7.2 _ (by omega) (by omega)).trans g0;replace g1:=(k7.2 _ (by omega) (by omega)).trans g1;replace g2:=(k7.2 _ (by omega) (by omega)).trans g2;replace g3:=(k7.2 _ (by omega) (by omega)).trans g3;have kk7:Keep H.n H H7:=kH1.trans (k7.lower (by omega));obtain⟨H8,u8,e8,k8,s8⟩:=yw (e:=138) (o7.sl true) rfl (hs5.keep k7) lB 16 H.n (by omega);have hn8:=k8.1;replace g0:=(k8.2 _ (by omega) (by omega)).trans g0;replace g1:=(k8.2 _ (by omega) (by omega)).trans g1;replace g2:=(k8.2 _ (by omega) (by omega)).trans g2;replace g3:=(k8.2 _ (by omega) (by omega)).trans g3;have kk8:Keep H.n H H8:=kk7.trans (k8.lower (by omega));have r1:=ah g1;by_cases hb1:fb=1
 ·have ebb1:(fb==1)=true:=by simp[hb1]
  simp(disch:=omega) only[ak,↓aj,seval,pW,↓e8,r1,ebb1]
  refine jg ((hs5.keep k7).keep k8) (by omega) (by omega) fun H9 c9 k9 hc9 o9=>?_;have hn9:=k9.1;replace g0:=(k9.2 _ (by omega) (by omega)).trans g0;replace g1:=(k9.2 _ (by omega) (by omega)).trans g1;replace g2:=(k9.2 _ (by omega) (by omega)).trans g2;replace g3:=(k9.2 _ (by omega) (by omega)).trans g3;have kk9:Keep H.n H H9:=kk8.trans (k9.lower (by omega));obtain⟨H10,u10,e10,k10,s10⟩:=yw (e:=138) (o9.sl true) rfl (((hs6.keep k7).keep k8).keep k9) lB 16 H.n (by omega);have hn10:=k10.1;replace g0:=(k10.2 _ (by omega) (by omega)).trans g0;replace g1:=(k10.2 _ (by omega) (by omega)).trans g1;replace g2:=(k10.2 _ (by omega) (by omega)).trans g2;replace g3:=(k10.2 _ (by omega) (by omega)).trans g3;simp(disch:=omega) only[ak,↓aj,seval,AY,AX,AW,AV,AU,AT,AS,AR,AQ,AP,wF,wE,wD,wC,EJ,F129,↓e10];rw[←iJ];exact key H10 u10 (by omega) (kk9.trans (k10.lower (by omega))) g0 g1 g2 g3 (by rw[rK,if_pos hb1];exact s10) _ rfl rfl rfl rfl rfl rfl
 ·have ebb1:(fb==1)=false:=by simp[hb1]
  simp(disch:=omega) only[ak,↓aj,seval,AY,AX,AW,AV,AU,AT,AS,AR,AQ,AP,wF,wE,wD,wC,EJ,F129,↓e8,r1,ebb1]
  rw[←iJ];exact key H8 u8 (by omega) kk8 g0 g1 g2 g3 (by rw[rK,if_neg hb1];exact s8) _ rfl rfl rfl rfl rfl rfl
def aqU(tm:List IV)(h:tm.length=26):=(cS tm 26 h).trans (by simp only[List.range,List.range.loop,bI,bj];exact rfl)
def aqS(tm:List IV)(h:tm.length=32):=(cS tm 32 h).trans (by simp only[List.range,List.range.loop,bI,bj];exact rfl)
def bT(ls:List (List Id)):List (List Id):=ls.take (aU ls)
def Cut(H:Heap)(v:SV):Prop:=match v with | .nil=>True | .sl b _ _ _ ex=>ex=true∨(b < H.n∧DX H b 1=true)
structure Pt where
 a:Nat
 m:Nat
 deriving Inhabited
instance:Cell Pt where
 z:=2
 cs p:=[.int .u8 p.a,.int .u8 p.m]
 len _:=rfl
 one _:=rfl
 pos:=by omega
theorem NY(a b:Nat):(a:Int).tmod (b:Int)=((a%b:Nat):Int):=by
 rw[Int.tmod_eq_emod_of_nonneg (by omega)];omega
theorem N0(a:Nat):(a:Int).tmod 5=((a%5:Nat):Int):=NY a 5
theorem N1(a:Nat):(a:Int).tmod 3=((a%3:Nat):Int):=NY a 3
def idN(n:Nat):Id:=⟨((1+n%3:Nat):Int),((n / 3:Nat):Int)⟩
def PX(l:List Id)(n:Nat):Nat→List Id×Nat
 | 0=>(l,n)
 | m+1=>if l.length < 4 then PX (l++[idN n]) (n+1) m else(l,n)
def aj9(s:List (List Id)×Nat)(p:Pt):List (List Id)×Nat:=
 (s.1.set (p.a%80) (PX (s.1.getD (p.a%80) []) s.2 (p.m%5)).1,(PX (s.1.getD (p.a%80) []) s.2 (p.m%5)).2)
def ofT(xs:List Pt):List (List Id)×Nat:=(xs.take 40).foldl aj9 (List.replicate 80 [],0)
def Tb(lo:Nat)(H:Heap)(vs:List SV)(t:List (List Id)):Prop:=vs.length=80∧t.length=80∧(∀i (h:i < vs.length) (h':i < t.length),(vs[i]=.nil∧t[i]=[])∨∃b,vs[i]=.sl b 0 t[i].length t[i].length false∧lo≤b∧t[i]≠[]∧Own H b 138 t[i].length t[i])∧
 ∀i j (h:i < vs.length) (h':j < vs.length),i≠j→vs[i]≠.nil→vs[j]≠.nil→vs[i].blk≠vs[j].blk
def aqQ(tm:List IV)(h:tm.length=59):=(cS tm 59 h).trans (by simp only[List.range,List.range.loop,bI,bj];exact rfl)
structure Good(s:List (List Id)×Nat):Prop where
 len:s.1.length=80
 four:∀l∈s.1,l.length≤4
 ids:∀a∈s.1.flatten,∃j,j < s.2∧a=idN j
 nd:s.1.flatten.Nodup
theorem s9{t:List (List Id)}{i:Nat}(hi:i < t.length)(l:List Id):(t.set i (t[i]++l)).flatten.Perm (t.flatten++l):=by
 have e1:t.flatten=(t.take i).flatten++(t[i]++(t.drop (i+1)).flatten):=by
  have h0:t=t.take i++t[i]::t.drop (i+1):=by rw[←qh hi,tZ]
  have:=congrArg List.flatten h0
  rw[iG,tX] at this;exact this
 rw[List.set_eq_take_append_cons_drop,if_pos hi,iG,tX,e1];simp only[cO];refine Fj _ (Fj _ ?_);exact Fi
def Tab(H:Heap)(vs:List SV)(t:List (List Id)):Prop:=vs.length=80∧t.length=80∧∀i (h:i < vs.length) (h':i < t.length),Sl H vs[i] t[i]
def aO(t:List (List Id)):List (List Id):=bT (t.take 40)
def aJ(t:List (List Id)):List (List Id):=bT (t.drop 40)
def auP(n0:Nat)(H:Heap)(n k:Nat)(v:SV):Prop:=(n≤k∧v=.nil)∨(k < n∧∃b,v=.sl b 0 n n true∧n0≤b∧Own H b 31 n (List.replicate n SV.nil))
def aqO(tm:List IV)(h:tm.length=76):=(cS tm 76 h).trans (by simp only[List.range,List.range.loop,bI,bj];exact rfl)
def nB(i:Nat):Int:=((i%80 / 40:Nat):Int)
def nA(i:Nat):Int:=((1+i%40:Nat):Int)
def auQ(t fs bs:List (List Id)):Prop:=(∀i,i < 80→nr fs bs (nB i) (nA i)=t.getD i [])∧aU fs=fs.length∧aU bs=bs.length
def BH(tm:List IV)(h:tm.length=80):=(cS tm 80 h).trans (by simp only[List.range,List.range.loop,bI,bj];exact rfl)
end Go.Iso.Gen
end
section
namespace Go.Iso
section
variable {α:Type}
theorem acY{ls:List (List α)}{i:Nat}(h:ls.getD i []≠[]):∃hi:i < ls.length,ls.getD i []=ls[i]:=by
 rw[iC] at h⊢;by_cases hi:i < ls.length
 ·exact⟨hi,by rw[gF hi,ig]⟩
 ·rw[jq (by omega)] at h;exact absurd rfl h
theorem bK{ls:List (List α)}{i:Nat}(hi:i < ls.length):ls.getD i []=ls[i]:=by rw[iC,gF hi,ig]
theorem jc{ls:List (List α)}{i:Nat}(hi:ls.length≤i):ls.getD i []=[]:=by rw[iC,jq hi,xm]
theorem tP{ls ms:List (List α)}(h:∀i,ls.getD i []=ms.getD i []):aU ls≤aU ms:=by
 have hle:=gq ls
 cases hn:aU ls with
 | zero=>omega
 | succ n=>
   have h1:=nJ ls n (by omega) hn;have h2:=h n;rw[bK (show n < ls.length by omega)] at h2;obtain⟨h3,h4⟩:=acY (ls:=ms) (i:=n) (by rw[←h2];exact h1);exact shortN_ge' h3 (by rw[←h4,←h2];exact h1)
where shortN_ge' {l:List (List α)} {i:Nat} (hi:i < l.length) (h:l[i]≠[]):i+1≤aU l:=Nat.lt_of_not_le fun hle=>h (fy l i hi hle)
end
end Go.Iso
namespace Go.Iso.Gen
open Go.Iso
theorem iL(ls:List (List Id)):(bT ls).length=aU ls:=by
 have:=gq ls
 unfold bT;rw[gu];omega
theorem cN(ls:List (List Id))(i:Nat):(bT ls).getD i []=ls.getD i []:=by
 have hs:=gq ls;by_cases h:i < aU ls
 ·rw[bK (by rw[iL];exact h),bK (by omega)];unfold bT;rw[List.getElem_take]
 ·rw[jc (by rw[iL];omega)];by_cases hi:i < ls.length
  ·rw[bK hi,fy ls i hi (by omega)]
  ·rw[jc (by omega)]
theorem zk{ls ms:List (List Id)}(h:∀i,ls.getD i []=ms.getD i []):bT ls=bT ms:=by
 have hn:aU ls=aU ms:=Nat.le_antisymm (tP h) (tP fun i=>(h i).symm);apply xb
 ·rw[iL,iL,hn]
 ·intro i h1 h2
  have:=h i
  rw[←cN,←cN ms,bK h1,bK h2] at this;exact this
theorem C1(ls:List (List Id)):bT (bT ls)=bT ls:=zk fun i=>cN ls i
theorem nL(ls:List (List Id)):(bT ls).flatten=ls.flatten:=by
 have h:ls=bT ls++ls.drop (aU ls):=by unfold bT;rw[tZ]
 have h2:(ls.drop (aU ls)).flatten=[]:=by
  rw[List.flatten_eq_nil_iff];intro l hl;obtain⟨i,hi,rfl⟩:=List.mem_iff_getElem.1 hl;rw[List.getElem_drop];exact fy ls _ _ (by omega)
 have:=congrArg List.flatten h
 rw[iG,h2,iF] at this;exact this.symm
theorem MB(ls:List (List Id))(at_:Nat)(l:List Id)(i:Nat):(li ls at_ l).getD i []=if at_=i+1 then l else ls.getD i []:=by
 unfold li;by_cases h0:at_=0
 ·rw[if_pos h0,if_neg (by omega)]
 ·rw[if_neg h0];by_cases hi:at_=i+1
  ·subst hi;rw[if_pos rfl,bK (by rw[cI,bn,qc];omega)];simp
  ·rw[if_neg hi];by_cases hil:i < ls.length
   ·rw[bK (by rw[cI,bn,qc];omega),j0 (by omega),ub hil,bK hil]
   ·rw[jc (by omega:ls.length≤i)];by_cases hi2:i < at_
    ·rw[bK (by rw[cI,bn,qc];omega),j0 (by omega),zw (by omega),Fl]
    ·exact jc (by rw[cI,bn,qc];omega)
theorem C2(ls:List (List Id))(k:Nat)(hk:k < ls.length)(l:List Id)(i:Nat):(ls.set k l).getD i []=if k=i then l else ls.getD i []:=by
 by_cases h:k=i
 ·subst h;rw[if_pos rfl,bK (by rw[cI];exact hk)];simp
 ·rw[if_neg h];simp[iC,Bm h]
theorem xp(A:List (List Id))(k:Nat)(hk:k < A.length)(l:List Id):lQ (bT A) (k+1) l=bT (A.set k l):=by
 have:lQ (bT A) (k+1) l=bT (li (bT A) (k+1) l):=rfl
 rw[this];refine zk fun i=>?_;rw[MB,C2 A k hk,cN];by_cases h:k=i
 ·rw[if_pos (by omega),if_pos h]
 ·rw[if_neg (by omega),if_neg h]
theorem zC(A:List (List Id)):lQ (bT A) 0 []=bT A:=by
 have:lQ (bT A) 0 []=bT (bT A):=rfl
 rw[this,C1]
def ix(b a:Int):Nat:=(40*b+a - 1).toNat
theorem EY(t:List (List Id))(k:Nat)(l:List Id)(h:k < 40):(t.set k l).take 40=(t.take 40).set k l:=by rw[List.take_set]
theorem FY(t:List (List Id))(k:Nat)(l:List Id)(h:40≤k):(t.set k l).drop 40=(t.drop 40).set (k - 40) l:=by rw[List.drop_set,if_neg (by omega)]
theorem xq{t:List (List Id)}(ht:t.length=80){b a:Int}(hv:av b a=0)(l:List Id):j2 (aO t) b a.toNat l=aO (t.set (ix b a) l)∧j3 (aJ t) b a.toNat l=aJ (t.set (ix b a) l):=by
 obtain⟨hb,h1,h2⟩:=e9 hv;have ha:a.toNat=(a - 1).toNat+1:=by omega
 rcases hb with rfl | rfl
 ·have hi:ix 0 a=(a - 1).toNat:=by unfold ix;omega
  have hlt:(a - 1).toNat < 40:=by omega
  constructor
  ·unfold j2 aO;rw[if_pos rfl,ha,xp _ _ (by rw[gu];omega),hi,EY _ _ _ hlt]
  ·unfold j3 aJ;rw[if_pos rfl,zC,hi,List.drop_set,if_pos hlt]
 ·have hi:ix 1 a=40+(a - 1).toNat:=by unfold ix;omega
  have hlt:(a - 1).toNat < 40:=by omega
  constructor
  ·unfold j2 aO;rw[if_neg (by omega),zC,hi,List.take_set,List.set_eq_of_length_le (by rw[gu];omega)]
  ·unfold j3 aJ;rw[if_neg (by omega),ha,xp _ _ (by rw[lN];omega),hi,FY _ _ _ (by omega),Nat.add_sub_cancel_left]
theorem zU(t:List (List Id))(n i:Nat)(h:i < n):(t.take n).getD i []=t.getD i []:=by
 simp[iC,List.getElem?_take,h]
theorem zV(t:List (List Id))(n i:Nat):(t.drop n).getD i []=t.getD (n+i) []:=by
 simp[iC,qb]
theorem jm(t:List (List Id)){b a:Int}(hv:av b a=0):nr (aO t) (aJ t) b a=t.getD (ix b a) []:=by
 unfold nr;rw[if_pos hv];obtain⟨hb,h1,h2⟩:=e9 hv;rw[←iC];rcases hb with rfl | rfl
 ·rw[if_neg (by omega)];unfold aO;rw[cN,zU _ _ _ (by omega)];congr 1;unfold ix;omega
 ·rw[if_pos rfl];unfold aJ;rw[cN,zV];congr 1;unfold ix;omega
theorem Qu(fs bs:List (List Id)){b a:Int}(hv:av b a≠0):nr fs bs b a=[]:=by unfold nr;rw[if_neg hv]
theorem Dx(i:Nat):av (nB i) (nA i)=0:=by
 unfold av nB nA;rw[if_pos (by omega)]
theorem MK{b a:Int}(hv:av b a=0):nB (ix b a)=b∧nA (ix b a)=a∧ix b a < 80:=by
 obtain⟨hb,h1,h2⟩:=e9 hv;unfold ix nB nA;omega
theorem kh(t:List (List Id)):(aO t).length≤40:=by
 unfold aO
 have:=gq (t.take 40)
 rw[gu] at this;rw[iL];omega
theorem iy{t:List (List Id)}(ht:t.length=80):(aJ t).length≤40:=by
 unfold aJ
 have:=gq (t.drop 40)
 rw[lN] at this;rw[iL];omega
theorem B2(t:List (List Id)):(aO t++aJ t).flatten=t.flatten:=by
 unfold aO aJ;rw[iG,nL,nL,←iG,tZ]
theorem fD{t:List (List Id)}{l:List Id}(h:l∈aO t):l∈t:=zt (zt h)
theorem dM{t:List (List Id)}{l:List Id}(h:l∈aJ t):l∈t:=List.mem_of_mem_drop (zt h)
structure Valid(t:List (List Id)):Prop where
 len:t.length=80
 four:∀l∈t,l.length≤4
 named:∀a∈t.flatten,bM a=true
 nd:t.flatten.Nodup
theorem Valid.check{t:List (List Id)}(h:Valid t):aW (aO t) (aJ t)=0:=by
 have key:∀ls:List (List Id),ls.length≤40→(∀l∈ls,l∈t)→nq ls=false:=fun ls h1 h2=>by
  unfold nq;rw[Fg,List.any_eq_false];exact⟨by simp;omega,fun l hl=>by have:=h.four l (h2 l hl);simp;omega⟩
 unfold aW;rw[B2,if_neg,if_neg,if_pos h.nd]
 ·rw[Bool.not_eq_false,rq];exact h.named
 ·rw[key _ (kh t) fun l=>fD,key _ (iy h.len) fun l=>dM];simp
def xQ(fb:Int)(a b:List Id):List Id:=if fb=1 then a++b else b++a
def oe(t:List (List Id))(fb:Int)(i k:Nat):List (List Id):=(t.set i []).set k (xQ fb (t.getD i []) (t.getD k []))
theorem amo{fb fa tb ta:Int}(hf:av fb fa=0)(ht:av tb ta=0)(hb:fb≠tb):ix fb fa≠ix tb ta:=by
 intro e;have h1:=MK hf;have h2:=MK ht;rw[e] at h1;exact hb (h1.1.symm.trans h2.1)
theorem PJ{t:List (List Id)}(hV:Valid t)(fb fa tb ta:Int):ik (aO t) (aJ t) fb fa tb ta=
  if av fb fa≠0∨av tb ta≠0∨fb=tb then 1 else if (t.getD (ix fb fa) []).length=0 then 13 else if (t.getD (ix fb fa) []).length+(t.getD (ix tb ta) []).length>4 then 9 else 0:=by
 unfold ik;rw[if_neg (by rw[hV.check];simp)];by_cases h:av fb fa≠0∨av tb ta≠0∨fb=tb
 ·rw[if_pos h,if_pos h]
 ·rw[if_neg h,if_neg h];rw[not_or,not_or,Classical.not_not,Classical.not_not] at h;rw[jm t h.1,jm t h.2.1]
theorem PH{t:List (List Id)}{fb fa tb ta:Int}(hf:av fb fa=0)(ht:av tb ta=0):rK (aO t) (aJ t) fb fa tb ta=xQ fb (t.getD (ix fb fa) []) (t.getD (ix tb ta) []):=by
 unfold rK xQ;rw[jm t hf,jm t ht]
theorem MV{t:List (List Id)}(hV:Valid t){fb fa tb ta:Int}(hf:av fb fa=0)(ht:av tb ta=0):
  PI (aO t) (aJ t) fb fa tb ta=aO (oe t fb (ix fb fa) (ix tb ta))∧PK (aO t) (aJ t) fb fa tb ta=aJ (oe t fb (ix fb fa) (ix tb ta)):=by
 unfold PI PK oe;have h1:=xq hV.len hf [];rw[h1.1,h1.2,PH hf ht];exact xq (by rw[cI];exact hV.len) ht _
theorem sS{t:List (List Id)}{i:Nat}(hi:i < t.length)(l:List Id):(t.set i l).flatten.Perm (l++(t.set i []).flatten):=by
 have:=s9 (t:=t.set i []) (i:=i) (by rw[cI];exact hi) l
 rw[qe,tU,List.set_set] at this;exact this.trans Fi
theorem mT{t:List (List Id)}{i:Nat}(hi:i < t.length):t.flatten.Perm (t.getD i []++(t.set i []).flatten):=by
 have:=sS hi (t.getD i [])
 rw[bK hi,List.set_getElem_self] at this;rw[bK hi];exact this
theorem xP(fb:Int)(a b:List Id):(xQ fb a b).Perm (a++b):=by
 unfold xQ;split
 ·exact .refl _
 ·exact Fi
theorem MU(fb:Int)(a b:List Id):(xQ fb a b).length=a.length+b.length:=by rw[(xP fb a b).length_eq,bn]
theorem FL{t:List (List Id)}{i k:Nat}(fb:Int)(hi:i < t.length)(hk:k < t.length)(hik:i≠k):(oe t fb i k).flatten.Perm t.flatten:=by
 unfold oe;have h1:=sS (t:=t.set i []) (i:=k) (by rw[cI];exact hk) (xQ fb (t.getD i []) (t.getD k []));have h2:=mT hi;have h3:=mT (t:=t.set i []) (i:=k) (by rw[cI];exact hk);rw[C2 t i hi,if_neg hik] at h3;refine h1.trans ?_;refine(List.Perm.append_right _ (xP _ _ _)).trans ?_;rw[cO];refine .trans ?_ h2.symm;exact Fj _ h3.symm
theorem MT(t:List (List Id))(fb:Int)(i k:Nat):(oe t fb i k).length=t.length:=by unfold oe;rw[cI,cI]
theorem DP{t:List (List Id)}(hV:Valid t){i k:Nat}(fb:Int)(hi:i < 80)(hk:k < 80)(hik:i≠k)(h4:(t.getD i []).length+(t.getD k []).length≤4):Valid (oe t fb i k):=by
 have hp:=FL fb (by rw[hV.len];exact hi) (by rw[hV.len];exact hk) hik;refine⟨by rw[MT,hV.len],fun l hl=>?_,fun a ha=>hV.named a ((hp.mem_iff).1 ha),(hp.nodup_iff).2 hV.nd⟩;unfold oe at hl;rcases rv hl with hl | rfl
 ·rcases rv hl with hl | rfl
  ·exact hV.four l hl
  ·simp
 ·rw[MU];exact h4
def atk(b a:Int)(j:Nat):Int:=if av b a=0∧ix b a < j then ix b a else -1
def ox(tm:List IV)(h:tm.length=77):=(cS tm 77 h).trans (by simp only[List.range,List.range.loop,bI,bj];exact rfl)
theorem L7{v:SV}{l:List Id}{R lo:Nat}{y3 y4 y7:IV}{H0:Heap}{Q:Out→Heap→Prop}{tm:List IV}(hlo:lo≤R)(hR:R < H0.n)(hv:Sl H0 v l)(hl:l.length≤1000000)(gR:H0.get R=some (.cells false 26 2 [.nilSlice,.nilSlice]))
  (htm:tm.length=77) (t2:tm.getD 2 IV.undef=v.iv) (t3:tm.getD 3 IV.undef=y3) (t4:tm.getD 4 IV.undef=y4) (t6:tm.getD 6 IV.undef=.ptr R 0) (t7:tm.getD 7 IV.undef=y7) (t28:tm.getD 28 IV.undef=v.iv) (t29:tm.getD 29 IV.undef=.int .i64 l.length) (t30:tm.getD 30 IV.undef=.int .i64 0)
  (hQ:l.all bM=true→∀H' tm',Keep H0.n H0 H'→tm'.length=77→tm'.getD 2 IV.undef=v.iv→tm'.getD 3 IV.undef=y3→tm'.getD 4 IV.undef=y4→tm'.getD 6 IV.undef=.ptr R 0→tm'.getD 7 IV.undef=y7→Q (.ex (.jmp (.exit 0)) ⟨tm',[]⟩) H')
  (hE:l.all bM=false→∀H' tm',Keep R H0 H'→H'.get R=some (.cells false 26 2 [.nilSlice,.nilSlice])→tm'.length=77→tm'.getD 6 IV.undef=.ptr R 0→tm'.getD 7 IV.undef=.int .i64 1→Q (.ex (.jmp .ret) ⟨tm',[]⟩) H'):W E0 lo (.code (.loop Cz) none ⟨tm,[]⟩) H0 Q:=by
 refine aP (fun k fr H'=>∃j,j+k=l.length∧(l.take j).all bM=true∧Keep H0.n H0 H'∧fr.marks=[]∧fr.tm.length=77∧fr.tm.getD 2 IV.undef=v.iv∧fr.tm.getD 3 IV.undef=y3∧fr.tm.getD 4 IV.undef=y4∧fr.tm.getD 6 IV.undef=.ptr R 0∧fr.tm.getD 7 IV.undef=y7∧fr.tm.getD 28 IV.undef=v.iv∧fr.tm.getD 29 IV.undef=.int .i64 l.length∧fr.tm.getD 30 IV.undef=.int .i64 j) ?_ l.length ⟨0,by omega,by simp,Keep.refl _ _,rfl,htm,t2,t3,t4,t6,t7,t28,t29,t30⟩;clear htm t2 t3 t4 t6 t7 t28 t29 t30;rintro k ⟨tm,mk⟩ Hc ⟨j,hjk,hall,hk,rfl,htm,t2,t3,t4,t6,t7,t28,t29,t30⟩ L hN hJ;rw[ox tm htm,t2,t3,t4,t6,t7,t28,t29,t30];have hn:=hk.1;by_cases hj:j < l.length
 ·have hv':=hv.keep hk;have r1:=hv'.read lB j hj;simp(disch:=omega) only[ak,↓aj,seval,sJ,↓hv'.idx,r1,fC];generalize hH_H2:Heap.put _ _ _=H2;have hnH2:H2.n=Hc.n+1:=by rw[←hH_H2];rfl
  have g2:=congrArg (fun h0=>Heap.get h0 (Hc.n)) hH_H2.symm;simp(disch:=omega) only[ak,↓aj,seval] at g2
  have kH2:Keep Hc.n Hc H2:=⟨by omega,fun x hx _=>by
   have gx:=congrArg (fun h0=>Heap.get h0 x) hH_H2.symm;simp(disch:=omega) only[ak,↓aj,seval] at gx;exact gx⟩
  clear hH_H2;rw[←fC];refine xE l[j] (by omega) fun H3 k3=>?_;have hn3:=k3.1;have kk3:Keep H0.n H0 H3:=hk.trans ((kH2.trans (k3.lower (by omega))).lower hn);by_cases hb:bM l[j]=true
  ·rw[hb];simp(disch:=omega) only[ak,↓aj,seval,sJ];refine hN (k - 1) _ _ (by omega) ⟨j+1,by omega,?_,kk3,rfl,rfl,rfl,rfl,rfl,rfl,rfl,rfl,rfl,rfl⟩;rw[gv hj,List.all_append,hall];simp[hb]
  ·have hbf:bM l[j]=false:=by simpa using hb
   rw[hbf];have gR':=(kk3.2 R hR hR).trans gR;simp(disch:=omega) only[ak,↓aj,seval,sJ,gR',hJ];refine hE ?_ _ _ ((kk3.lower (by omega)).trans (.put _ _ (au _))) (by rw[ae,if_pos rfl]) rfl rfl rfl;rw[List.all_eq_false];exact⟨l[j],bQ hj,by simp[hbf]⟩
 ·rw[bW (by omega)] at hall;simp(disch:=omega) only[ak,↓aj,seval,sJ,hJ];exact hQ hall _ _ hk rfl rfl rfl rfl rfl rfl
theorem acb{w:SV}{l ks:List Id}{tb mb lo l1:Nat}{H:Heap}{Q:Out→Heap→Prop}{mk:List Nat}{tm:List IV}(hw:Sl H w l)(hl:l.length≤1000000)
  (hgt:H.get tb=some (.cells false 193 1 [.map mb])) (htb:tb < H.n) (hmb:mb < H.n) (hlm:lo≤mb) (hm:MapIds H mb ks) (htm:tm.length=77) (t11:tm.getD 11 IV.undef=.ptr tb 0) (t51:tm.getD 51 IV.undef=w.iv) (t52:tm.getD 52 IV.undef=.int .i64 l.length) (t53:tm.getD 53 IV.undef=.int .i64 0)
  (hQ:∀H' tm' ks',KeepB mb H H'→MapIds H' mb ks'→(∀a,a∈ks'↔a∈ks∨a∈l)→Q (.ex (.jmp (.exit 4)) ⟨tm',mk⟩) H'):W E0 lo (.code (.loop Cy) (some l1) ⟨tm,mk⟩) H Q:=by
 refine aP (fun k fr H'=>∃i ks',i+k=l.length∧KeepB mb H H'∧MapIds H' mb ks'∧(∀a,a∈ks'↔a∈ks∨a∈l.take i)∧fr.marks=mk∧fr.tm.length=77∧fr.tm.getD 11 IV.undef=.ptr tb 0∧fr.tm.getD 51 IV.undef=w.iv∧fr.tm.getD 52 IV.undef=.int .i64 l.length∧fr.tm.getD 53 IV.undef=.int .i64 i) ?_ l.length ⟨0,ks,by omega,KeepB.refl _ _,hm,by simp,rfl,htm,t11,t51,t52,t53⟩;clear htm t11 t51 t52 t53;rintro k ⟨tm,mk⟩ H' ⟨i,ks',hi,hk,hm',hiff,rfl,htm,t11,t51,t52,t53⟩ L hN hJ;have hn:=hk.1;have hw':=oX hw hk hm;have htm':tb≠mb:=fun e=>by subst e;have h2:H.get tb=_:=hm;rw[h2] at hgt;cases hgt
 have hgt':=(hk.2 tb htb htm').trans hgt;have rt:=ah hgt';rw[ox tm htm,t11,t51,t52,t53];by_cases hil:i < l.length
 ·have r1:=hw'.read lB i hil;have kk:KeepB mb H ((H'.new (.cells false 138 2 [.int .u8 0,.int .i64 0])).put H'.n (.cells false 138 2 (Cell.cs l[i]))):=hk.trans (KeepB.of Keep.newPut)
  have hm2:MapIds ((H'.new (.cells false 138 2 [.int .u8 0,.int .i64 0])).put H'.n (.cells false 138 2 (Cell.cs l[i]))) mb ks':=by
   show Heap.get _ _=_
   rw[ae,if_neg (by omega),al,if_neg (by omega)];exact hm'
  obtain⟨ob,hup,hob⟩:=hm2.upd l[i] lo hlm;simp only[fC] at hup;simp(disch:=omega) only[ak,↓aj,seval,sJ,↓hw.idx,r1,fC,rt,↓hup];refine hN (k - 1) _ _ (by omega) ⟨i+1,if l[i]∈ks' then ks' else ks'++[l[i]],by omega,kk.trans KeepB.put,?_,fun a=>?_,rfl,rfl,rfl,rfl,rfl,rfl⟩
  ·show Heap.get _ _=_
   rw[ae,if_pos rfl,hob]
  ·rw[gv hil,nP,zq];by_cases hin:l[i]∈ks'
   ·rw[if_pos hin,hiff];refine⟨fun h=>h.elim .inl fun h=>.inr (.inl h),fun h=>?_⟩;rcases h with h | h | rfl
    ·exact .inl h
    ·exact .inr h
    ·exact(hiff _).1 hin
   ·rw[if_neg hin,nP,zq,hiff];exact or_assoc
 ·rw[bW (by omega)] at hiff;simp(disch:=omega) only[ak,↓aj,seval,sJ,hJ];exact hQ _ _ ks' hk hm' hiff
theorem L6{v:SV}{l ks:List Id}{R tb mb lo:Nat}{y3 y4:IV}{mk:List Nat}{H:Heap}{Q:Out→Heap→Prop}{tm:List IV}(hv:Sl H v l)(hl:l.length≤1000000)(hR:R < H.n)(hlo:lo≤R)(gR:H.get R=some (.cells false 26 2 [.nilSlice,.nilSlice]))
  (hgt:H.get tb=some (.cells false 193 1 [.map mb])) (htb:tb < H.n) (hmb:mb < H.n) (hlm:lo≤mb) (hRm:R < mb) (hm:MapIds H mb ks) (htm:tm.length=77) (t2:tm.getD 2 IV.undef=v.iv) (t3:tm.getD 3 IV.undef=y3) (t4:tm.getD 4 IV.undef=y4) (t6:tm.getD 6 IV.undef=.ptr R 0) (t11:tm.getD 11 IV.undef=.ptr tb 0) (t60:tm.getD 60 IV.undef=v.iv) (t61:tm.getD 61 IV.undef=.int .i64 l.length) (t62:tm.getD 62 IV.undef=.int .i64 0)
  (hQ:(∀a∈l,a∉ks)→l.Nodup→∀H' tm',KeepB mb H H'→tm'.length=77→tm'.getD 2 IV.undef=v.iv→tm'.getD 3 IV.undef=y3→tm'.getD 4 IV.undef=y4→tm'.getD 6 IV.undef=.ptr R 0→Q (.ex (.jmp (.exit 6)) ⟨tm',mk⟩) H')
  (hE:¬((∀a∈l,a∉ks)∧l.Nodup)→∀H' tm',H.n≤H'.n→(∀x,x < R→H'.get x=H.get x)→H'.get R=some (.cells false 26 2 [.nilSlice,.nilSlice])→tm'.length=77→tm'.getD 6 IV.undef=.ptr R 0→tm'.getD 7 IV.undef=.int .i64 8→(∀x,x < H.n→x≠mb→x≠R→H'.get x=H.get x)→Q (.ex (.jmp .ret) ⟨tm',mk⟩) H'):W E0 lo (.code (.loop Cx) none ⟨tm,mk⟩) H Q:=by
 refine aP (fun k fr H'=>∃i ks',i+k=l.length∧KeepB mb H H'∧MapIds H' mb ks'∧(∀a,a∈ks'↔a∈ks∨a∈l.take i)∧(∀a∈l.take i,a∉ks)∧(l.take i).Nodup∧fr.marks=mk∧fr.tm.length=77∧fr.tm.getD 2 IV.undef=v.iv∧fr.tm.getD 3 IV.undef=y3∧fr.tm.getD 4 IV.undef=y4∧fr.tm.getD 6 IV.undef=.ptr R 0∧fr.tm.getD 11 IV.undef=.ptr tb 0∧fr.tm.getD 60 IV.undef=v.iv∧fr.tm.getD 61 IV.undef=.int .i64 l.length∧fr.tm.getD 62 IV.undef=.int .i64 i) ?_ l.length ⟨0,ks,by omega,KeepB.refl _ _,hm,by simp,by simp,by simp,rfl,htm,t2,t3,t4,t6,t11,t60,t61,t62⟩;clear htm t2 t3 t4 t6 t11 t60 t61 t62;rintro k ⟨tm,mk⟩ H' ⟨i,ks',hi,hk,hm',hiff,hno,hnd,rfl,htm,t2,t3,t4,t6,t11,t60,t61,t62⟩ L hN hJ;have hn:=hk.1;have hw':=oX hv hk hm;have htm':tb≠mb:=fun e=>by subst e;have h2:H.get tb=_:=hm;rw[h2] at hgt;cases hgt
 have hgt':=(hk.2 tb htb htm').trans hgt;have gR':=(hk.2 R hR (by omega)).trans gR;have rt:=ah hgt';rw[ox tm htm,t2,t3,t4,t6,t11,t60,t61,t62];by_cases hil:i < l.length
 ·have r1:=hw'.read lB i hil;have kk:KeepB mb H ((H'.new (.cells false 138 2 [.int .u8 0,.int .i64 0])).put H'.n (.cells false 138 2 (Cell.cs l[i]))):=hk.trans (KeepB.of Keep.newPut)
  have hm2:MapIds ((H'.new (.cells false 138 2 [.int .u8 0,.int .i64 0])).put H'.n (.cells false 138 2 (Cell.cs l[i]))) mb ks':=by
   show Heap.get _ _=_
   rw[ae,if_neg (by omega),al,if_neg (by omega)];exact hm'
  have hlk:=hm2.look l[i];by_cases hin:l[i]∈ks'
  ·rw[decide_eq_true hin] at hlk;simp only[fC] at hlk;simp(disch:=omega) only[ak,↓aj,seval,sJ,↓hv.idx,r1,fC,rt,↓hlk,gR',hJ];refine hE ?_ _ _ (by simp only[af,ac];omega) (fun x hx=>?_) (by rw[ae,if_pos rfl]) rfl rfl rfl (fun x h1 h2 h3=>?_)
   ·rintro⟨h1,h2⟩
    rcases(hiff _).1 hin with h | h
    ·exact h1 _ (bQ hil) h
    ·have:=zJ (ks:=[]) hil (by simpa using h)
     exact this (by simpa using h2)
   ·rw[ae,if_neg (by omega),ae,if_neg (by omega),al,if_neg (by omega)];exact hk.2 x (by omega) (by omega)
   ·rw[ae,if_neg (Ne.symm h3),ae,if_neg (by omega),al,if_neg (by omega)];exact hk.2 x h1 h2
  ·rw[decide_eq_false hin] at hlk;obtain⟨ob,hup,hob⟩:=hm2.upd l[i] lo hlm;rw[if_neg hin] at hob;simp only[fC] at hup hlk;simp(disch:=omega) only[ak,↓aj,seval,sJ,↓hv.idx,r1,fC,rt,↓hlk,↓hup];have hnk:l[i]∉ks:=fun h=>hin ((hiff _).2 (.inl h));have hnt:l[i]∉l.take i:=fun h=>hin ((hiff _).2 (.inr h));refine hN (k - 1) _ _ (by omega) ⟨i+1,ks'++[l[i]],by omega,kk.trans KeepB.put,?_,fun a=>?_,fun a ha=>?_,?_,rfl,rfl,rfl,rfl,rfl,rfl,rfl,rfl,rfl,rfl⟩
   ·show Heap.get _ _=_
    rw[ae,if_pos rfl,hob]
   ·rw[gv hil,nP,nP,zq,hiff];exact or_assoc
   ·rw[gv hil,nP,zq] at ha;rcases ha with ha | rfl
    ·exact hno a ha
    ·exact hnk
   ·rw[gv hil];exact xC hnd hnt
 ·rw[bW (by omega)] at hno hnd;simp(disch:=omega) only[ak,↓aj,seval,sJ,hJ];exact hQ hno hnd _ _ hk rfl rfl rfl rfl rfl
theorem aoP{a b c d:Int}(h:a=c∧b=d):((a==c)&&(b==d))=true:=by simp[h.1,h.2]
theorem aoQ{a b c d:Int}(h:¬(a=c∧b=d)):((a==c)&&(b==d))=false:=by
 rw[Bool.and_eq_false_iff];by_cases h1:a=c
 ·right;simp;exact fun e=>h ⟨h1,e⟩
 ·left;simpa using h1
def km(t:List (List Id))(nb na:Int)(l:List Id):Int:=
 if av nb na≠0 then 1 else if l.all bM=false then 1 else if l.length>4 then 9 else if (∀a∈l,a∉(t.set (ix nb na) []).flatten)∧l.Nodup then 0 else 8
def InS(t:List (List Id))(k m:Nat)(a:Id):Prop:=∃j,j < m∧j≠k∧a∈t.getD j []
theorem InS.succ(t:List (List Id))(k m:Nat)(a:Id):InS t k (m+1) a↔InS t k m a∨(m≠k∧a∈t.getD m []):=by
 constructor
 ·rintro⟨j,h1,h2,h3⟩
  by_cases hj:j=m
  ·subst hj;exact .inr ⟨h2,h3⟩
  ·exact .inl ⟨j,by omega,h2,h3⟩
 ·rintro(⟨j,h1,h2,h3⟩ | ⟨h2,h3⟩)
  ·exact⟨j,by omega,h2,h3⟩
  ·exact⟨m,by omega,h2,h3⟩
theorem InS.ext{t:List (List Id)}{m n:Nat}(k:Nat)(a:Id)(h:m≤n)(h0:∀j,m≤j→j < n→t.getD j []=[]):InS t k m a↔InS t k n a:=by
 constructor
 ·rintro⟨j,h1,h2,h3⟩;exact⟨j,by omega,h2,h3⟩
 ·rintro⟨j,h1,h2,h3⟩
  refine⟨j,?_,h2,h3⟩
  by_cases hj:j < m
  ·exact hj
  ·rw[h0 j (by omega) h1] at h3;cases h3
theorem InS.all{t:List (List Id)}(ht:t.length=80){k:Nat}(hk:k < 80)(a:Id):InS t k 80 a↔a∈(t.set k []).flatten:=by
 rw[List.mem_flatten]
 constructor
 ·rintro⟨j,h1,h2,h3⟩
  refine⟨t.getD j [],?_,h3⟩
  rw[bK (by omega)]
  have:(t.set k [])[j]'(by rw[cI];omega)=t[j]'(by omega):=j0 (Ne.symm h2) _
  rw[←this];exact bQ _
 ·rintro⟨x,h1,h2⟩
  obtain⟨j,hj,rfl⟩:=List.mem_iff_getElem.1 h1;rw[cI] at hj;by_cases hjk:k=j
  ·subst hjk;rw[qe] at h2;cases h2
  ·rw[j0 hjk] at h2;exact⟨j,by omega,Ne.symm hjk,by rw[bK hj];exact h2⟩
theorem Hv(t:List (List Id)){i:Nat}(h:i < 40):(aO t).getD i []=t.getD i []:=by
 unfold aO;rw[cN,zU _ _ _ h]
theorem Hw(t:List (List Id))(i:Nat):(aJ t).getD i []=t.getD (40+i) []:=by
 unfold aJ;rw[cN,zV]
theorem Oe{f b v:SV}{t:List (List Id)}{l:List Id}(nb na:Int){H:Heap}{lo:Nat}{Q:Out→Heap→Prop}(hV:Valid t)(hf:Sl2 H f (aO t))(hb:Sl2 H b (aJ t))(hv:Sl H v l)(hl:l.length≤1000000)(hlo:lo≤H.n)
  (he:∀H',Keep H.n H H'→km t nb na l≠0→Q (.val (.tuple [bv .nil .nil,.int .i64 (km t nb na l)])) H')
  (h:∀H' f' b',Keep H.n H H'→km t nb na l=0→alG H.n H' f' b' (aO (t.set (ix nb na) l)) (aJ (t.set (ix nb na) l))→Q (.val (.tuple [bv f' b',.int .i64 0])) H'):W E0 lo (.call 130 [bv f b,.agg [.int .u8 nb,.int .i64 na],v.iv]) H Q:=by
 have hl6:∀l∈t,l.length≤1000000:=fun l hl=>by have:=hV.four l hl;omega
 have hlF:=kh t;have hlB:=iy hV.len;have h6F:∀l∈aO t,l.length≤1000000:=fun l hl=>hl6 l (fD hl);have h6B:∀l∈aJ t,l.length≤1000000:=fun l hl=>hl6 l (dM hl);refine W.pure bJ hlo ?_;rw[arN];simp(disch:=omega) only[ak,↓aj,seval,tJ,bv];generalize hH_H1:Heap.new _ _=H1;have hnH1:H1.n=H.n+3:=by rw[←hH_H1];rfl
 have g0:=congrArg (fun h0=>Heap.get h0 (H.n)) hH_H1.symm;simp(disch:=omega) only[ak,↓aj,seval] at g0;have g1:=congrArg (fun h0=>Heap.get h0 (H.n+1)) hH_H1.symm;simp(disch:=omega) only[ak,↓aj,seval] at g1;have g2:=congrArg (fun h0=>Heap.get h0 (H.n+2)) hH_H1.symm;simp(disch:=omega) only[ak,↓aj,seval] at g2
 have kH1:Keep H.n H H1:=⟨by omega,fun x hx _=>by
  have gx:=congrArg (fun h0=>Heap.get h0 x) hH_H1.symm;simp(disch:=omega) only[ak,↓aj,seval] at gx;exact gx⟩
 clear hH_H1;rw[show IV.agg [f.iv,b.iv]=bv f b from rfl];refine ss (hf.keep kH1) (hb.keep kH1) (by omega) (by omega) h6F h6B (by omega) fun H2 k2=>?_;rw[hV.check];have hn2:=k2.1;replace g0:=(k2.2 _ (by omega) (by omega)).trans g0;replace g1:=(k2.2 _ (by omega) (by omega)).trans g1;replace g2:=(k2.2 _ (by omega) (by omega)).trans g2;replace kH1:Keep H.n H H2:=kH1.trans (k2.lower (by omega));clear k2;have r1:=ah g1;simp(disch:=omega) only[ak,↓aj,seval,tJ,r1];refine cJ nb na (by omega) fun H3 k3=>?_;have hn3:=k3.1;replace g0:=(k3.2 _ (by omega) (by omega)).trans g0;replace g1:=(k3.2 _ (by omega) (by omega)).trans g1;replace g2:=(k3.2 _ (by omega) (by omega)).trans g2;replace kH1:Keep H.n H H3:=kH1.trans (k3.lower (by omega));clear k3 r1;by_cases c1:av nb na=0
 case neg=>
  have e1:=(jS nb na).resolve_left c1;have ej:km t nb na l=1:=by unfold km;rw[if_pos c1]
  rw[ej] at he;simp(disch:=omega) only[ak,↓aj,seval,tJ,e1,g2];exact fun hk=>he _ hk (by omega)
 simp(disch:=omega) only[ak,↓aj,seval,AO,AN,AM,AL,AK,AJ,AI,AH,AG,AF,wB,wz,wy,wx,ww,wv,wu,wq,wp,wo,wm,wl,wk,wi,wh,wg,we,wd,wc,wa,CO,EI,Nw,c1,↓hv.ln]
 refine L7 (R:=H.n+2) (v:=v) (l:=l) (by omega) (by omega) (hv.keep kH1) hl g2 rfl rfl rfl rfl rfl rfl rfl rfl rfl ?_ ?_
 case _=>
  intro hall H4 tm4 k4 htm4 u2 u3 u4 u6 u7;have hn4:=k4.1;replace g0:=(k4.2 _ (by omega) (by omega)).trans g0;replace g1:=(k4.2 _ (by omega) (by omega)).trans g1;replace g2:=(k4.2 _ (by omega) (by omega)).trans g2;replace kH1:Keep H.n H H4:=kH1.trans (k4.lower (by omega));clear k4;rw[ox tm4 htm4,u2,u3,u4,u6,u7];by_cases c3:l.length>4
  ·have ej:km t nb na l=9:=by unfold km;rw[if_neg (by simp[c1]),if_neg (by simp[hall]),if_pos c3]
   rw[ej] at he;simp(disch:=omega) only[ak,↓aj,seval,tJ,↓hv.ln,g2];exact fun hk=>he _ hk (by omega)
  have r0:=ah g0;simp(disch:=omega) only[ak,↓aj,seval,tJ,anG,↓hv.ln,r0,amI];obtain⟨k,hk⟩:∃k,k=ix nb na:=⟨_,rfl⟩;have hk80:k < 80:=by rw[hk];exact(MK c1).2.2
  obtain⟨hb01,hna1,hna2⟩:=e9 c1;have hkk:(k:Int)=40*nb+na - 1:=by rw[hk];unfold ix;omega
  generalize hH5:Heap.new _ _=H5;have hn5:H5.n=H4.n+5:=by rw[←hH5];rfl
  have f0:=congrArg (fun h0=>Heap.get h0 (H4.n)) hH5.symm;simp(disch:=omega) only[ak,↓aj,seval] at f0;have f1:=congrArg (fun h0=>Heap.get h0 (H4.n+1)) hH5.symm;simp(disch:=omega) only[ak,↓aj,seval] at f1;have f2:=congrArg (fun h0=>Heap.get h0 (H4.n+2)) hH5.symm;simp(disch:=omega) only[ak,↓aj,seval] at f2;have f3:=congrArg (fun h0=>Heap.get h0 (H4.n+3)) hH5.symm;simp(disch:=omega) only[ak,↓aj,seval] at f3;have f4:=congrArg (fun h0=>Heap.get h0 (H4.n+4)) hH5.symm;simp(disch:=omega) only[ak,↓aj,seval] at f4
  have k5:Keep H4.n H4 H5:=⟨by omega,fun x hx _=>by
   have gx:=congrArg (fun h0=>Heap.get h0 x) hH5.symm;simp(disch:=omega) only[ak,↓aj,seval] at gx;exact gx⟩
  clear hH5;replace g0:=(k5.2 _ (by omega) (by omega)).trans g0;replace g1:=(k5.2 _ (by omega) (by omega)).trans g1;replace g2:=(k5.2 _ (by omega) (by omega)).trans g2;replace kH1:Keep H.n H H5:=kH1.trans (k5.lower (by omega));clear k5
  have hstep:∀(bed:Int) (i:Nat) (w:SV) (s ks:List Id) (H':Heap),s.length≤1000000→H5.n≤H'.n→(∀x,x < H5.n→x≠H4.n→H'.get x=H5.get x)→MapIds H' H4.n ks→Sl H' w s→∀K:Out→Heap→Prop,(∀H'' ks',(∀x,x < H5.n→x≠H4.n→H''.get x=H5.get x)→MapIds H'' H4.n ks'→(∀a,a∈ks'↔a∈ks∨(¬(bed=nb∧(i:Int)+1=na)∧a∈s))→H'.n≤H''.n→(∀x,H5.n≤x→x < H'.n→H''.get x=H'.get x)→K (.val (.bool true)) H'')→W E0 H.n (.apply (.yield (H4.n+4)) [.agg [.int .u8 bed,.int .i64 ((i:Int)+1)],w.iv]) H' K:=by
   intro bed i w s ks H' hs hn hkp hm hw K hK;have e1:=(hkp (H.n+1) (by omega) (by omega)).trans g1;have e4:=(hkp (H4.n+4) (by omega) (by omega)).trans f4;have et:=(hkp (H4.n+1) (by omega) (by omega)).trans f1;have r1:=ah e1;by_cases hne:bed=nb∧(i:Int)+1=na
   ·have eb:=aoP hne;simp(disch:=omega) only[ak,↓aj,seval,tJ,e4,r1,eb];refine hK _ ks (fun x h1 h2=>?_) ?_ (fun a=>⟨.inl,fun h=>h.elim id fun h=>absurd hne h.1⟩) ?_ (fun x h1 h2=>?_)
    ·by_cases hx:x=H4.n+4
     ·subst hx;simp(disch:=omega) only[ak,↓aj,seval,f4]
     ·rw[ae,if_neg (Ne.symm hx),ae,if_neg (Ne.symm hx),ae,if_neg (by omega),al,if_neg (by omega)];exact hkp x h1 h2
    ·show Heap.get _ _=_
     rw[ae,if_neg (by omega),ae,if_neg (by omega),ae,if_neg (by omega),al,if_neg (by omega)];exact hm
    ·simp only[af,ac];omega
    ·rw[ae,if_neg (by omega),ae,if_neg (by omega),ae,if_neg (by omega),al,if_neg (by omega)]
   ·have eb:=aoQ hne;simp(disch:=omega) only[ak,↓aj,seval,tJ,e4,r1,eb,↓hw.ln];generalize hH6:Heap.put _ _ _=H6;have n6:H6.n=H'.n+1:=by rw[←hH6];rfl
    have q4:=congrArg (fun h0=>Heap.get h0 (H4.n+4)) hH6.symm;simp(disch:=omega) only[ak,↓aj,seval] at q4
    have k6:∀x,x < H'.n→x≠H4.n+4→H6.get x=H'.get x:=fun x hx h4=>by
     rw[←hH6,ae,if_neg (Ne.symm h4),ae,if_neg (by omega),al,if_neg (by omega)]
    clear hH6;have hw6:Sl H6 w s:=hw.same (by omega) fun hl=>k6 _ (hw.blk_lt hl) (hw.off hl e4 (by simp));have hm6:MapIds H6 H4.n ks:=(k6 _ (by omega) (by omega)).trans hm;refine acb (ks:=ks) (tb:=H4.n+1) hw6 hs ((k6 _ (by omega) (by omega)).trans et) (by omega) (by omega) (by omega) hm6 rfl rfl rfl rfl rfl ?_;intro H7 tm7 ks7 k7 hm7 hiff;have hn7:=k7.1;have q7:=(k7.2 (H4.n+4) (by omega) (by omega)).trans q4;simp(disch:=omega) only[ak,↓aj,seval,tJ,q7];refine hK _ ks7 (fun x h1 h2=>?_) ?_ (fun a=>(hiff a).trans (or_congr_right ⟨fun h=>⟨hne,h⟩,fun h=>h.2⟩)) ?_ (fun x h1 h2=>?_)
    ·by_cases hx:x=H4.n+4
     ·subst hx;simp(disch:=omega) only[ak,↓aj,seval,f4]
     ·rw[ae,if_neg (Ne.symm hx),k7.2 x (by omega) h2,k6 x (by omega) hx];exact hkp x h1 h2
    ·show Heap.get _ _=_
     rw[ae,if_neg (by omega)];exact hm7
    ·simp only[af];omega
    ·rw[ae,if_neg (by omega),k7.2 x (by omega) (by omega),k6 x h2 (by omega)]
  have r2:=ah f2;have kPd:∀H',H5.n≤H'.n→(∀x,x < H5.n→x≠H4.n→H'.get x=H5.get x)→Keep H.n H H':=fun H' a1 a2=>⟨by have:=kH1.1;omega,fun x h1 _=>(a2 x (by omega) (by omega)).trans (kH1.2 x h1 h1)⟩;refine zL (f:=f) (b:=b) (fs:=aO t) (bs:=aJ t) (fun c i H'=>H5.n≤H'.n∧(∀x,x < H5.n→x≠H4.n→H'.get x=H5.get x)∧∃ks,MapIds H' H4.n ks∧∀a,a∈ks↔InS t k (40*c+i) a) (fun _=>False) (by omega) (by omega) (by omega) (by omega) (by rw[r2];rfl) ?_ ?_ ?_ ?_ ?_ ?_ ?_ ?_ ?_
  ·rintro c i H' H'' ⟨a1,a2,ks,a3,a4⟩ b1 b2;exact⟨by omega,fun x h1 h2=>(b2 x h1).trans (a2 x h1 h2),ks,(b2 _ (by omega)).trans a3,a4⟩
  ·exact fun _ _ h _ _=>h
  ·rintro c i H' ⟨a1,a2,a3⟩;exact⟨hf.keep (kPd H' a1 a2),hb.keep (kPd H' a1 a2)⟩
  ·rintro i w H' hi h4 hn ⟨a1,a2,ks,a3,a4⟩ hw K hK hK';refine hstep 0 i w (aO t)[i] ks H' (h6F _ (bQ _)) a1 a2 a3 hw K fun H'' ks' c1 c2 c3 c4 c5=>hK H'' ⟨by omega,c1,ks',c2,fun a=>?_⟩ c4 c5;rw[c3,a4,show 40*0+(i+1)=40*0+i+1 by omega,InS.succ,Nat.mul_zero,cu,←Hv t h4,bK hi];exact or_congr_right (and_congr_left fun _=>by omega)
  ·rintro i w H' hi h4 hn ⟨a1,a2,ks,a3,a4⟩ hw K hK hK';refine hstep 1 i w (aJ t)[i] ks H' (h6B _ (bQ _)) a1 a2 a3 hw K fun H'' ks' c1 c2 c3 c4 c5=>hK H'' ⟨by omega,c1,ks',c2,fun a=>?_⟩ c4 c5;rw[c3,a4,show 40*1+(i+1)=40*1+i+1 by omega,InS.succ,lL,←Hw t i,bK hi];exact or_congr_right (and_congr_left fun _=>by omega)
  ·exact⟨au _,fun _ _ _=>rfl,[],f0,fun a=>⟨fun h=>(by cases h),fun⟨j,hj,_⟩=>by omega⟩⟩
  ·rintro H' ⟨a1,a2,ks,a3,a4⟩;refine⟨a1,a2,ks,a3,fun a=>(a4 a).trans ?_⟩;refine InS.ext k a (by omega) fun j h1 h2=>?_;rw[←Hv t (by omega)];exact jc (by omega)
  ·rintro H' ⟨a1,a2,ks,a3,a4⟩ hn
   have hset:∀a,a∈ks↔a∈(t.set k []).flatten:=fun a=>(a4 a).trans ((InS.ext k a (by omega) fun j h1 h2=>by
    rw[show j=40+(j - 40) by omega,←Hw];exact jc (by omega)).trans (InS.all hV.len hk80 a))
   have e2:=(a2 (H.n+2) (by omega) (by omega)).trans g2;have e3:=(a2 (H4.n+3) (by omega) (by omega)).trans f3;have e4:=(a2 (H4.n+4) (by omega) (by omega)).trans f4;have et:=(a2 (H4.n+1) (by omega) (by omega)).trans f1;have e0:=(a2 H.n (by omega) (by omega)).trans g0;have e1:=(a2 (H.n+1) (by omega) (by omega)).trans g1;have kk:=kPd H' a1 a2;simp(disch:=omega) only[ak,↓aj,seval,AO,AN,AM,AL,AK,AJ,AI,AH,AG,AF,wB,wz,CP,wy,wx,ww,wv,wu,wq,wp,wo,wm,wl,wk,wi,wh,wg,we,wd,wc,wa,EI,Nw,e4,↓hv.ln];generalize hH8:Heap.put _ _ _=H8;have n8:H8.n=H'.n:=by rw[←hH8];rfl
   have k8:∀x,x≠H4.n+4→H8.get x=H'.get x:=fun x hx=>by rw[←hH8,ae,if_neg (Ne.symm hx)]
   clear hH8;replace e0:=(k8 _ (by omega)).trans e0;replace e1:=(k8 _ (by omega)).trans e1;replace e2:=(k8 _ (by omega)).trans e2;replace e3:=(k8 _ (by omega)).trans e3;replace et:=(k8 _ (by omega)).trans et;replace a3:MapIds H8 H4.n ks:=(k8 _ (by omega)).trans a3;have kk8:Keep H.n H H8:=⟨by have:=kk.1;omega,fun x h1 h2=>(k8 x (by omega)).trans (kk.2 x h1 h2)⟩;refine L6 (R:=H.n+2) (tb:=H4.n+1) (ks:=ks) (hv.keep kk8) hl (by omega) (by omega) e2 et (by omega) (by omega) (by omega) (by omega) a3 rfl rfl rfl rfl rfl rfl rfl rfl rfl ?_ ?_
   case _=>
    intro hno hnd H9 tm9 k9 htm9 x2 x3 x4 x6;have hn9:=k9.1;replace e0:=(k9.2 _ (by omega) (by omega)).trans e0;replace e1:=(k9.2 _ (by omega) (by omega)).trans e1;replace e2:=(k9.2 _ (by omega) (by omega)).trans e2;replace e3:=(k9.2 _ (by omega) (by omega)).trans e3;have kk9:Keep H.n H H9:=⟨by have:=kk8.1;omega,fun x h1 h2=>(k9.2 x (by omega) (by omega)).trans (kk8.2 x h1 h2)⟩
    have ej:km t nb na l=0:=by
     unfold km;rw[if_neg (by simp[c1]),if_neg (by simp[hall]),if_neg c3,if_pos ⟨fun a ha hin=>hno a ha ((hset a).2 (by rw[hk];exact hin)),hnd⟩]
    rw[ox tm9 htm9,x2,x3,x4,x6];have r0:=ah e0;have r1:=ah e1;simp(disch:=omega) only[ak,↓aj,seval,tJ,r0,r1];have ena:na=((na.toNat:Nat):Int):=by omega
    rw[show IV.agg [f.iv,b.iv]=bv f b from rfl,ena];refine sZ nb na.toNat (hf.keep kk9) (hb.keep kk9) (hv.keep kk9) (by omega) (by omega) (by omega) h6F h6B hl (by omega) fun H10 f10 b10 k10 s10=>?_;rw[←ena];obtain⟨p1,p2⟩:=xq hV.len c1 l;rw[p1,p2] at s10;have hn10:=k10.1;replace e2:=(k10.2 _ (by omega) (by omega)).trans e2;replace e3:=(k10.2 _ (by omega) (by omega)).trans e3;simp(disch:=omega) only[ak,↓aj,seval,tJ,e2,e3,bv];refine fun hk'=>h _ f10 b10 hk' ej ⟨Sl2F.lower (n0:=H9.n) ?_ (by omega),Sl2F.lower (n0:=H9.n) ?_ (by omega),s10.2.2⟩
    ·exact(s10.1.put (by omega)).put (by omega)
    ·exact(s10.2.1.put (by omega)).put (by omega)
   case _=>
    intro hbad H9 tm9 hn9 k9 g9 htm9 x6 x7 k9';replace e3:=(k9' _ (by omega) (by omega) (by omega)).trans e3
    have ej:km t nb na l=8:=by
     unfold km;rw[if_neg (by simp[c1]),if_neg (by simp[hall]),if_neg c3,if_neg];rintro⟨h1,h2⟩;exact hbad ⟨fun a ha hin=>h1 a ha (by rw[←hk];exact(hset a).1 hin),h2⟩
    rw[ej] at he;rw[ox tm9 htm9,x6,x7];have r9:=ah g9;simp(disch:=omega) only[ak,↓aj,seval,tJ,r9,e3];exact fun hk=>he _ hk (by omega)
  ·exact fun _ h=>h.elim
 case _=>
  intro hall H4 tm4 k4 g4 htm4 u6 u7;have ej:km t nb na l=1:=by unfold km;rw[if_neg (by simp[c1]),if_pos hall]
  rw[ej] at he;rw[ox tm4 htm4,u6,u7];have r4:=ah g4;simp(disch:=omega) only[ak,↓aj,seval,tJ,r4];exact fun hk=>he _ hk (by omega)
end Go.Iso.Gen
end
