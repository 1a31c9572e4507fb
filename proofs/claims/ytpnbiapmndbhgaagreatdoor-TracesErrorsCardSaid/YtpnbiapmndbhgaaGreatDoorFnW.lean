/-
  what is told of programs.
-/
import Derived.Test.YtpnbiapmndbhgaaGreatDoorFnUb
import Derived.Test.YtpnbiapmndbhgaaGreatDoorFnV
import Derived.Test.YtpnbiapmndbhgaaGreatDoorIsoP7
set_option linter.unusedSimpArgs false
set_option linter.unusedVariables false
set_option maxHeartbeats 4000000
set_option maxRecDepth 10000
set_option linter.defProp false
section
namespace Go.Iso.Gen
open Go.Iso
theorem Av{Q:Out→Heap→Prop}{H:Heap}{lo:Nat}{f:FuncId}{args:List IV}(v:IV)(hlo:lo≤H.n)(h:∀H',Keep H.n H H'→Q (.val v) H')(k:∀R:Out→Heap→Prop,(∀H',R (.val v) H')→W E0 H.n (.call f args) H R):W E0 lo (.call f args) H Q:=
 W.pure bu hlo (k _ fun H' hk=>h H' hk)
def opA(w y n r:Nat)(d:Int):Opn:=
 if w%16=0 then⟨1,d,0,0,(1+y%3:Nat),0⟩
 else if w%16=1 then⟨2,0,0,0,(1+y%3:Nat),0⟩
 else if w%16=2 then⟨3,0,0,0,0,((r%5:Nat):Int) - 2⟩
 else if w%16 < 10 then⟨4,d,(n%2:Nat),(1+n / 2%6:Nat),(1+y%3:Nat),0⟩
 else if w%16 < 12 then⟨5,d,(n%2:Nat),(1+n / 2%6:Nat),(1+y%3:Nat),0⟩
 else if w%16=12 then⟨6,d,(n%2:Nat),(1+n / 2%6:Nat),(1+y%3:Nat),0⟩
 else if w%16 < 15 then⟨7,0,(n%2:Nat),(1+n / 2%6:Nat),0,0⟩
 else⟨8,0,(n%2:Nat),(1+n / 2%6:Nat),0,0⟩
theorem DD(a b:Nat):(a:Int).tmod (b:Int)=((a%b:Nat):Int):=by
 rw[Gn (by omega)];rfl
theorem aph(a b:Nat):(a:Int).tdiv (b:Int)=((a / b:Nat):Int):=by
 rw[Int.tdiv_eq_ediv_of_nonneg (by omega)];rfl
theorem m16(a:Nat):(a:Int).tmod 16=((a%16:Nat):Int):=DD a 16
theorem m2(a:Nat):(a:Int).tmod 2=((a%2:Nat):Int):=DD a 2
theorem m3(a:Nat):(a:Int).tmod 3=((a%3:Nat):Int):=DD a 3
theorem m5(a:Nat):(a:Int).tmod 5=((a%5:Nat):Int):=DD a 5
theorem m6(a:Nat):(a:Int).tmod 6=((a%6:Nat):Int):=DD a 6
theorem d2(a:Nat):(a:Int).tdiv 2=((a / 2:Nat):Int):=aph a 2
theorem apx{w y n r:Nat}{d:Int}(hw:w≤255)(hy:y≤255)(hn:n≤255)(hr:r≤255)(hd:d=0∨d=1){H:Heap}{lo:Nat}{Q:Out→Heap→Prop}(hlo:lo≤H.n)
  (h:∀H',Keep H.n H H'→Q (.val (.agg (Cell.cs (opA w y n r d)))) H'):W E0 lo (.call 12 [.agg [.int .u8 w,.int .u8 y,.int .u8 n,.int .u8 r],.int .u8 d]) H Q:=by
 refine Av _ hlo h fun R hR=>?_;rw[c12];obtain⟨m,hm⟩:∃m,m=w%16:=⟨_,rfl⟩;have e3:((1+y%3:Nat):Int)=1+((y%3:Nat):Int):=by omega
 have e6:((1+n / 2%6:Nat):Int)=1+((n / 2%6:Nat):Int):=by omega
 unfold opA at hR;rw[←hm,e3,e6] at hR;rcases(by omega:m=0∨m=1∨m=2∨m=3∨m=4∨m=5∨m=6∨m=7∨m=8∨m=9∨m=10∨m=11∨m=12∨m=13∨m=14∨m=15) with rfl | rfl | rfl | rfl | rfl | rfl | rfl | rfl | rfl | rfl | rfl | rfl | rfl | rfl | rfl | rfl
 all_goals
  simp(disch:=omega) only[ak,↓aj,seval,B12,m16,←hm,m2,m3,m5,m6,d2]
  exact hR _
theorem sE{a b:Int}(h:a=b):cv a b=0:=by unfold cv;rw[if_neg (by omega),if_neg (by omega)]
theorem sD{a b:Int}(h:a≠b):(cv a b !=0)=true:=by
 unfold cv;split
 ·rfl
 ·rw[if_pos (by omega)];rfl
theorem aeq(a b:Int){H:Heap}{lo:Nat}{Q:Out→Heap→Prop}(hlo:lo≤H.n)(h:∀H',Keep H.n H H'→Q (.val (.int .i64 (cv a b))) H'):W E0 lo (.call 92 [.int .u8 a,.int .u8 b]) H Q:=by
 refine Av _ hlo h fun R hR=>?_;rw[c92];unfold cv at hR;by_cases c1:a < b
 ·rw[if_pos c1] at hR;simp(disch:=omega) only[ak,↓aj,seval,B92,c1];exact hR _
 ·rw[if_neg c1] at hR;by_cases c2:a>b
  ·rw[if_pos c2] at hR;simp(disch:=omega) only[ak,↓aj,seval,B92,c1,c2];exact hR _
  ·rw[if_neg c2] at hR;simp(disch:=omega) only[ak,↓aj,seval,B92,c1,c2];exact hR _
theorem aep(a b:Int){H:Heap}{lo:Nat}{Q:Out→Heap→Prop}(hlo:lo≤H.n)(h:∀H',Keep H.n H H'→Q (.val (.int .i64 (cv a b))) H'):W E0 lo (.call 93 [.int .u8 a,.int .u8 b]) H Q:=by
 refine Av _ hlo h fun R hR=>?_;rw[c93];unfold cv at hR;by_cases c1:a < b
 ·rw[if_pos c1] at hR;simp(disch:=omega) only[ak,↓aj,seval,B93,c1];exact hR _
 ·rw[if_neg c1] at hR;by_cases c2:a>b
  ·rw[if_pos c2] at hR;simp(disch:=omega) only[ak,↓aj,seval,B93,c1,c2];exact hR _
  ·rw[if_neg c2] at hR;simp(disch:=omega) only[ak,↓aj,seval,B93,c1,c2];exact hR _
theorem aes(a b:Int){H:Heap}{lo:Nat}{Q:Out→Heap→Prop}(hlo:lo≤H.n)(h:∀H',Keep H.n H H'→Q (.val (.int .i64 (cv a b))) H'):W E0 lo (.call 94 [.int .u8 a,.int .u8 b]) H Q:=by
 refine Av _ hlo h fun R hR=>?_;rw[c94];unfold cv at hR;by_cases c1:a < b
 ·rw[if_pos c1] at hR;simp(disch:=omega) only[ak,↓aj,seval,B94,c1];exact hR _
 ·rw[if_neg c1] at hR;by_cases c2:a>b
  ·rw[if_pos c2] at hR;simp(disch:=omega) only[ak,↓aj,seval,B94,c1,c2];exact hR _
  ·rw[if_neg c2] at hR;simp(disch:=omega) only[ak,↓aj,seval,B94,c1,c2];exact hR _
theorem IM(a b:Int){H:Heap}{lo:Nat}{Q:Out→Heap→Prop}(hlo:lo≤H.n)(h:∀H',Keep H.n H H'→Q (.val (.int .i64 (cv a b))) H'):W E0 lo (.call 95 [.int .i64 a,.int .i64 b]) H Q:=by
 refine Av _ hlo h fun R hR=>?_;rw[c95];unfold cv at hR;by_cases c1:a < b
 ·rw[if_pos c1] at hR;simp(disch:=omega) only[ak,↓aj,seval,B95,c1];exact hR _
 ·rw[if_neg c1] at hR;by_cases c2:a>b
  ·rw[if_pos c2] at hR;simp(disch:=omega) only[ak,↓aj,seval,B95,c1,c2];exact hR _
  ·rw[if_neg c2] at hR;simp(disch:=omega) only[ak,↓aj,seval,B95,c1,c2];exact hR _
theorem aer(a b:Int){H:Heap}{lo:Nat}{Q:Out→Heap→Prop}(hlo:lo≤H.n)(h:∀H',Keep H.n H H'→Q (.val (.int .i64 (cv a b))) H'):W E0 lo (.call 96 [.int .u8 a,.int .u8 b]) H Q:=by
 refine Av _ hlo h fun R hR=>?_;rw[c96];unfold cv at hR;by_cases c1:a < b
 ·rw[if_pos c1] at hR;simp(disch:=omega) only[ak,↓aj,seval,B96,c1];exact hR _
 ·rw[if_neg c1] at hR;by_cases c2:a>b
  ·rw[if_pos c2] at hR;simp(disch:=omega) only[ak,↓aj,seval,B96,c1,c2];exact hR _
  ·rw[if_neg c2] at hR;simp(disch:=omega) only[ak,↓aj,seval,B96,c1,c2];exact hR _
def anN(a b:Opn):Int:=if a.k≠b.k then cv a.k b.k else if a.y≠b.y then cv a.y b.y else if a.b≠b.b then cv a.b b.b else if a.a≠b.a then cv a.a b.a else if a.d≠b.d then cv a.d b.d else cv a.r b.r
theorem HQ(a b:Opn){H:Heap}{lo:Nat}{Q:Out→Heap→Prop}(hlo:lo≤H.n)(h:∀H',Keep H.n H H'→Q (.val (.int .i64 (anN a b))) H'):W E0 lo (.call 39 [.agg [.int .u8 a.k,.int .u8 a.d,.int .u8 a.b,.int .i64 a.a,.int .u8 a.y,.int .i64 a.r],.agg [.int .u8 b.k,.int .u8 b.d,.int .u8 b.b,.int .i64 b.a,.int .u8 b.y,.int .i64 b.r]]) H Q:=by
 refine W.pure bu hlo ?_;rw[c39];unfold anN at h;simp(disch:=omega) only[ak,↓aj,seval,OH];generalize hH_H1:Heap.new _ _=H1;have hnH1:H1.n=H.n+2:=by rw[←hH_H1];rfl
 have g0:=congrArg (fun h0=>Heap.get h0 (H.n)) hH_H1.symm;simp(disch:=omega) only[ak,↓aj,seval] at g0;have g1:=congrArg (fun h0=>Heap.get h0 (H.n+1)) hH_H1.symm;simp(disch:=omega) only[ak,↓aj,seval] at g1
 have kH1:Keep H.n H H1:=⟨by omega,fun x hx _=>by
  have gx:=congrArg (fun h0=>Heap.get h0 x) hH_H1.symm;simp(disch:=omega) only[ak,↓aj,seval] at gx;exact gx⟩
 clear hH_H1;refine aeq a.k b.k (by omega) fun H2 k2=>?_;have hn2:=k2.1;replace g0:=(k2.2 _ (by omega) (by omega)).trans g0;replace g1:=(k2.2 _ (by omega) (by omega)).trans g1;replace kH1:Keep H.n H H2:=kH1.trans (k2.lower (by omega));clear k2;by_cases e0:a.k=b.k
 case neg=>
  have n1:=sD e0;rw[if_pos e0] at h;simp(disch:=omega) only[ak,↓aj,seval,OH,n1];exact fun hk=>h _ hk
 rw[if_neg (by simp[e0])] at h;rw[sE e0];have r00:=af g0;have r10:=af g1;simp(disch:=omega) only[ak,↓aj,seval,OH,r00,r10];refine aep a.y b.y (by omega) fun H3 k3=>?_;have hn3:=k3.1;replace g0:=(k3.2 _ (by omega) (by omega)).trans g0;replace g1:=(k3.2 _ (by omega) (by omega)).trans g1;replace kH1:Keep H.n H H3:=kH1.trans (k3.lower (by omega));clear k3;by_cases e1:a.y=b.y
 case neg=>
  have n1:=sD e1;rw[if_pos e1] at h;simp(disch:=omega) only[ak,↓aj,seval,OH,n1];exact fun hk=>h _ hk
 rw[if_neg (by simp[e1])] at h;rw[sE e1];have r01:=af g0;have r11:=af g1;simp(disch:=omega) only[ak,↓aj,seval,OH,r01,r11];refine aes a.b b.b (by omega) fun H4 k4=>?_;have hn4:=k4.1;replace g0:=(k4.2 _ (by omega) (by omega)).trans g0;replace g1:=(k4.2 _ (by omega) (by omega)).trans g1;replace kH1:Keep H.n H H4:=kH1.trans (k4.lower (by omega));clear k4;by_cases e2:a.b=b.b
 case neg=>
  have n1:=sD e2;rw[if_pos e2] at h;simp(disch:=omega) only[ak,↓aj,seval,OH,n1];exact fun hk=>h _ hk
 rw[if_neg (by simp[e2])] at h;rw[sE e2];have r02:=af g0;have r12:=af g1;simp(disch:=omega) only[ak,↓aj,seval,OH,r02,r12];refine IM a.a b.a (by omega) fun H5 k5=>?_;have hn5:=k5.1;replace g0:=(k5.2 _ (by omega) (by omega)).trans g0;replace g1:=(k5.2 _ (by omega) (by omega)).trans g1;replace kH1:Keep H.n H H5:=kH1.trans (k5.lower (by omega));clear k5;by_cases e3:a.a=b.a
 case neg=>
  have n1:=sD e3;rw[if_pos e3] at h;simp(disch:=omega) only[ak,↓aj,seval,OH,n1];exact fun hk=>h _ hk
 rw[if_neg (by simp[e3])] at h;rw[sE e3];have r03:=af g0;have r13:=af g1;simp(disch:=omega) only[ak,↓aj,seval,OH,r03,r13];refine aer a.d b.d (by omega) fun H6 k6=>?_;have hn6:=k6.1;replace g0:=(k6.2 _ (by omega) (by omega)).trans g0;replace g1:=(k6.2 _ (by omega) (by omega)).trans g1;replace kH1:Keep H.n H H6:=kH1.trans (k6.lower (by omega));clear k6;by_cases e4:a.d=b.d
 case neg=>
  have n1:=sD e4;rw[if_pos e4] at h;simp(disch:=omega) only[ak,↓aj,seval,OH,n1];exact fun hk=>h _ hk
 rw[if_neg (by simp[e4])] at h;rw[sE e4];have r04:=af g0;have r14:=af g1;simp(disch:=omega) only[ak,↓aj,seval,OH,r04,r14];refine IM a.r b.r (by omega) fun H9 k9=>?_;simp(disch:=omega) only[ak,↓aj,seval,OH];exact fun hk=>h _ hk
structure Nw where
 v:Int
 deriving Inhabited
instance:Cell Nw where
 z:=1
 cs n:=[.int .i64 n.v]
 len _:=rfl
 one _:=rfl
 pos:=by omega
theorem pH(n:Nw):Cell.cs n=[.int .i64 n.v]:=rfl
theorem qh:Cell.z Nw=1:=rfl
structure Ft where
 y:Int
 rk:Bool
 st:Bool
 fr:Int
 to:Int
 w:List Nw
 deriving Inhabited
def vd(f:Ft)(v:SV):List IV:=[.int .u8 f.y,.bool f.rk,.bool f.st,.int .i64 f.fr,.int .i64 f.to,v.iv]
def GP(b:Ft)(p:Nw):Bool:=decide (b.fr≤p.v)&&decide (p.v≤b.to)
def uY(a b:Ft):Bool:=a.w.any (GP b)
def anC(tm:List IV)(h:tm.length=25):=(ch tm 25 h).trans (by simp only[List.range,List.range.loop,bB,bc];exact rfl)
theorem xv(a b:Ft){v u:SV}{H:Heap}{lo:Nat}{Q:Out→Heap→Prop}(hv:Sl H v a.w)(hl:a.w.length≤1000000)(hlo:lo≤H.n)
  (h:∀H',Keep H.n H H'→Q (.val (.bool (uY a b))) H'):W E0 lo (.call 90 [.agg (vd a v),.agg (vd b u)]) H Q:=by
 refine W.pure bu hlo ?_;rw[c90];simp(disch:=omega) only[ak,↓aj,seval,B90,vd,↓hv.ln];generalize hH_H1:Heap.new _ _=H1;have hnH1:H1.n=H.n+2:=by rw[←hH_H1];rfl
 have g0:=congrArg (fun h0=>Heap.get h0 (H.n)) hH_H1.symm;simp(disch:=omega) only[ak,↓aj,seval] at g0;have g1:=congrArg (fun h0=>Heap.get h0 (H.n+1)) hH_H1.symm;simp(disch:=omega) only[ak,↓aj,seval] at g1
 have kH1:Keep H.n H H1:=⟨by omega,fun x hx _=>by
  have gx:=congrArg (fun h0=>Heap.get h0 x) hH_H1.symm;simp(disch:=omega) only[ak,↓aj,seval] at gx;exact gx⟩
 clear hH_H1;have hv1:=hv.keep kH1;refine aO (fun k fm H'=>∃i:Nat,i+k=a.w.length∧H'=H1∧(a.w.take i).any (GP b)=false∧fm.marks=[]∧fm.tm.length=25∧fm.tm.getD 3 IV.undef=.ptr (H.n+1) 0∧fm.tm.getD 8 IV.undef=v.iv∧fm.tm.getD 9 IV.undef=.int .i64 a.w.length∧fm.tm.getD 10 IV.undef=.int .i64 i) ?_ a.w.length ⟨0,by omega,rfl,rfl,rfl,rfl,rfl,rfl,rfl,rfl⟩;rintro k ⟨tm,mk⟩ H' ⟨i,hik,rfl,ha,rfl,htm,t3,t8,t9,t10⟩ L hN hJ;rw[anC tm htm,t3,t8,t9,t10];have rb:=af g1;by_cases hi:i < a.w.length
 ·have r1:=hv1.read qh i hi
  have hta:(a.w.take (i+1)).any (GP b)=GP b a.w[i]:=by
   rw[fg hi,List.any_append,ha];simp
  by_cases c1:b.fr≤a.w[i].v
  ·by_cases c2:a.w[i].v≤b.to
   ·have ht:uY a b=true:=by
     unfold uY;rw[List.any_eq_true];exact⟨a.w[i],bm hi,by unfold GP;simp[c1,c2]⟩
    rw[ht] at h;simp(disch:=omega) only[ak,↓aj,seval,afE,↓hv1.idx,r1,pH,rb,c1,c2,hJ];exact fun hk=>h _ hk
   ·simp(disch:=omega) only[ak,↓aj,seval,afE,↓hv1.idx,r1,pH,rb,c1,c2]
    exact hN (k - 1) _ _ (by omega) ⟨i+1,by omega,rfl,by rw[hta];unfold GP;simp[c2],rfl,rfl,rfl,rfl,rfl,rfl⟩
  ·simp(disch:=omega) only[ak,↓aj,seval,afE,↓hv1.idx,r1,pH,rb,c1]
   exact hN (k - 1) _ _ (by omega) ⟨i+1,by omega,rfl,by rw[hta];unfold GP;simp[c1],rfl,rfl,rfl,rfl,rfl,rfl⟩
 ·rw[eW (by omega)] at ha;have ht:uY a b=false:=ha;rw[ht] at h;simp(disch:=omega) only[ak,↓aj,seval,afE,hJ];exact fun hk=>h _ hk
def Ib(a b:Ft):Bool:=(a.rk&&!b.st)||(b.rk&&!a.st)
def Ag(a b:Ft):Bool:=decide (a.y=b.y∧a.y≠0)||(a.rk&&b.rk)
def rS(a b:Ft):Bool:=!Ag a b&&!Ib a b&&!uY a b&&!uY b a
theorem Cw(a b:Ft){v u:SV}{H:Heap}{lo:Nat}{Q:Out→Heap→Prop}(hv:Sl H v a.w)(hu:Sl H u b.w)(hl:a.w.length≤1000000)(hl':b.w.length≤1000000)(hlo:lo≤H.n)
  (h:∀H',Keep H.n H H'→Q (.val (.bool (rS a b))) H'):W E0 lo (.call 36 [.agg (vd a v),.agg (vd b u)]) H Q:=by
 refine W.pure bu hlo ?_;rw[c36]
 have fin:∀H1:Heap,Keep H.n H H1→H1.n=H.n+2→H1.get H.n=some (.cells false 94 6 (vd a v))→H1.get (H.n+1)=some (.cells false 94 6 (vd b u))→∀tm:List IV,tm.length=49→tm.getD 2 IV.undef=.ptr H.n 0→tm.getD 3 IV.undef=.ptr (H.n+1) 0→Ag a b=false→Ib a b=false→
   W E0 H.n (.code S9 none ⟨tm,[]⟩) H1 (mM E0 H.n none .ret (li H.n F36.results fun o H'=>Keep H.n H H'→Q o H')):=by
  intro H1 k1 hn1 g0 g1 tm htm t2 t3 s1 s2;have ef:rS a b=(!uY a b&&!uY b a):=by unfold rS;rw[s1,s2];simp
  rw[ef] at h;have r0:=af g0;have r1:=af g1;rw[(ch tm 49 htm).trans rfl];simp only[t2,t3,List.range,List.range.loop,List.map];unfold vd at r0 r1;simp(disch:=omega) only[ak,↓aj,seval,B36,r0,r1];refine xv a b (hv.keep k1) hl (by omega) fun H2 k2=>?_;have hn2:=k2.1;replace g0:=(k2.2 _ (by omega) (by omega)).trans g0;replace g1:=(k2.2 _ (by omega) (by omega)).trans g1;have k12:Keep H.n H H2:=k1.trans (k2.lower (by omega));have r02:=af g0;have r12:=af g1;unfold vd at r02 r12
  cases e1:uY a b with
  | true=>
    rw[e1] at h;simp(disch:=omega) only[ak,↓aj,seval,B36];exact fun hk=>h _ hk
  | false=>
    rw[e1] at h;simp(disch:=omega) only[ak,↓aj,seval,B36,r02,r12];refine xv b a (hu.keep k12) hl' (by omega) fun H3 k3=>?_;have hn3:=k3.1
    cases e2:uY b a with
    | true=>
      rw[e2] at h;simp(disch:=omega) only[ak,↓aj,seval,B36];exact fun hk=>h _ hk
    | false=>
      rw[e2] at h;simp(disch:=omega) only[ak,↓aj,seval,B36];exact fun hk=>h _ hk
 by_cases hy:a.y=b.y∧a.y≠0
 ·have ef:rS a b=false:=by unfold rS Ag;rw[decide_eq_true hy];simp
  rw[ef] at h;have y1:(a.y==b.y)=true:=by simp[hy.1]
  have y2:(a.y !=0)=true:=by simp[hy.2]
  simp(disch:=omega) only[ak,↓aj,seval,FP,FO,FN,FM,FL,Ov,F36,vd,y1,y2]
  exact fun hk=>h _ hk
 have main:∀y1:Bool,(a.y==b.y)=y1→(y1=true→(a.y !=0)=false)→W E0 H.n (.code Ov none ⟨[.agg (vd a v),.agg (vd b u)]++ce (F36.ntmps - [IV.agg (vd a v),IV.agg (vd b u)].length),[]⟩) H (li H.n F36.results fun o H'=>Keep H.n H H'→Q o H'):=by
  intro y1 e1 e2;have es:Ag a b=(a.rk&&b.rk):=by unfold Ag;simp[hy]
  cases ra:a.rk<;>cases rb:b.rk<;>cases sa:a.st<;>cases sb:b.st<;>cases y1
  all_goals
   simp only[forall_const,fY,false_imp_iff,reduceCtorEq] at e2;have fin':=fin;have ef:rS a b=(!Ag a b&&!Ib a b&&!uY a b&&!uY b a):=rfl;rw[es,ra,rb] at ef fin';have e3:Ib a b=((a.rk&&!b.st)||(b.rk&&!a.st)):=rfl;rw[ra,rb,sa,sb] at e3;rw[e3] at ef fin';simp only[Bool.not_true,B1,xN,B3,tB,B2,pQ,xV,Bool.true_or,Bool.false_or] at ef fin';simp(disch:=omega) only[ak,↓aj,seval,FP,FO,FN,FM,FL,Ov,F36,vd,e1,e2,ra,rb,sa,sb]
   first
    | (rw[ef] at h;exact fun hk=>h _ hk)
    | skip
  all_goals
   generalize hH_H1:Heap.new _ _=H1;have hnH1:H1.n=H.n+2:=by rw[←hH_H1];rfl
   have g0:=congrArg (fun h0=>Heap.get h0 (H.n)) hH_H1.symm;simp(disch:=omega) only[ak,↓aj,seval] at g0;have g1:=congrArg (fun h0=>Heap.get h0 (H.n+1)) hH_H1.symm;simp(disch:=omega) only[ak,↓aj,seval] at g1
   have kH1:Keep H.n H H1:=⟨by omega,fun x hx _=>by
    have gx:=congrArg (fun h0=>Heap.get h0 x) hH_H1.symm;simp(disch:=omega) only[ak,↓aj,seval] at gx;exact gx⟩
   clear hH_H1;exact fin' H1 kH1 hnH1 (by rw[g0];simp only[vd,ra,sa]) (by rw[g1];simp only[vd,rb,sb]) _ rfl rfl rfl trivial trivial
 cases y1:a.y==b.y with
 | true=>
   refine main true y1 fun _=>?_
   have:a.y=b.y:=by simpa using y1
   have:a.y=0:=Classical.byContradiction fun h0=>hy ⟨this,h0⟩
   simp[this]
 | false=>exact main false y1 fun h=>by cases h
theorem DK:∀(cs:List IV),aA cs 0 []=cs
 | []=>rfl
 | _::_=>rfl
theorem uc:∀(cs:List IV) (i:Nat) (v:IV),aA cs i [v]=cs.set i v
 | [],_,_=>rfl
 | c::cs,0,v=>by show v::aA cs 0 []=_;rw[DK];rfl
 | c::cs,i+1,v=>by show c::aA cs i [v]=_;rw[uc cs i v];rfl
def NZ(z:Nat)(H:Heap)(b e:Nat):Prop:=∃cs,H.get b=some (.cells false e z cs)∧cs.length=z∧∀i,i < z→∃n:Int,cs[i]? =some (.int .i64 n)
theorem NZ.read{z:Nat}{H:Heap}{b e:Nat}(h:NZ z H b e)(i:Nat)(hi:i < z):∃n:Int,H.read b i 1=some [.int .i64 n]:=by
 obtain⟨cs,hg,hl,hc⟩:=h;obtain⟨n,hn⟩:=hc i hi;refine⟨n,?_⟩;rw[af hg,if_pos (by omega)];obtain⟨h1,h2⟩:=List.getElem?_eq_some_iff.1 hn;rw[pD h1,h2];rfl
theorem NZ.write{z:Nat}{H:Heap}{b e:Nat}(h:NZ z H b e)(i:Nat)(hi:i < z)(n:Int){lo:Nat}(hlo:lo≤b):∃o,H.write lo b i [.int .i64 n]=some (H.put b o)∧NZ z (H.put b o) b e:=by
 obtain⟨cs,hg,hl,hc⟩:=h
 have hw:H.write lo b i [.int .i64 n]=some (H.put b (.cells false e z (aA cs i [.int .i64 n]))):=by
  unfold Heap.write;rw[hg]
  show(if lo≤b∧i+1≤cs.length∧_ then _ else _)=_
  rw[if_pos ⟨hlo,by omega,rfl⟩]
 have hs:aA cs i [.int .i64 n]=cs.set i (.int .i64 n):=uc cs i _;refine⟨_,hw,_,by rw[ae,if_pos rfl],by rw[hs,bQ];exact hl,fun j hj=>?_⟩;rw[hs,List.getElem?_set];by_cases hij:i=j
 ·subst hij;rw[if_pos rfl,if_pos (by omega)];exact⟨n,rfl⟩
 ·rw[if_neg hij];exact hc j hj
theorem NZ.same{z:Nat}{H H':Heap}{b e:Nat}(h:NZ z H b e)(hg:H'.get b=H.get b):NZ z H' b e:=by
 obtain⟨cs,h1,h2⟩:=h;exact⟨cs,hg.trans h1,h2⟩
def FtOk(n0:Nat)(H:Heap)(f:Ft)(v:SV):Prop:=Sl H v f.w∧f.w.length≤3∧(f.w≠[]→n0≤v.blk)
theorem FtOk.nil{n0:Nat}{H:Heap}{f:Ft}(h:f.w=[]):FtOk n0 H f .nil:=⟨by rw[h];exact Sl.empty,by rw[h];simp,fun hn=>absurd h hn⟩
theorem Cv{H:Heap}{b e:Nat}{cs:List Nw}(hg:H.get b=some (.cells false e 1 (aD cs)))(hb:b < H.n):Sl H (.sl b 0 cs.length cs.length true) cs:=(ck hb qh hg rfl).sl true
theorem NL{wb:Nat}{o:Opn}(hk:4≤o.k∧o.k≤8)(hy:o.k≤6→1≤o.y∧o.y≤6){H:Heap}{lo:Nat}{Q:Out→Heap→Prop}(hw:NZ 8 H wb 98)(hwb:wb < H.n)(hlo:lo≤wb)
  (h:∀H' f v,KeepO [wb] H H'→NZ 8 H' wb 98→FtOk H.n H' f v→Q (.val (.agg (vd f v))) H'):W E0 lo (.call 91 [.ptr wb 0,.agg [.int .u8 o.k,.int .u8 o.d,.int .u8 o.b,.int .i64 o.a,.int .u8 o.y,.int .i64 o.r]]) H Q:=by
 rw[c91];obtain⟨rk,hrk⟩:=hw.read 0 (by omega);have rk':∀H':Heap,H'.get wb=H.get wb→H'.read wb 0 1=some [.int .i64 rk]:=fun H' e=>(B0 e 0 1).trans hrk;simp(disch:=omega) only[ak,↓aj,seval,tc,wy,s9,sZ,sY,sX,sW,sV,sU,ou,oq,ol,vk,qi,oj,oi,oh,Fw,F91,aq,↓FR,FW];generalize hH_H1:Heap.new _ _=H1;have hnH1:H1.n=H.n+2:=by rw[←hH_H1];rfl
 have g0:=congrArg (fun h0=>Heap.get h0 (H.n)) hH_H1.symm;simp(disch:=omega) only[ak,↓aj,seval] at g0;have g1:=congrArg (fun h0=>Heap.get h0 (H.n+1)) hH_H1.symm;simp(disch:=omega) only[ak,↓aj,seval] at g1
 have kH1:Keep H.n H H1:=⟨by omega,fun x hx _=>by
  have gx:=congrArg (fun h0=>Heap.get h0 x) hH_H1.symm;simp(disch:=omega) only[ak,↓aj,seval] at gx;exact gx⟩
 clear hH_H1;have r0:=af g0;have rw1:=rk' H1 (kH1.2 wb hwb hwb);simp(disch:=omega) only[ak,↓aj,seval,tc,wz,s9,sZ,sY,sX,sW,sV,sU,ou,oq,ol,vk,qi,oj,oi,oh,Fw,F91,r0,rw1,aq,↓FR,FW];refine oL o.b o.a rk (by omega) fun H2 k2=>?_;have hn2:=k2.1;replace g0:=(k2.2 _ (by omega) (by omega)).trans g0;replace g1:=(k2.2 _ (by omega) (by omega)).trans g1;have kk:Keep H.n H H2:=kH1.trans (k2.lower (by omega));have r02:=af g0;generalize aH o.b o.a rk=sp;clear r0 rw1 kH1 k2 rk' hrk;have hw2:=hw.same (kk.2 wb hwb hwb)
 have hget2:∀(a:IObj) (c:IObj),((H2.new a).put (H.n+1) c).get wb=H2.get wb:=fun a c=>by
  rw[ae,if_neg (by omega),al,if_neg (by omega)]
 have fin:∀(H3:Heap) (c:IObj),Keep H2.n H2 H3→KeepO [wb] H (H3.put (H.n+1) c):=fun H3 c k=>⟨by rw[ai];have:=k.1;omega,fun x hx hx'=>by
  rw[ae,if_neg (by omega)];exact(k.2 x (by omega) (by omega)).trans (kk.2 x hx hx)⟩
 by_cases h7:o.k=7
 ·by_cases hb:o.b=0
  ·simp(disch:=omega) only[ak,↓aj,seval,B91,r02,h7,hb,g1,aq,↓FR,FW]
   generalize hHF:Heap.put _ _ _=HF;have hnF:HF.n=H2.n+1:=by rw[←hHF];rfl
   have gF:=congrArg (fun h0=>Heap.get h0 (H2.n)) hHF.symm;simp(disch:=omega) only[ak,↓aj,seval] at gF;have kF:KeepO [wb] H HF:=by rw[←hHF];exact fin _ _ (Keep.new _ _)
   have wF:HF.get wb=H2.get wb:=by rw[←hHF];exact hget2 _ _
   exact h _ ⟨0,false,false,_,_,[⟨_⟩,⟨_⟩,⟨_⟩]⟩ (.sl H2.n 0 3 3 true) kF (hw2.same wF) ⟨Cv (H:=HF) (b:=H2.n) (cs:=[⟨_⟩,⟨_⟩,⟨_⟩]) gF (by omega),by simp,fun _=>by show H.n≤H2.n;omega⟩
  ·simp(disch:=omega) only[ak,↓aj,seval,B91,r02,h7,hb,g1,aq,↓FR,FW]
   generalize hHF:Heap.put _ _ _=HF;have hnF:HF.n=H2.n+1:=by rw[←hHF];rfl
   have gF:=congrArg (fun h0=>Heap.get h0 (H2.n)) hHF.symm;simp(disch:=omega) only[ak,↓aj,seval] at gF;have kF:KeepO [wb] H HF:=by rw[←hHF];exact fin _ _ (Keep.new _ _)
   have wF:HF.get wb=H2.get wb:=by rw[←hHF];exact hget2 _ _
   exact h _ ⟨0,false,false,_,_,[⟨_⟩,⟨_⟩,⟨_⟩]⟩ (.sl H2.n 0 3 3 true) kF (hw2.same wF) ⟨Cv (H:=HF) (b:=H2.n) (cs:=[⟨_⟩,⟨_⟩,⟨_⟩]) gF (by omega),by simp,fun _=>by show H.n≤H2.n;omega⟩
 ·by_cases h8:o.k=8
  ·simp(disch:=omega) only[ak,↓aj,seval,B91,r02,h8,g1,aq,↓FR,FW]
   generalize hHF:Heap.put _ _ _=HF;have hnF:HF.n=H2.n+1:=by rw[←hHF];rfl
   have gF:=congrArg (fun h0=>Heap.get h0 (H2.n)) hHF.symm;simp(disch:=omega) only[ak,↓aj,seval] at gF;have kF:KeepO [wb] H HF:=by rw[←hHF];exact fin _ _ (Keep.new _ _)
   have wF:HF.get wb=H2.get wb:=by rw[←hHF];exact hget2 _ _
   exact h _ ⟨0,false,false,_,_,[⟨_⟩]⟩ (.sl H2.n 0 1 1 true) kF (hw2.same wF) ⟨Cv (H:=HF) (b:=H2.n) (cs:=[⟨_⟩]) gF (by omega),by simp,fun _=>by show H.n≤H2.n;omega⟩
  ·obtain⟨y1,y2⟩:=hy (by omega);obtain⟨j,hj,hjy⟩:∃j:Nat,j < 7∧o.y=(j:Int):=⟨o.y.toNat,by omega,by omega⟩;rw[hjy] at r02 g0;obtain⟨pl,hpl⟩:=hw2.read (1+j*1) (by omega)
   have key:∀(bh:Int) (tm:List IV),tm.length=82→tm.getD 0 IV.undef=.ptr wb 0→tm.getD 3 IV.undef=.ptr H.n 0→tm.getD 4 IV.undef=.ptr (H.n+1) 0→tm.getD 5 IV.undef=.int .i64 sp→tm.getD 7 IV.undef=.int .i64 pl→tm.getD 8 IV.undef=.int .i64 bh→W E0 lo (.code Ht none ⟨tm,[]⟩) H2 (mM E0 lo none (.seq Hr (.seq (.seq Hq (.cond (.tmp 77) Hp .skip)) (.seq Ho .ret))) (li lo F91.results Q)):=by
    intro bh tm htm t0 t3 t4 t5 t7 t8;obtain⟨ob,hwr,hbw⟩:=hw2.write (1+j*1) (by omega) bh (lo:=lo) (by omega);rw[pX tm htm,t0,t3,t4,t5,t7,t8];simp(disch:=omega) only[BAY,↓aj,seval,tc,wz,wy,s9,sZ,sY,sX,sW,sV,sU,ou,oq,ol,vk,oj,oi,oh,Fw,F91,r02,hwr,aq,↓FR,FW];generalize hHX:H2.put wb ob=HX at hbw⊢;have hnX:HX.n=H2.n:=by rw[←hHX,ai]
    have kX:∀x,x≠wb→HX.get x=H2.get x:=fun x hx=>by rw[←hHX,ae,if_neg (Ne.symm hx)]
    have g0X:=(kX H.n (by omega)).trans g0;have g1X:=(kX (H.n+1) (by omega)).trans g1;have rX:=af g0X
    have fin2:∀HF:Heap,(∀x,x < H2.n→x≠H.n+1→HF.get x=HX.get x)→HX.n≤HF.n→KeepO [wb] H HF:=fun HF kF hF=>⟨by omega,fun x h1 h2=>by
     simp at h2
     rw[kF x (by omega) (by omega),kX x h2];exact kk.2 x h1 h1⟩
    by_cases h6:o.k=6
    ·simp(disch:=omega) only[ak,↓aj,seval,B91,rX,g1X,h6,aq,↓FR,FW]
     generalize hHF:Heap.put _ _ _=HF;have hnF:HF.n=HX.n+1:=by rw[←hHF];rfl
     have kF:∀x,x < H2.n→x≠H.n+1→HF.get x=HX.get x:=fun x h1 h2=>by
      rw[←hHF,ae,if_neg (by omega),ae,if_neg (by omega),al,if_neg (by omega)]
     exact h _ ⟨j,false,false,_,_,[]⟩ .nil (fin2 HF kF (by omega)) (hbw.same (kF _ (by omega) (by omega))) (FtOk.nil rfl)
    ·simp(disch:=omega) only[ak,↓aj,seval,B91,rX,g1X,h6,aq,↓FR,FW]
     generalize hHF:Heap.put _ _ _=HF;have hnF:HF.n=HX.n+2:=by rw[←hHF];rfl
     have kF:∀x,x < H2.n→x≠H.n+1→HF.get x=HX.get x:=fun x h1 h2=>by
      rw[←hHF,ae,if_neg (by omega),ae,if_neg (by omega),al,ai,ac,if_neg (by omega),ae,if_neg (by omega),al,if_neg (by omega)]
     have gF:=congrArg (fun h0=>Heap.get h0 (HX.n+1)) hHF.symm;simp(disch:=omega) only[ak,↓aj,seval] at gF;exact h _ ⟨j,false,false,_,_,[⟨_⟩]⟩ (.sl (HX.n+1) 0 1 1 true) (fin2 HF kF (by omega)) (hbw.same (kF _ (by omega) (by omega))) ⟨Cv (H:=HF) (b:=HX.n+1) (cs:=[⟨sp⟩]) gF (by omega),by simp,fun _=>by show H.n≤HX.n+1;omega⟩
   by_cases hd:o.d=1
   ·simp(disch:=omega) only[ak,↓aj,seval,tc,wz,wy,s9,sZ,sY,sX,sW,sV,sU,ou,oq,ol,qi,oj,oi,oh,Fw,F91,r02,h7,h8,hd,hjy,hpl,aq,↓FR,FW]
    exact key _ _ rfl rfl rfl rfl rfl rfl rfl
   ·simp(disch:=omega) only[ak,↓aj,seval,tc,wz,wy,s9,sZ,sY,sX,sW,sV,sU,ou,oq,ol,qi,oj,oi,oh,Fw,F91,r02,h7,h8,hd,hjy,hpl,aq,↓FR,FW]
    exact key _ _ rfl rfl rfl rfl rfl rfl rfl
theorem QC{ow:List Nat}{H HX:Heap}(k:KeepO ow H HX){x:Nat}(c:IObj)(hx:H.n≤x):KeepO ow H (HX.put x c):=⟨k.1,fun y h1 h2=>by rw[ae,if_neg (by omega)];exact k.2 y h1 h2⟩
theorem Pg{wb:Nat}{o:Opn}(ho:Qf o=0){H:Heap}{lo:Nat}{Q:Out→Heap→Prop}(hw:NZ 8 H wb 98)(hwb:wb < H.n)(hlo:lo≤wb)
  (h:∀H' f v,KeepO [wb] H H'→NZ 8 H' wb 98→FtOk H.n H' f v→Q (.val (.agg (vd f v))) H'):W E0 lo (.call 37 [.ptr wb 0,.agg [.int .u8 o.k,.int .u8 o.d,.int .u8 o.b,.int .i64 o.a,.int .u8 o.y,.int .i64 o.r]]) H Q:=by
 rw[c37];obtain⟨q1,q2,q3,q4,q5,q6,q7,q8⟩:=Gv ho;simp(disch:=omega) only[ak,↓aj,seval,wI,wH,wG,Bf,wE,Be,wD,wC,wB,ql,qk,vl,qj,Hz,F37,aq,↓FR,FW];generalize hH_H1:Heap.new _ _=H1;have hnH1:H1.n=H.n+2:=by rw[←hH_H1];rfl
 have g0:=congrArg (fun h0=>Heap.get h0 (H.n)) hH_H1.symm;simp(disch:=omega) only[ak,↓aj,seval] at g0;have g1:=congrArg (fun h0=>Heap.get h0 (H.n+1)) hH_H1.symm;simp(disch:=omega) only[ak,↓aj,seval] at g1
 have kH1:Keep H.n H H1:=⟨by omega,fun x hx _=>by
  have gx:=congrArg (fun h0=>Heap.get h0 x) hH_H1.symm;simp(disch:=omega) only[ak,↓aj,seval] at gx;exact gx⟩
 clear hH_H1;have r0:=af g0;have hw1:=hw.same (kH1.2 wb hwb hwb);have kW:∀ob,KeepO [wb] H (H1.put wb ob):=fun ob=>(KeepO.of kH1).trans (KeepO.put (by simp)) fun x hx=>.inl hx;by_cases h1:o.k=1
 ·obtain⟨hd,y1,y2⟩:=q5 h1;obtain⟨j,hj,hjy⟩:∃j:Nat,j < 7∧o.y=(j:Int):=⟨o.y.toNat,by omega,by omega⟩;rw[hjy] at g0;have r0:=af g0;obtain⟨ob,hwr,hbw⟩:=hw1.write (1+j*1) (by omega) (-13) (lo:=lo) (by omega);simp(disch:=omega) only[BAY,↓aj,seval,wI,Bg,wH,wG,wE,Be,wD,wC,wB,ql,qk,vl,qj,Hz,F37,r0,h1,hjy,hwr,aq,↓FR,FW];have kX:=kW ob;have hgx:∀x,x≠wb→(H1.put wb ob).get x=H1.get x:=fun x hx=>by rw[ae,if_neg (Ne.symm hx)]
  have hnX:(H1.put wb ob).n=H1.n:=ai _ _ _;generalize H1.put wb ob=HX at kX hgx hnX hbw⊢;have g0X:=(hgx H.n (by omega)).trans g0;have g1X:=(hgx (H.n+1) (by omega)).trans g1;have rX:=af g0X;by_cases hd1:o.d=1
  ·obtain⟨ob2,hwr2,hbw2⟩:=hbw.write (1+j*1) (by omega) 179 (lo:=lo) (by omega);simp(disch:=omega) only[BAY,↓aj,seval,wI,Bg,wH,wG,Bf,wE,wD,wC,wB,ql,qk,vl,qj,Hz,F37,rX,hd1,hwr2,aq,↓FR,FW];have hgy:∀x,x≠wb→(HX.put wb ob2).get x=HX.get x:=fun x hx=>by rw[ae,if_neg (Ne.symm hx)]
   have g0Y:=(hgy H.n (by omega)).trans g0X;have g1Y:=(hgy (H.n+1) (by omega)).trans g1X;have kY:KeepO [wb] H (HX.put wb ob2):=kX.trans (KeepO.put (by simp)) fun x hx=>.inl hx;have hnY:(HX.put wb ob2).n=HX.n:=ai _ _ _;generalize HX.put wb ob2=HY at g0Y g1Y hgy kY hnY hbw2⊢;have rY:=af g0Y;simp(disch:=omega) only[ak,↓aj,seval,B37,rY,g1Y,aq,↓FR,FW];exact h _ ⟨_,_,_,_,_,[]⟩ .nil (QC kY _ (by omega)) (hbw2.same (by rw[ae,if_neg (by omega)])) (FtOk.nil rfl)
  ·simp(disch:=omega) only[ak,↓aj,seval,B37,rX,hd1,g1X,aq,↓FR,FW]
   exact h _ ⟨_,_,_,_,_,[]⟩ .nil (QC kX _ (by omega)) (hbw.same (by rw[ae,if_neg (by omega)])) (FtOk.nil rfl)
 ·by_cases h2:o.k=2
  ·obtain⟨y1,y2⟩:=q6 h2;obtain⟨j,hj,hjy⟩:∃j:Nat,j < 7∧o.y=(j:Int):=⟨o.y.toNat,by omega,by omega⟩;rw[hjy] at g0;have r0:=af g0;obtain⟨pl,hpl⟩:=hw1.read (1+j*1) (by omega);simp(disch:=omega) only[ak,↓aj,seval,B37,r0,g1,h2,hjy,hpl,aq,↓FR,FW];exact h _ ⟨_,_,_,_,_,[]⟩ .nil (QC (KeepO.of kH1) _ (by omega)) (hw1.same (by rw[ae,if_neg (by omega)])) (FtOk.nil rfl)
  ·by_cases h3:o.k=3
   ·obtain⟨ob,hwr,hbw⟩:=hw1.write 0 (by omega) o.r (lo:=lo) (by omega);simp(disch:=omega) only[BAY,↓aj,seval,wI,Bg,wH,wG,Bf,wE,Be,wD,wC,wB,ql,qk,qj,Hz,F37,r0,h3,hwr,aq,↓FR,FW];have kX:=kW ob;have hgx:∀x,x≠wb→(H1.put wb ob).get x=H1.get x:=fun x hx=>by rw[ae,if_neg (Ne.symm hx)]
    have hnX:(H1.put wb ob).n=H1.n:=ai _ _ _;generalize H1.put wb ob=HX at kX hgx hnX hbw⊢;have g1X:=(hgx (H.n+1) (by omega)).trans g1;simp(disch:=omega) only[ak,↓aj,seval,B37,g1X,aq,↓FR,FW];exact h _ ⟨_,_,_,_,_,[]⟩ .nil (QC kX _ (by omega)) (hbw.same (by rw[ae,if_neg (by omega)])) (FtOk.nil rfl)
   ·simp(disch:=omega) only[ak,↓aj,seval,B37,r0,h1,h2,h3,aq,↓FR,FW]
    refine NL (by omega) (fun hk=>(q7 (by omega)).2.2) hw1 (by omega) hlo fun H2 f v k2 w2 f2=>?_;have hn2:=k2.1;have g12:=(k2.2 (H.n+1) (by omega) (by simp;omega)).trans g1;simp(disch:=omega) only[ak,↓aj,seval,B37,g12,vd,jx,aq,↓FR,FW];refine h _ f v (QC ((KeepO.of kH1).trans k2 fun x hx=>.inl hx) _ (by omega)) (w2.same (by rw[ae,if_neg (by omega)])) ⟨?_,f2.2.1,fun hne=>by have:=f2.2.2 hne;omega⟩;have hf2:=f2.2.2;exact f2.1.same (by rw[ai];omega) fun hne=>by rw[ae,if_neg (by have:=hf2 hne;omega)]
structure Fc where
 f:Ft
 v:SV
 deriving Inhabited
instance:Cell Fc where
 z:=6
 cs x:=vd x.f x.v
 len _:=rfl
 one x:=by simp[vd,List.all,rI,oV,jx]
 pos:=by omega
theorem II(x:Fc):Cell.cs x=vd x.f x.v:=rfl
theorem Du:Cell.z Fc=6:=rfl
structure FeetOk(n0 n1:Nat)(H:Heap)(b n:Nat)(fs:List Fc):Prop where
 own:Own H b 94 n fs
 len:fs.length=n
 le:n1≤H.n
 ok:∀x∈fs,Sl H x.v x.f.w∧x.f.w.length≤3∧(x.f.w≠[]→n0≤x.v.blk∧x.v.blk < n1)
theorem FeetOk.same{n0 n1:Nat}{H H':Heap}{b n:Nat}{fs:List Fc}(h:FeetOk n0 n1 H b n fs)(hn:H.n≤H'.n)(hg:∀x,x=b∨(n0≤x∧x < n1)→H'.get x=H.get x):FeetOk n0 n1 H' b n fs:=
 ⟨h.own.same hn (hg b (.inl rfl)),h.len,by have:=h.le;omega,fun x hx=>⟨(h.ok x hx).1.same hn fun hne=>hg _ (.inr ((h.ok x hx).2.2 hne)),(h.ok x hx).2⟩⟩
theorem FeetOk.keep{n0 n1:Nat}{H H':Heap}{b n:Nat}{fs:List Fc}(h:FeetOk n0 n1 H b n fs)(k:Keep H.n H H'):FeetOk n0 n1 H' b n fs:=
 h.same k.1 fun x hx=>k.2 x (by have:=h.own.2.1;have:=h.le;omega) (by have:=h.own.2.1;have:=h.le;omega)
theorem CA{v:SV}{l:List Opn}{H:Heap}(ht:Tabs tabs H)(hv:Sl H v l)(hl:l.length≤100){lo:Nat}{Q:Out→Heap→Prop}(hlo:lo≤H.n)
  (hq:∀H' (u:SV),Keep H.n H H'→(cu l≠0→u=.nil)→(cu l=0→∃b n0 fs,u=.sl b 0 l.length l.length true∧H.n≤b∧b < n0∧FeetOk n0 H'.n H' b l.length fs)→Q (.val (.tuple [u.iv,.int .i64 (cu l)])) H'):
  W E0 lo (.call 13 [v.iv]) H Q:=by
 refine W.pure bu hlo ?_;rw[c13];simp(disch:=omega) only[ak,↓aj,seval,B13,↓FR,FW];refine DH (by omega) fun H2 k2 hn2 gy gt0=>?_;simp(disch:=omega) only[ak,↓aj,seval,B13,↓FR,FW];refine PQ (ht.keep' k2) gy gt0 (by omega) (by omega) (hv.keep k2) (by omega) (by omega) fun H3 cs k3 hcs hone=>?_;have hn3:=k3.1;have hv3:=(hv.keep k2).keep k3;have kk3:Keep H.n H H3:=k2.trans (k3.lower (by omega));by_cases he:cu l=0
 ·simp(disch:=omega) only[ak,↓aj,seval,B13,he,hcs,hone,↓hv3.ln,aq,↓FR,FW]
  generalize hP:Heap.new (Heap.put (Heap.new H3 _) _ _) _=P;have hnP:P.n=H3.n+2:=by rw[←hP];rfl
  have kP:Keep H3.n H3 P:=by rw[←hP];exact Keep.newPut.trans (Keep.new _ _)
  have gw:=congrArg (fun h0=>Heap.get h0 (H3.n+1)) hP.symm;simp(disch:=omega) only[ak,↓aj,seval] at gw
  have hwz:NZ 8 P (H3.n+1) 98:=⟨_,gw,rfl,fun i hi=>by
   rcases(by omega:i=0∨i=1∨i=2∨i=3∨i=4∨i=5∨i=6∨i=7) with h | h | h | h | h | h | h | h<;>(subst h;exact⟨_,rfl⟩)⟩
  clear hP gw;have hO:=Own.mksl (H:=P) (e:=94) (n:=l.length) Du (⟨⟨0,false,false,0,0,[]⟩,.nil⟩:Fc);have kS:=Keep.new (lo:=P.n) P (.cells false 94 6 (iP l.length (Cell.cs (⟨⟨0,false,false,0,0,[]⟩,.nil⟩:Fc))));have hnS:=ac P (.cells false 94 6 (iP l.length (Cell.cs (⟨⟨0,false,false,0,0,[]⟩,.nil⟩:Fc))));rw[show([IV.int IntKind.u8 0,IV.bool false,IV.bool false,IV.int IntKind.i64 0,IV.int IntKind.i64 0,IV.nilSlice]:List IV)=Cell.cs (⟨⟨0,false,false,0,0,[]⟩,.nil⟩:Fc) from rfl];generalize P.new _=Hs at hO kS hnS⊢;have hws:=hwz.same (kS.2 (H3.n+1) (by omega) (by omega));have kks:Keep H.n H Hs:=kk3.trans ((kP.lower (by omega)).trans (kS.lower (by omega)));have hvs:=hv.keep kks;obtain⟨wb,hwb⟩:∃wb,wb=H3.n+1:=⟨_,rfl⟩;obtain⟨b,hb⟩:∃b,b=P.n:=⟨_,rfl⟩;rw[show H3.n+2=b by omega,←hwb];rw[←hwb] at hws;rw[←hb] at hO
  have hF:FeetOk Hs.n Hs.n Hs b l.length (List.replicate l.length ⟨⟨0,false,false,0,0,[]⟩,.nil⟩):=⟨hO,jh,au _,fun x hx=>by
   rw[Gl hx];exact⟨Sl.empty,by simp,fun h=>absurd rfl h⟩⟩
  have hall:=Ng he;clear hO hcs hone kS kP hwz kk3 k2 k3 hv3 gy gt0
  refine aO (fun k fr H'=>∃(i:Nat) (fs:List Fc),i+k=l.length∧NZ 8 H' wb 98∧FeetOk Hs.n H'.n H' b l.length fs∧KeepO [wb,b] Hs H'∧fr.marks=[]∧fr.tm.length=38∧fr.tm.getD 7 IV.undef=.ptr wb 0∧fr.tm.getD 8 IV.undef=.slice b 0 l.length l.length true∧fr.tm.getD 24 IV.undef=v.iv∧fr.tm.getD 25 IV.undef=.int .i64 l.length∧fr.tm.getD 26 IV.undef=.int .i64 i) ?_ l.length
   ⟨0,_,by omega,hws,hF,KeepO.refl _ _,rfl,rfl,rfl,rfl,rfl,rfl,rfl⟩
  rintro k ⟨tm,mk⟩ H' ⟨i,fs,hik,hw',hf,hk,rfl,htm,t7,t8,t24,t25,t26⟩ L1 hN hJ;have hn':=hk.1;have hv':Sl H' v l:=hvs.same hn' fun hne=>hk.2 _ (by have:=hv.blk_lt hne;omega) (by have:=hv.blk_lt hne;simp;omega);rw[Q8 tm htm,t7,t8,t24,t25,t26];by_cases hi:i < l.length
  ·have r1:=hv'.read jf i hi;have ho:=hall _ (bm hi);generalize hoo:l[i]=oo at r1 ho;rw[nN] at r1;have hidx:=hv'.idx;simp(disch:=omega) only[ak,↓aj,seval,ao0,↓hidx,r1,aq,↓FR,FW];have kN:Keep H'.n H' ((H'.new (.cells false 56 6 [.int .u8 0,.int .u8 0,.int .u8 0,.int .i64 0,.int .u8 0,.int .i64 0])).put H'.n (.cells false 56 6 [.int .u8 oo.k,.int .u8 oo.d,.int .u8 oo.b,.int .i64 oo.a,.int .u8 oo.y,.int .i64 oo.r])):=Keep.newPut;refine Pg ho (hw'.same (kN.2 wb (by omega) (by omega))) (by rw[ai,ac];omega) (by omega) fun H5 f u k5 w5 f5=>?_;have hn5:=k5.1;rw[ai,ac] at hn5;have old:∀x,x < H'.n→x≠wb→H5.get x=H'.get x:=fun x h1 h2=>(k5.2 x (by rw[ai,ac];omega) (by simpa using h2)).trans (kN.2 x h1 h1);have hle:=hf.le;have hfl:=hf.len;have hf5:=hf.same (by omega:H'.n≤H5.n) fun x hx=>old x (by omega) (by omega);have hix:i < fs.length:=by omega
   obtain⟨cs,hwr,hown⟩:=hf5.own.set Du i hix ⟨f,u⟩ H.n (by omega);have hidF:=(hf5.own.sl true).idx;rw[hfl] at hidF;rw[II] at hwr;unfold vd at hwr;simp(disch:=omega) only[BAY,↓aj,seval,ao0,↓hidF,hwr,vd,aq,↓FR,FW];refine hN (k - 1) _ _ (by omega) ⟨i+1,fs.set i ⟨f,u⟩,by omega,w5.same (by rw[ae,if_neg (by omega)]),⟨hown,by rw[bQ];exact hfl,by rw[ai];exact au _,fun x hx=>?_⟩,?_,rfl,rfl,rfl,rfl,rfl,rfl,rfl⟩
   ·rcases mX hx with hx | rfl
    ·obtain⟨a1,a2,a3⟩:=hf5.ok x hx;exact⟨a1.same (by rw[ai];exact au _) fun hne=>by rw[ae,if_neg (by have:=a3 hne;omega)],a2,fun hne=>by have:=a3 hne;rw[ai];omega⟩
    ·obtain⟨a1,a2,a3⟩:=f5;rw[ai,ac] at a3;exact⟨a1.same (by rw[ai];exact au _) fun hne=>by rw[ae,if_neg (by have:=a3 hne;omega)],a2,fun hne=>by have:=a3 hne;have:=a1.blk_lt hne;rw[ai];show Hs.n≤u.blk∧u.blk < H5.n;omega⟩
   ·exact⟨by rw[ai];omega,fun x h1 h2=>by
     simp at h2
     rw[ae,if_neg (Ne.symm h2.2),old x (by omega) h2.1];exact hk.2 x h1 (by simp;exact h2)⟩
  ·simp(disch:=omega) only[ak,↓aj,seval,ao0,hJ,↓FR,FW]
   intro hkk;have e0:IV.int .i64 0=IV.int .i64 (cu l):=by rw[he]
   rw[e0];exact hq _ (.sl b 0 l.length l.length true) hkk (fun hne=>absurd he hne) fun _=>⟨b,Hs.n,fs,rfl,by omega,by omega,hf⟩
 ·simp(disch:=omega) only[ak,↓aj,seval,B13,he,hcs,hone,aq,↓FR,FW]
  exact fun hk=>hq _ .nil hk (fun _=>rfl) fun h=>absurd h he
end Go.Iso.Gen
end
namespace Go.Iso
theorem yO{α:Type}[Cell α]{H:Heap}{b e cap:Nat}{l:List α}(h:Own H b e cap l){z:Nat}(hz:Cell.z α=z):zM H b z=true:=by
 subst hz;obtain⟨h1,h2,r,h3,h4⟩:=h;unfold zM;rw[h3];simp
theorem afY{k n:Nat}(h:k≤n):bD n (.int .i64 (k:Int))=some k:=by
 show(if 0≤(k:Int)∧(k:Int)≤(n:Int) then some (k:Int).toNat else none)=_
 rw[if_pos (by omega)];simp
theorem anQ{len top a:Nat}(h:a≤top):aP len top false true false [.int .i64 (a:Int)]=some (0,a,none):=by
 simp only[aP,afY h,cx]
theorem RC{len top a:Nat}(h:a≤len):aP len top true false false [.int .i64 (a:Int)]=some (a,len,none):=by
 simp only[aP,afY h,cx]
theorem amH{α:Type}[Cell α]{H:Heap}{b e cap:Nat}{l:List α}(ho:Own H b e cap l){z:Nat}(hz:Cell.z α=z)(n a:Nat)(ex:Bool)(ha:a≤n)(hn:n≤cap)(lo:Nat):
  ev1 (.slc z false true false) [.slice b 0 n cap ex,.int .i64 (a:Int)] lo H=some (.slice b 0 a cap ex,H):=by
 have e1:=yO ho hz;simp only[ev1,e1,pQ,if_true,aP,bD];rw[if_pos (by omega)];simp
theorem amF{α:Type}[Cell α]{H:Heap}{b e cap:Nat}{l:List α}(ho:Own H b e cap l){z:Nat}(hz:Cell.z α=z)(n a:Nat)(ex:Bool)(ha:a≤n)(hn:n≤cap)(lo:Nat):
  ev1 (.slc z true false false) [.slice b 0 n cap ex,.int .i64 (a:Int)] lo H=some (.slice b (a*z) (n - a) (cap - a) ex,H):=by
 have e1:=yO ho hz;simp only[ev1,e1,pQ,if_true,aP,bD];rw[if_pos (by omega)];simp
theorem amG{α:Type}[Cell α]{H:Heap}{b e cap:Nat}{l:List α}(ho:Own H b e cap l){z:Nat}(hz:Cell.z α=z)(n a c:Nat)(ex:Bool)(ha:a≤c)(hc:c≤cap)(hn:n≤cap)(lo:Nat):
  ev1 (.slc z true true false) [.slice b 0 n cap ex,.int .i64 (a:Int),.int .i64 (c:Int)] lo H=some (.slice b (a*z) (c - a) (cap - a) ex,H):=by
 have e1:=yO ho hz;simp only[ev1,e1,pQ,if_true,aP,bD];rw[if_pos (by omega)];simp;omega
theorem adi{α:Type}[Cell α]{H:Heap}{b e cap:Nat}{l:List α}(ho:Own H b e cap l){z:Nat}(hz:Cell.z α=z)(n a c m:Nat)(ex:Bool)(ha:a≤c)(hc:c≤m)(hm:m≤cap)(hn:n≤cap)(lo:Nat):
  ev1 (.slc z true true true) [.slice b 0 n cap ex,.int .i64 (a:Int),.int .i64 (c:Int),.int .i64 (m:Int)] lo H=some (.slice b (a*z) (c - a) (m - a) true,H):=by
 have e1:=yO ho hz
 have b1:∀{k n:Nat},k≤n→bD n (.int .i64 (k:Int))=some k:=fun{k n} h=>by
  show(if 0≤(k:Int)∧(k:Int)≤(n:Int) then some (k:Int).toNat else none)=_
  rw[if_pos (by omega)];simp
 simp only[ev1,e1,pQ,if_true,aP,b1 hm,b1 hc,b1 ha,br,cx,bL]
theorem ND{α:Type}[Cell α]{H:Heap}{b e cap:Nat}{l:List α}(ho:Own H b e cap l){z:Nat}(hz:Cell.z α=z){zs:List IV}(hzs:zs.length=z)(hone:zs.all IV.one=true)(n c:Nat)(ex:Bool)(hn:l.length+n≤cap)(lo:Nat)(hlo:lo≤b):
  ∃H2,ev1 (.clear zs) [.slice b (l.length*z) n c ex] lo H=some (.tuple [],H2)∧H2.n=H.n∧(∀b',b'≠b→H2.get b'=H.get b')∧Own H2 b e cap l:=by
 subst hz;obtain⟨h1,h2,r,h3,h4⟩:=ho;have hfl:=aw l;by_cases h0:n=0
 ·subst h0;exact⟨H,rfl,rfl,fun _ _=>rfl,h1,h2,r,h3,h4⟩
 have hrl:(iP n zs).length=n*Cell.z α:=by
  have:∀k,(iP k zs).length=k*Cell.z α:=by
   intro k
   induction k with
   | zero=>simp[iP]
   | succ k ih=>rw[iP,aW,ih,hzs,dB,Nat.add_comm]
  exact this n
 have hro:(iP n zs).all IV.one=true:=by
  have:∀k,(iP k zs).all IV.one=true:=by
   intro k
   induction k with
   | zero=>rfl
   | succ k ih=>rw[iP,List.all_append,hone,ih];rfl
  exact this n
 have hle:n*Cell.z α≤r.length:=by rw[h4];exact j4 _ (by omega)
 simp only[ev1];rw[if_neg h0];unfold Heap.write;rw[h3];simp only;rw[if_pos ⟨hlo,by rw[aW];omega,hro⟩];refine⟨_,rfl,rfl,fun b' hb=>by rw[ae,if_neg (Ne.symm hb)],h1,h2,iP n zs++r.drop (n*Cell.z α),?_,by rw[aW,iV,hrl,h4];omega⟩;rw[ae,if_pos rfl,bX _ _ _ (by rw[aW];omega),hrl];rw[D4 (by omega),eW (by omega),List.drop_append,D2 (by omega)];simp only[ru,cj,hfl];rw[Nat.add_sub_cancel_left]
theorem Qb{α:Type}[Cell α]{H:Heap}{b e cap:Nat}{l:List α}(ho:Own H b e cap l)(i:Nat):Own H b e cap (l.take i):=by
 obtain⟨h1,h2,r,h3,h4⟩:=ho;refine⟨by rw[eR];omega,h2,aD (l.drop i)++r,?_,?_⟩
 ·rw[←cj,←cy,rA];exact h3
 ·rw[aW,aw,iV,eR,h4,←rp];congr 1;omega
end Go.Iso
section
namespace Go.Iso.Gen
open Go.Iso
theorem aek{b cap:Nat}{ex:Bool}{l:List Nw}{H:Heap}{lo:Nat}{Q:Out→Heap→Prop}(ho:Own H b 3 cap l)(i j:Nat)(hij:i < j)(hj:j≤l.length)(hl:l.length≤1000000)(hlo:lo≤b)
  (h:∀H',H'.n=H.n→(∀x,x≠b→H'.get x=H.get x)→Own H' b 3 cap (l.take i++l.drop j)→Q (.val (.slice b 0 (l.take i++l.drop j).length cap ex)) H'):W E0 lo (.call 40 [.slice b 0 l.length cap ex,.int .i64 i,.int .i64 j]) H Q:=by
 rw[c40];have hcap:=ho.1;have s1:=adi ho (z:=1) rfl l.length i j l.length ex (by omega) hj hcap hcap lo;have s2:=amH ho (z:=1) rfl l.length i ex (by omega) hcap lo;have s3:=amF ho (z:=1) rfl l.length j ex hj hcap lo;have hlt:(l.take i).length=i:=by rw[eR];omega
 have hld:(l.drop j).length=l.length - j:=iV
 have hv:Sl H (.sl b (j*1) (l.length - j) (cap - j) ex) (l.drop j):=by
  have:=(ho.sl ex).part (z:=1) rfl (a:=j) (m:=l.length - j) (c':=cap - j) (ex':=ex) (by omega) (by omega)
  rw[bL,eW (by omega)] at this;exact this
 obtain⟨H2,e1,hn2,k2,o2⟩:=ge (ex:=ex) (Qb ho i) hv (z:=1) rfl 8 lo (by omega) hlo;have hla:(l.take i++l.drop j).length=i+(l.length - j):=by rw[aW,hlt,hld]
 rw[hlt,hld] at e1;have s4:=amG o2 (z:=1) rfl (i+(l.length - j)) (i+(l.length - j)) l.length ex (by omega) hcap (by omega) lo;obtain⟨H3,e2,hn3,k3,o3⟩:=ND o2 (z:=1) rfl (zs:=[.int .i64 0]) rfl rfl (l.length - (i+(l.length - j))) (cap - (i+(l.length - j))) ex (by omega) lo hlo;rw[hla] at e2;have hne:¬((i:Nat):Int)=(j:Int):=by omega
 simp only[jS] at e1;have ez:(ex||zM H b 1)=true:=by rw[yO ho (z:=1) rfl,pQ]
 have b1:=anQ (len:=l.length) (top:=cap) (a:=i) (by omega);have b2:=RC (len:=l.length) (top:=cap) (a:=j) (by omega);simp(disch:=omega) only[ak,↓aj,seval,B40,↓s1,↓s4,↓e1,↓e2,ez,b1,b2,hne,tA,↓FR,FW];rw[←hla];exact h H3 (hn3.trans hn2) (fun x hx=>(k3 x hx).trans (k2 x hx)) o3
structure WtOk(n:Nat)(H:Heap)(ab b0 b1 cap:Nat)(ks ws:List Nw):Prop where
 get:∃e:Nat,H.get ab=some (.cells false e 2 [.slice b0 0 ks.length cap true,.slice b1 0 n n true])
 left:Own H b0 3 cap ks
 oth:Own H b1 3 n ws
 len:ws.length=n
 lt:∀x∈ks,∃k:Nat,x.v=k∧k < n
theorem gU{α:Type}[Cell α]{H:Heap}{b e cap:Nat}{l:List α}(ho:Own H b e cap l){z:Nat}(hz:Cell.z α=z)(i:Nat)(hi:i < l.length):H.read b (i*z) z=some (Cell.cs l[i]):=by
 have h:=(ho.sl true).read hz i hi;simp only[iM,lH,bL] at h;exact h
def anw(tm:List IV)(h:tm.length=43):=(ch tm 43 h).trans (by simp only[List.range,List.range.loop,bB,bc];exact rfl)
theorem AW{n ab b0 b1 cap lb e:Nat}{ks ws:List Nw}{v:SV}{l:List Opn}{H:Heap}(hw:WtOk n H ab b0 b1 cap ks ws)(hn:l.length=n)(hv:Sl H v l)(hlb:H.get lb=some (.cells false e 1 [v.iv]))(hlt:lb < H.n)(hlt':ab < H.n)(hl:l.length≤100)(hkl:ks.length≤100){lo:Nat}{Q:Out→Heap→Prop}(hlo:lo≤H.n)
  (hq:∀H' (best:Int),Keep H.n H H'→ -1≤best→best < ks.length→Q (.val (.int .i64 best)) H'):
  W E0 lo (.call 38 [.ptr ab 0,.ptr lb 0]) H Q:=by
 refine W.pure bu hlo ?_;rw[c38];obtain⟨e1,gab⟩:=hw.get;have rab:=af gab;simp(disch:=omega) only[ak,↓aj,seval,B38,rab,aq,↓FR,FW]
 refine aO (fun k fr H'=>∃(i:Nat) (best:Int),i+k=ks.length∧Keep H.n H H'∧ -1≤best∧best < ks.length∧fr.marks=[]∧fr.tm.length=43∧fr.tm.getD 0 IV.undef=.ptr ab 0∧fr.tm.getD 1 IV.undef=.ptr lb 0∧fr.tm.getD 3 IV.undef=.int .i64 best∧fr.tm.getD 7 IV.undef=.slice b0 0 ks.length cap true∧fr.tm.getD 8 IV.undef=.int .i64 ks.length∧fr.tm.getD 9 IV.undef=.int .i64 i) ?_ ks.length
  ⟨0, -1,by omega,Keep.refl _ _,by omega,by omega,rfl,rfl,rfl,rfl,rfl,rfl,rfl,rfl⟩
 rintro k ⟨tm,mk⟩ H' ⟨i,best,hik,hk,hb1,hb2,rfl,htm,t0,t1,t3,t7,t8,t9⟩ L1 hN hJ;have hn':=hk.1;rw[anw tm htm,t0,t1,t3,t7,t8,t9];by_cases hi:i < ks.length
 ·have hksl:=(hw.left.keep hk).sl true;have hwsl:=(hw.oth.keep hk).sl true;have hwl:=hw.len;rw[hwl] at hwsl;obtain⟨kn,hkv,hkn⟩:=hw.lt _ (bm hi);have rk:=gU (hw.left.keep hk) qh i hi;have rw1:=gU (hw.oth.keep hk) qh kn (by omega);have ik:=hksl.idx;have iw:=hwsl.idx;rw[hwl] at iw;rw[pH,hkv] at rk;rw[pH] at rw1;have rab':=af ((hk.2 ab hlt' hlt').trans gab);by_cases hz:(ws[kn]'(by omega)).v=0
  ·by_cases hb0:best < 0
   ·simp(maxSteps:=4000000) (disch:=omega) only[ak,↓aj,seval,Oy,↓ik,↓iw,rk,rw1,rab',hz,hb0,aq,↓FR,FW]
    exact hN (k - 1) _ _ (by omega) ⟨i+1,i,by omega,hk,by omega,by omega,rfl,rfl,rfl,rfl,rfl,rfl,rfl,rfl⟩
   ·obtain⟨bn,hbn⟩:∃bn:Nat,best=(bn:Int):=⟨best.toNat,by omega⟩
    subst hbn;have hbl:bn < ks.length:=by omega
    obtain⟨k2,hk2v,hk2n⟩:=hw.lt _ (bm hbl);have rk2:=gU (hw.left.keep hk) qh bn hbl;rw[pH,hk2v] at rk2;have hv':=hv.keep hk;have rl1:=hv'.read jf kn (by omega);have rl2:=hv'.read jf k2 (by omega);rw[nN] at rl1 rl2;have iv:=hv'.idx;have rlb:=af ((hk.2 lb hlt hlt).trans hlb);simp(maxSteps:=4000000) (disch:=omega) only[ak,↓aj,seval,Oy,↓ik,↓iw,↓iv,rk,rk2,rw1,rl1,rl2,rlb,rab',hz,hb0,aq,↓FR,FW];refine HQ l[kn] l[k2] (by omega) fun H5 k5=>?_;have hk5:=hk.trans (k5.lower (by omega));by_cases hc:anN l[kn] l[k2] < 0
    ·simp(disch:=omega) only[ak,↓aj,seval,Oy,hc,aq,↓FR,FW]
     exact hN (k - 1) _ _ (by omega) ⟨i+1,i,by omega,hk5,by omega,by omega,rfl,rfl,rfl,rfl,rfl,rfl,rfl,rfl⟩
    ·simp(disch:=omega) only[ak,↓aj,seval,Oy,hc,aq,↓FR,FW]
     exact hN (k - 1) _ _ (by omega) ⟨i+1,bn,by omega,hk5,hb1,hb2,rfl,rfl,rfl,rfl,rfl,rfl,rfl,rfl⟩
  ·simp(maxSteps:=4000000) (disch:=omega) only[ak,↓aj,seval,Oy,↓ik,↓iw,rk,rw1,rab',hz,aq,↓FR,FW]
   exact hN (k - 1) _ _ (by omega) ⟨i+1,best,by omega,hk,hb1,hb2,rfl,rfl,rfl,rfl,rfl,rfl,rfl,rfl⟩
 ·simp(disch:=omega) only[ak,↓aj,seval,Oy,hJ,↓FR,FW]
  exact fun hkk=>hq _ _ hkk hb1 hb2
theorem WtOk.same{n ab b0 b1 cap:Nat}{ks ws:List Nw}{H H':Heap}(h:WtOk n H ab b0 b1 cap ks ws)(hn:H.n≤H'.n)(hg:∀x,x=ab∨x=b0∨x=b1→H'.get x=H.get x):WtOk n H' ab b0 b1 cap ks ws:=by
 obtain⟨⟨e,h1⟩,h2,h3,h4,h5⟩:=h;exact⟨⟨e,(hg ab (.inl rfl)).trans h1⟩,h2.same hn (hg b0 (.inr (.inl rfl))),h3.same hn (hg b1 (.inr (.inr rfl))),h4,h5⟩
theorem WtOk.oset{n ab b0 b1 cap:Nat}{ks ws:List Nw}{H:Heap}(h:WtOk n H ab b0 b1 cap ks ws)(i:Nat)(hi:i < n)(x:Int){lo:Nat}(hlo:lo≤b1)(h1:b1≠ab)(h2:b1≠b0):
  ∃o ws',H.write lo b1 (i*1) [.int .i64 x]=some (H.put b1 o)∧WtOk n (H.put b1 o) ab b0 b1 cap ks ws':=by
 have hl:=h.len;obtain⟨cs,hw,ho⟩:=h.oth.set qh i (by omega) ⟨x⟩ lo hlo;obtain⟨e,hg⟩:=h.get;exact⟨_,_,hw,⟨e,by rw[ae,if_neg h1];exact hg⟩,h.left.same (by rw[ai];exact au _) (by rw[ae,if_neg h2]),ho,by rw[bQ];exact hl,h.lt⟩
def mf(tm:List IV)(h:tm.length=120):=(ch tm 120 h).trans (by simp only[List.range,List.range.loop,bB,bc];exact rfl)
theorem QB{n n0 n1 ab b0 b1 cap lb b kk:Nat}{ks ws:List Nw}{fs:List Fc}{H:Heap}(hw:WtOk n H ab b0 b1 cap ks ws)(hf:FeetOk n0 n1 H b n fs)(hd:n1≤b1∧b < n1∧b1≠ab∧b1≠b0)(hkk:kk < n)(hn:n≤100)(hab:ab < H.n∧b0 < H.n∧b1 < H.n){lo:Nat}(hlo:lo≤b1){Q:Out→Heap→Prop}{tm:List IV}(htm:tm.length=120)(hfr:∃j:Nat,j=0∧(Fr.mk tm []).tm.getD 1 IV.undef=.ptr lb 0∧(Fr.mk tm []).tm.getD 4 IV.undef=.slice b 0 n n true∧(Fr.mk tm []).tm.getD 6 IV.undef=.ptr ab 0∧(Fr.mk tm []).tm.getD 7 IV.undef=.int .i64 kk∧(Fr.mk tm []).tm.getD 31 IV.undef=.int .i64 n∧(Fr.mk tm []).tm.getD 32 IV.undef=.int .i64 kk∧(Fr.mk tm []).tm.getD 40 IV.undef=.int .i64 kk∧(Fr.mk tm []).tm.getD 41 IV.undef=.int .i64 j)
  (hQ:∀H' ws' tm',KeepO [b1] H H'→WtOk n H' ab b0 b1 cap ks ws'→tm'.length=120→(Fr.mk tm' []).tm.getD 1 IV.undef=.ptr lb 0∧(Fr.mk tm' []).tm.getD 4 IV.undef=.slice b 0 n n true∧(Fr.mk tm' []).tm.getD 6 IV.undef=.ptr ab 0∧(Fr.mk tm' []).tm.getD 7 IV.undef=.int .i64 kk∧(Fr.mk tm' []).tm.getD 31 IV.undef=.int .i64 n∧(Fr.mk tm' []).tm.getD 32 IV.undef=.int .i64 kk∧(Fr.mk tm' []).tm.getD 40 IV.undef=.int .i64 kk→Q (.ex (.jmp (.exit 2)) ⟨tm',[]⟩) H'):
  W E0 lo (.code (.loop zo) none ⟨tm,[]⟩) H Q:=by
 obtain⟨j0,rfl,hfr⟩:=hfr
 refine aO (fun k fr H'=>∃(j:Nat) (ws':List Nw),j+k=kk∧KeepO [b1] H H'∧WtOk n H' ab b0 b1 cap ks ws'∧fr.marks=[]∧fr.tm.length=120∧fr.tm.getD 1 IV.undef=.ptr lb 0∧fr.tm.getD 4 IV.undef=.slice b 0 n n true∧fr.tm.getD 6 IV.undef=.ptr ab 0∧fr.tm.getD 7 IV.undef=.int .i64 kk∧fr.tm.getD 31 IV.undef=.int .i64 n∧fr.tm.getD 32 IV.undef=.int .i64 kk∧fr.tm.getD 40 IV.undef=.int .i64 kk∧fr.tm.getD 41 IV.undef=.int .i64 j) ?_ kk
  ⟨0,ws,by omega,KeepO.refl _ _,hw,rfl,htm,hfr⟩
 clear htm hfr;rintro k ⟨tm,mk⟩ H' ⟨j,ws',hjk,hk,hw',rfl,htm,t1,t4,t6,t7,t31,t32,t40,t41⟩ L1 hN hJ;have hn':=hk.1;rw[mf tm htm,t1,t4,t6,t7,t31,t32,t40,t41];by_cases hj:j < kk
 ·have hf':=hf.same hn' fun x hx=>hk.2 x (by have:=hf.own.2.1;have:=hf.le;omega) (by simp;omega);have hfl:=hf'.len;have hjl:j < fs.length:=by omega
  have hkl:kk < fs.length:=by omega
  have r1:=gU hf'.own Du j hjl;have r2:=gU hf'.own Du kk hkl;have idf:=(hf'.own.sl true).idx;rw[hfl] at idf;rw[II] at r1 r2;obtain⟨a1,a2,a3⟩:=hf'.ok _ (bm hjl);obtain⟨c1,c2,c3⟩:=hf'.ok _ (bm hkl);generalize fs[j]=fj at r1 a1 a2 a3;generalize fs[kk]=fk at r2 c1 c2 c3;simp(maxSteps:=4000000) (disch:=omega) only[ak,↓aj,seval,zT,↓idf,r1,r2,aq,↓FR,FW];refine Cw fj.f fk.f a1 c1 (by omega) (by omega) (by omega) fun H5 k5=>?_;have hn5:=k5.1;have hk5:KeepO [b1] H H5:=hk.trans (KeepO.of (ow:=[b1]) k5) fun x hx=>.inl hx;have hw5:=hw'.same k5.1 fun x hx=>k5.2 x (by omega) (by omega)
  cases hfb:rS fj.f fk.f with
  | true=>
    simp(maxSteps:=4000000) (disch:=omega) only[ak,↓aj,seval,zT,aq,↓FR,FW]
    exact hN (k - 1) _ _ (by omega) ⟨j+1,ws',by omega,hk5,hw5,rfl,rfl,rfl,rfl,rfl,rfl,rfl,rfl,rfl,rfl⟩
  | false=>
    obtain⟨e5,g5⟩:=hw5.get;have rab:=af g5;have hwl:=hw5.len;have rw1:=gU hw5.oth qh kk (by omega);rw[pH] at rw1;have iw:=(hw5.oth.sl true).idx;rw[hwl] at iw;obtain⟨o,ws2,hwr,hw6⟩:=hw5.oset kk hkk (IntKind.i64.wrap ((ws'[kk]'(by omega)).v+1)) hlo hd.2.2.1 hd.2.2.2;simp(maxSteps:=4000000) (disch:=omega) only[BAY,↓aj,seval,zT,↓iw,rab,rw1,hwr,aq,↓FR,FW];exact hN (k - 1) _ _ (by omega) ⟨j+1,ws2,by omega,hk5.trans (KeepO.put (ow:=[b1]) (by simp)) fun x hx=>.inl hx,hw6,rfl,rfl,rfl,rfl,rfl,rfl,rfl,rfl,rfl,rfl⟩
 ·simp(maxSteps:=4000000) (disch:=omega) only[ak,↓aj,seval,zT,hJ,↓FR,FW]
  exact hQ _ ws' _ hk hw' rfl ⟨rfl,rfl,rfl,rfl,rfl,rfl,rfl⟩
theorem WtOk.lset{n ab b0 b1 cap:Nat}{ks ws:List Nw}{H:Heap}(h:WtOk n H ab b0 b1 cap ks ws)(i:Nat)(hi:i < ks.length)(hin:i < n){lo:Nat}(hlo:lo≤b0)(h1:b0≠ab)(h2:b1≠b0):
  ∃o,H.write lo b0 (i*1) [.int .i64 i]=some (H.put b0 o)∧WtOk n (H.put b0 o) ab b0 b1 cap (ks.set i ⟨i⟩) ws:=by
 obtain⟨cs,hw,ho⟩:=h.left.set qh i hi ⟨i⟩ lo hlo;obtain⟨e,hg⟩:=h.get;refine⟨_,hw,⟨e,by rw[ae,if_neg h1,bQ];exact hg⟩,ho,h.oth.same (by rw[ai];exact au _) (by rw[ae,if_neg (Ne.symm h2)]),h.len,fun x hx=>?_⟩;rcases mX hx with hx | rfl
 ·exact h.lt x hx
 ·exact⟨i,rfl,hin⟩
theorem GL{n n0 n1 ab b0 b1 lb b:Nat}{ks ws:List Nw}{fs:List Fc}{H:Heap}(hw:WtOk n H ab b0 b1 n ks ws)(hks:ks.length=n)(hf:FeetOk n0 n1 H b n fs)(hd:n1≤b1∧n1≤b0∧b < n1∧b1≠ab∧b1≠b0∧b0≠ab)(hn:n≤100)(hab:ab < H.n∧b0 < H.n∧b1 < H.n){lo:Nat}(hlo:lo≤b1∧lo≤b0){Q:Out→Heap→Prop}{tm:List IV}(htm:tm.length=120)(hfr:∃kk:Nat,kk=0∧(Fr.mk tm []).tm.getD 1 IV.undef=.ptr lb 0∧(Fr.mk tm []).tm.getD 4 IV.undef=.slice b 0 n n true∧(Fr.mk tm []).tm.getD 6 IV.undef=.ptr ab 0∧(Fr.mk tm []).tm.getD 31 IV.undef=.int .i64 n∧(Fr.mk tm []).tm.getD 32 IV.undef=.int .i64 kk)
  (hQ:∀H' ks' ws' tm',KeepO [b0,b1] H H'→WtOk n H' ab b0 b1 n ks' ws'→ks'.length=n→tm'.length=120→(Fr.mk tm' []).tm.getD 1 IV.undef=.ptr lb 0∧(Fr.mk tm' []).tm.getD 4 IV.undef=.slice b 0 n n true∧(Fr.mk tm' []).tm.getD 6 IV.undef=.ptr ab 0→Q (.ex (.jmp (.exit 0)) ⟨tm',[]⟩) H'):
  W E0 lo (.code (.loop qg) none ⟨tm,[]⟩) H Q:=by
 obtain⟨j0,rfl,hfr⟩:=hfr
 refine aO (fun k fr H'=>∃(kk:Nat) (ks' ws':List Nw),kk+k=n∧KeepO [b0,b1] H H'∧WtOk n H' ab b0 b1 n ks' ws'∧ks'.length=n∧fr.marks=[]∧fr.tm.length=120∧fr.tm.getD 1 IV.undef=.ptr lb 0∧fr.tm.getD 4 IV.undef=.slice b 0 n n true∧fr.tm.getD 6 IV.undef=.ptr ab 0∧fr.tm.getD 31 IV.undef=.int .i64 n∧fr.tm.getD 32 IV.undef=.int .i64 kk) ?_ n
  ⟨0,ks,ws,by omega,KeepO.refl _ _,hw,hks,rfl,htm,hfr⟩
 clear htm hfr;rintro k ⟨tm,mk⟩ H' ⟨kk,ks',ws',hjk,hk,hw',hkl,rfl,htm,t1,t4,t6,t31,t32⟩ L1 hN hJ;have hn':=hk.1;rw[mf tm htm,t1,t4,t6,t31,t32];by_cases hj:kk < n
 ·have hf':=hf.same hn' fun x hx=>hk.2 x (by have:=hf.own.2.1;have:=hf.le;omega) (by simp;omega);obtain⟨e5,g5⟩:=hw'.get;rw[hkl] at g5;have rab:=af g5;have il:=(hw'.left.sl true).idx;rw[hkl] at il;obtain⟨o,hwr,hw6⟩:=hw'.lset kk (by omega) hj hlo.2 hd.2.2.2.2.2 hd.2.2.2.2.1;simp(maxSteps:=4000000) (disch:=omega) only[BAY,↓aj,seval,wU,wT,wS,wR,wQ,wP,wO,wN,wM,wL,qH,qG,qF,qE,qD,qC,qg,qB,qA,qz,qx,qw,vE,vD,qv,qu,qt,qs,qr,qq,qe,qp,tZ,qo,HO,F14,↓il,rab,hwr,aq,↓FR,FW];have hf6:=hf'.same (H':=H'.put b0 o) (by rw[ai];exact au _) fun x hx=>by rw[ae,if_neg (by omega)]
  refine QB hw6 hf6 (by omega) hj hn (by rw[ai];omega) hlo.1 rfl ⟨0,rfl,rfl,rfl,rfl,rfl,rfl,rfl,rfl,rfl⟩ fun H7 ws7 tm' k7 hw7 htm' hfr'=>?_;obtain⟨t1,t4,t6,t7,t31,t32,t40⟩:=hfr';rw[mf tm' htm',t1,t4,t6,t7,t31,t32,t40];simp(maxSteps:=4000000) (disch:=omega) only[ak,↓aj,seval,zT,aq,↓FR,FW];exact hN (k - 1) _ _ (by omega) ⟨kk+1,_,ws7,by omega,(hk.trans (KeepO.put (ow:=[b0,b1]) (by simp)) fun x hx=>.inl hx).trans k7 fun x hx=>.inl (by simp at hx⊢;exact .inr hx),hw7,by rw[bQ];exact hkl,rfl,rfl,rfl,rfl,rfl,rfl,rfl⟩
 ·simp(maxSteps:=4000000) (disch:=omega) only[ak,↓aj,seval,wU,wT,wS,wR,wQ,wP,wO,wN,wM,wL,qH,qG,qF,qE,qD,qC,qg,qB,qA,qz,qx,qw,vE,vD,qv,qu,qt,qs,qr,qq,qe,qp,tZ,qo,HO,F14,hJ,↓FR,FW]
  exact hQ _ ks' ws' _ hk hw' hkl rfl ⟨rfl,rfl,rfl⟩
theorem NS{n n0 n1 ab b0 b1 cap lb b tk at_:Nat}{fv ov:IV}{ks ws:List Nw}{fs:List Fc}{H:Heap}(hw:WtOk n H ab b0 b1 cap ks ws)(hf:FeetOk n0 n1 H b n fs)(hat:at_≤ks.length)(hd:n1≤b1∧b < n1∧b1≠ab∧b1≠b0)(htk:tk < n)(hn:n≤100)(hkn:ks.length≤100)(hab:ab < H.n∧b0 < H.n∧b1 < H.n){lo:Nat}(hlo:lo≤b1){Q:Out→Heap→Prop}{tm:List IV}(htm:tm.length=120)(hfr:∃j:Nat,j=0∧(Fr.mk tm []).tm.getD 1 IV.undef=.ptr lb 0∧(Fr.mk tm []).tm.getD 4 IV.undef=.slice b 0 n n true∧(Fr.mk tm []).tm.getD 6 IV.undef=.ptr ab 0∧(Fr.mk tm []).tm.getD 9 IV.undef=fv∧(Fr.mk tm []).tm.getD 10 IV.undef=ov∧(Fr.mk tm []).tm.getD 12 IV.undef=.int .i64 tk∧(Fr.mk tm []).tm.getD 95 IV.undef=.slice b0 (at_*1) (ks.length - at_) (cap - at_) true∧(Fr.mk tm []).tm.getD 96 IV.undef=.int .i64 (ks.length - at_:Nat)∧(Fr.mk tm []).tm.getD 97 IV.undef=.int .i64 j)
  (hQ:∀H' ws' tm',KeepO [b1] H H'→WtOk n H' ab b0 b1 cap ks ws'→tm'.length=120→(Fr.mk tm' []).tm.getD 1 IV.undef=.ptr lb 0∧(Fr.mk tm' []).tm.getD 4 IV.undef=.slice b 0 n n true∧(Fr.mk tm' []).tm.getD 6 IV.undef=.ptr ab 0∧(Fr.mk tm' []).tm.getD 9 IV.undef=fv∧(Fr.mk tm' []).tm.getD 10 IV.undef=ov→Q (.ex (.jmp (.exit 6)) ⟨tm',[]⟩) H'):
  W E0 lo (.code (.loop qe) none ⟨tm,[]⟩) H Q:=by
 obtain⟨j0,rfl,hfr⟩:=hfr
 refine aO (fun k fr H'=>∃(j:Nat) (ws':List Nw),j+k=ks.length - at_∧KeepO [b1] H H'∧WtOk n H' ab b0 b1 cap ks ws'∧fr.marks=[]∧fr.tm.length=120∧fr.tm.getD 1 IV.undef=.ptr lb 0∧fr.tm.getD 4 IV.undef=.slice b 0 n n true∧fr.tm.getD 6 IV.undef=.ptr ab 0∧fr.tm.getD 9 IV.undef=fv∧fr.tm.getD 10 IV.undef=ov∧fr.tm.getD 12 IV.undef=.int .i64 tk∧fr.tm.getD 95 IV.undef=.slice b0 (at_*1) (ks.length - at_) (cap - at_) true∧fr.tm.getD 96 IV.undef=.int .i64 (ks.length - at_:Nat)∧fr.tm.getD 97 IV.undef=.int .i64 j) ?_ (ks.length - at_)
  ⟨0,ws,by omega,KeepO.refl _ _,hw,rfl,htm,hfr⟩
 clear htm hfr;rintro k ⟨tm,mk⟩ H' ⟨j,ws',hjk,hk,hw',rfl,htm,t1,t4,t6,t9,t10,t12,t95,t96,t97⟩ L1 hN hJ;have hn':=hk.1;rw[mf tm htm,t1,t4,t6,t9,t10,t12,t95,t96,t97];by_cases hj:j < ks.length - at_
 ·have hf':=hf.same hn' fun x hx=>hk.2 x (by have:=hf.own.2.1;have:=hf.le;omega) (by simp;omega);have hfl:=hf'.len;have hcap:=hw'.left.1;have hsl:=(hw'.left.sl true).part qh (a:=at_) (m:=ks.length - at_) (c':=cap - at_) (ex':=true) (by omega) (by omega);rw[bL,eW (by rw[iV];exact au _)] at hsl;have hdl:(ks.drop at_).length=ks.length - at_:=iV;have rk:=hsl.read qh j (by omega);simp only[iM,lH] at rk;have hmem:(ks.drop at_)[j]'(by omega)∈ks:=Gd (bm (by omega));obtain⟨kk,hkv,hkk⟩:=hw'.lt _ hmem;rw[pH,hkv] at rk;have is:=hsl.idx;rw[hdl] at is;have hjl:tk < fs.length:=by omega
  have hkl:kk < fs.length:=by omega
  have r1:=gU hf'.own Du tk hjl;have r2:=gU hf'.own Du kk hkl;have idf:=(hf'.own.sl true).idx;rw[hfl] at idf;rw[II] at r1 r2;obtain⟨a1,a2,a3⟩:=hf'.ok _ (bm hjl);obtain⟨c1,c2,c3⟩:=hf'.ok _ (bm hkl);generalize fs[tk]=fj at r1 a1 a2 a3;generalize fs[kk]=fk at r2 c1 c2 c3;simp(maxSteps:=4000000) (disch:=omega) only[ak,↓aj,seval,zT,↓idf,↓is,rk,r1,r2,aq,↓FR,FW];refine Cw fj.f fk.f a1 c1 (by omega) (by omega) (by omega) fun H5 k5=>?_;have hn5:=k5.1;have hk5:KeepO [b1] H H5:=hk.trans (KeepO.of (ow:=[b1]) k5) fun x hx=>.inl hx;have hw5:=hw'.same k5.1 fun x hx=>k5.2 x (by omega) (by omega)
  cases hfb:rS fj.f fk.f with
  | true=>
    simp(maxSteps:=4000000) (disch:=omega) only[ak,↓aj,seval,zT,aq,↓FR,FW]
    exact hN (k - 1) _ _ (by omega) ⟨j+1,ws',by omega,hk5,hw5,rfl,rfl,rfl,rfl,rfl,rfl,rfl,rfl,rfl,rfl,rfl⟩
  | false=>
    obtain⟨e5,g5⟩:=hw5.get;have rab:=af g5;have hwl:=hw5.len;have rw1:=gU hw5.oth qh kk (by omega);rw[pH] at rw1;have iw:=(hw5.oth.sl true).idx;rw[hwl] at iw;obtain⟨o,ws2,hwr,hw6⟩:=hw5.oset kk hkk (IntKind.i64.wrap ((ws'[kk]'(by omega)).v - 1)) hlo hd.2.2.1 hd.2.2.2;simp(maxSteps:=4000000) (disch:=omega) only[BAY,↓aj,seval,zT,↓iw,rab,rw1,hwr,aq,↓FR,FW];exact hN (k - 1) _ _ (by omega) ⟨j+1,ws2,by omega,hk5.trans (KeepO.put (ow:=[b1]) (by simp)) fun x hx=>.inl hx,hw6,rfl,rfl,rfl,rfl,rfl,rfl,rfl,rfl,rfl,rfl,rfl⟩
 ·simp(maxSteps:=4000000) (disch:=omega) only[ak,↓aj,seval,zT,hJ,↓FR,FW]
  exact hQ _ ws' _ hk hw' rfl ⟨rfl,rfl,rfl,rfl,rfl⟩
theorem yE{v:SV}{l:List Opn}{H:Heap}(ht:Tabs tabs H)(hv:Sl H v l)(hl:l.length≤100){lo:Nat}{Q:Out→Heap→Prop}(hlo:lo≤H.n)
  (hq:∀H' (u:SV) (m:List Opn),Keep H.n H H'→Sl H' u m→m.length≤100→(cu l≠0→u=.nil)→Q (.val (.tuple [u.iv,.int .i64 (cu l)])) H'):
  W E0 lo (.call 14 [v.iv]) H Q:=by
 refine W.pure bu hlo ?_;rw[c14];simp(disch:=omega) only[ak,↓aj,seval,B14,aq,↓FR,FW];generalize hH_H1:Heap.new _ _=H1;have hnH1:H1.n=H.n+1:=by rw[←hH_H1];rfl
 have g0:=congrArg (fun h0=>Heap.get h0 (H.n)) hH_H1.symm;simp(disch:=omega) only[ak,↓aj,seval] at g0
 have kH1:Keep H.n H H1:=⟨by omega,fun x hx _=>by
  have gx:=congrArg (fun h0=>Heap.get h0 x) hH_H1.symm;simp(disch:=omega) only[ak,↓aj,seval] at gx;exact gx⟩
 clear hH_H1;refine CA (ht.keep' kH1) (hv.keep kH1) hl (by omega) fun H2 u k2 hne hok=>?_;have hn2:=k2.1;replace g0:=(k2.2 _ (by omega) (by omega)).trans g0;have kk2:Keep H.n H H2:=kH1.trans (k2.lower (by omega));by_cases he:cu l=0
 ·obtain⟨b,n0,fs,rfl,hb,hbn,hf⟩:=hok he;obtain⟨n,hn⟩:∃n,n=l.length:=⟨_,rfl⟩;rw[←hn] at hf⊢;have r0:=af g0;have hv2:=hv.keep kk2;have hln:=hv2.ln;rw[←hn] at hln;simp(disch:=omega) only[ak,↓aj,seval,B14,he,r0,↓hln,aq,↓FR,FW];obtain⟨b0,hb0⟩:∃b0,b0=H2.n:=⟨_,rfl⟩;obtain⟨b1,hb1⟩:∃b1,b1=H2.n+1:=⟨_,rfl⟩;obtain⟨ab,hab⟩:∃ab,ab=H2.n+2:=⟨_,rfl⟩;generalize hHA:Heap.put _ _ _=HA;have hnA:HA.n=H2.n+3:=by rw[←hHA];rfl
  have kA:Keep H2.n H2 HA:=⟨by omega,fun x h1 _=>by
   rw[←hHA,ae,if_neg (by omega),al,if_neg (by rw[ac,ac];omega),al,if_neg (by rw[ac];omega),al,if_neg (by omega)]⟩
  have gA:=congrArg (fun h0=>Heap.get h0 (H2.n+2)) hHA.symm;simp(disch:=omega) only[ak,↓aj,seval] at gA;have gB:=congrArg (fun h0=>Heap.get h0 (H2.n)) hHA.symm;simp(disch:=omega) only[ak,↓aj,seval] at gB;have gC:=congrArg (fun h0=>Heap.get h0 (H2.n+1)) hHA.symm;simp(disch:=omega) only[ak,↓aj,seval] at gC
  have hwt:WtOk n HA ab b0 b1 n (List.replicate n ⟨0⟩) (List.replicate n ⟨0⟩):=by
   refine⟨⟨100,by rw[hab,gA,hb0,hb1,jh]⟩,?_,?_,jh,fun x hx=>?_⟩
   ·have o0:Own (H2.new (.cells false 3 1 (iP n [.int .i64 0]))) H2.n 3 n (List.replicate n (⟨0⟩:Nw)):=Own.mksl qh ⟨0⟩;rw[hb0];exact o0.same (by rw[ac];omega) (by rw[gB,al,if_pos rfl])
   ·have o0:Own ((H2.new (.cells false 3 1 (iP n [.int .i64 0]))).new (.cells false 3 1 (iP n [.int .i64 0]))) (H2.n+1) 3 n (List.replicate n (⟨0⟩:Nw)):=Own.mksl qh ⟨0⟩;rw[hb1];exact o0.same (by rw[ac,ac];omega) (by rw[gC,al,ac,if_pos rfl])
   ·have hx':=Gl hx
    have hpos:0 < n:=by
     have:=List.length_pos_of_mem hx
     rwa [jh] at this
    exact⟨0,by rw[hx'];rfl,hpos⟩
  have gbA:=(kA.2 H.n (by omega) (by omega)).trans g0;have kkA:Keep H.n H HA:=kk2.trans (kA.lower (by omega));have hvA:=hv.keep kkA;have hfA:FeetOk n0 H2.n HA b n fs:=hf.keep kA;have hblt:=hf.own.2.1;have hn0le:n≤100:=by omega
  clear hHA gA gB gC hf r0 hln hv2;rw[←hab,←hb1,←hb0];refine GL hwt jh hfA (by omega) (by omega) (by omega) (by omega) rfl ⟨0,rfl,rfl,rfl,rfl,rfl,rfl⟩ fun H3 ks ws tm' k3 hw3 hkl htm' hfr'=>?_;obtain⟨t1,t4,t6⟩:=hfr';have hn3:=k3.1;rw[mf tm' htm',t1,t4,t6];have gb3:=(k3.2 H.n (by omega) (by simp;omega)).trans gbA;have r3:=af gb3;have hv3:=hvA.same hn3 fun hne=>k3.2 _ (by have:=hv.blk_lt hne;omega) (by have:=hv.blk_lt hne;simp;omega);have hln3:=hv3.ln;rw[←hn] at hln3;simp(maxSteps:=4000000) (disch:=omega) only[ak,↓aj,seval,B14,r3,↓hln3,aq,↓FR,FW]
  have oO:Own (H3.new (.cells false 56 6 (iP n [.int .u8 0,.int .u8 0,.int .u8 0,.int .i64 0,.int .u8 0,.int .i64 0]))) H3.n 56 n ([]:List Opn):=A5 jf (by
   have:=xK n (⟨0,0,0,0,0,0⟩:Opn)
   rw[nN] at this;rw[this,aw,jh,jf])
  have k4:Keep H3.n H3 (H3.new (.cells false 56 6 (iP n [.int .u8 0,.int .u8 0,.int .u8 0,.int .i64 0,.int .u8 0,.int .i64 0]))):=Keep.new _ _;have hn4:=ac H3 (.cells false 56 6 (iP n [.int .u8 0,.int .u8 0,.int .u8 0,.int .i64 0,.int .u8 0,.int .i64 0]));obtain⟨ob,hob⟩:∃ob,ob=H3.n:=⟨_,rfl⟩;rw[←hob] at oO⊢;generalize H3.new _=H4 at oO k4 hn4⊢;have hw4:=hw3.same (by omega:H3.n≤H4.n) fun x hx=>k4.2 x (by omega) (by omega);have hf4:=(hfA.same hn3 fun x hx=>k3.2 x (by omega) (by simp;omega)).same (by omega:H3.n≤H4.n) fun x hx=>k4.2 x (by omega) (by omega);have gb4:=(k4.2 H.n (by omega) (by omega)).trans gb3;have hv4:=hv3.keep k4;refine AW hw4 hn.symm hv4 gb4 (by omega) (by omega) hl (by omega) (by omega) fun H5 best k5 hb1' hb2'=>?_;have hn5:=k5.1
  have kk5:Keep H.n H H5:=by
   have a:Keep H.n HA H3:=⟨hn3,fun x h1 h2=>k3.2 x h2 (by simp;omega)⟩;exact kkA.trans (a.trans ((k4.lower (by omega)).trans (k5.lower (by omega))))
  simp(maxSteps:=4000000) (disch:=omega) only[ak,↓aj,seval,B14,aq,↓FR,FW]
  have hw5:=hw4.same k5.1 fun x hx=>k5.2 x (by omega) (by omega);have hf5:=hf4.keep k5;have gb5:=(k5.2 H.n (by omega) (by omega)).trans gb4;have hv5:=hv4.keep k5;have oO5:=oO.keep k5;clear oO k4 k3 kA kkA hvA hfA gbA hv3 gb3 r3 hln3 hw3 hw4 hf4 gb4 hv4 k5 hwt htm' hok k2 kH1 g0 kk2
  refine aO (fun k fr H'=>∃(ks ws:List Nw) (m:List Opn) (best:Int),ks.length=k∧m.length+ks.length=n∧ -1≤best∧best < ks.length∧WtOk n H' ab b0 b1 n ks ws∧Own H' ob 56 n m∧KeepO [ab,b0,b1,ob] H5 H'∧fr.marks=[]∧fr.tm.length=120∧fr.tm.getD 1 IV.undef=.ptr H.n 0∧fr.tm.getD 4 IV.undef=.slice b 0 n n true∧fr.tm.getD 6 IV.undef=.ptr ab 0∧fr.tm.getD 9 IV.undef=.fn 38 [] [.ptr ab 0,.ptr H.n 0]∧fr.tm.getD 10 IV.undef=.slice ob 0 m.length n true∧fr.tm.getD 11 IV.undef=.int .i64 best) ?_ ks.length
   ⟨ks,ws,[],best,rfl,by simp;omega,hb1',hb2',hw5,oO5,KeepO.refl _ _,rfl,rfl,rfl,rfl,rfl,rfl,rfl,rfl⟩
  clear hw5 oO5 hb1' hb2' hkl;rintro k ⟨tm,mk⟩ H' ⟨ks,ws,m,best,hkk,hml,hb1',hb2',hw',ho',hk,rfl,htm,t1,t4,t6,t9,t10,t11⟩ L1 hN hJ;have hn':=hk.1;have hlow:∀x,x < H5.n→x≠ab→x≠b0→x≠b1→x≠ob→H'.get x=H5.get x:=fun x h1 h2 h3 h4 h5=>hk.2 x h1 (by simp;omega);have hv':=hv5.same hn' fun hne=>hlow _ (by have:=hv.blk_lt hne;omega) (by have:=hv.blk_lt hne;omega) (by have:=hv.blk_lt hne;omega) (by have:=hv.blk_lt hne;omega) (by have:=hv.blk_lt hne;omega);have gb':=(hlow H.n (by omega) (by omega) (by omega) (by omega) (by omega)).trans gb5;have hf':=hf5.same hn' fun x hx=>hlow x (by omega) (by omega) (by omega) (by omega) (by omega);rw[mf tm htm,t1,t4,t6,t9,t10,t11];by_cases hb0':best≥0
  ·obtain⟨at_,hat⟩:∃at_:Nat,best=(at_:Int):=⟨best.toNat,by omega⟩
   subst hat;have hatl:at_ < ks.length:=by omega
   obtain⟨tk,htv,htk⟩:=hw'.lt _ (bm hatl);have rk:=gU hw'.left qh at_ hatl;rw[pH,htv] at rk;have ik:=(hw'.left.sl true).idx;obtain⟨e5,gab⟩:=hw'.get;have rab:=af gab;have rl:=hv'.read jf tk (by omega);rw[nN] at rl;have iv:=hv'.idx;have rlb:=af gb';simp(maxSteps:=4000000) (disch:=omega) only[ak,↓aj,seval,wU,wT,wS,wR,wQ,wP,wO,wN,wM,wL,qH,qG,qF,qE,qD,zo,qC,qg,qB,qA,qz,qx,qw,vD,qv,qu,qt,qs,qr,qq,qe,qp,tZ,qo,HO,F14,↓ik,rk,rab,hb0',aq,↓FR,FW];have oN:Own (H'.new (.cells false 56 6 [.int .u8 l[tk].k,.int .u8 l[tk].d,.int .u8 l[tk].b,.int .i64 l[tk].a,.int .u8 l[tk].y,.int .i64 l[tk].r])) H'.n 56 1 [l[tk]]:=ck (by rw[ac];omega) jf (by rw[al,if_pos rfl];rfl) rfl;have kB:Keep H'.n H' (H'.new (.cells false 56 6 [.int .u8 l[tk].k,.int .u8 l[tk].d,.int .u8 l[tk].b,.int .i64 l[tk].a,.int .u8 l[tk].y,.int .i64 l[tk].r])):=Keep.new _ _;have hnB:=ac H' (.cells false 56 6 [.int .u8 l[tk].k,.int .u8 l[tk].d,.int .u8 l[tk].b,.int .i64 l[tk].a,.int .u8 l[tk].y,.int .i64 l[tk].r]);obtain⟨HC,e1,hnC,kC,oC⟩:=ge (ex:=true) (ho'.keep kB) (oN.sl true) jf 40 H.n (by simp;omega) (by omega);simp only[jS,List.length_singleton] at e1;simp(maxSteps:=4000000) (disch:=omega) only[ak,↓aj,seval,wU,wT,wS,wR,wQ,wP,wO,wN,wM,wL,qH,qG,qF,qE,qD,zo,qC,qg,qB,qA,qz,qx,qw,vE,qv,qu,qt,qs,qr,qq,qe,qp,tZ,qo,HO,F14,↓iv,rl,rlb,↓e1,aq,↓FR,FW];have hgC:∀x,x < H'.n→x≠ob→HC.get x=H'.get x:=fun x h1 h2=>(kC x h2).trans (kB.2 x h1 h1);have hwC:=hw'.same (by omega:H'.n≤HC.n) fun x hx=>hgC x (by omega) (by omega);obtain⟨e6,gaC⟩:=hwC.get;have raC:=af gaC;simp(maxSteps:=4000000) (disch:=omega) only[ak,↓aj,seval,B14,raC,aq,↓FR,FW];rw[show((at_:Nat):Int)+1=((at_+1:Nat):Int) by omega];refine aek hwC.left at_ (at_+1) (by omega) (by omega) (by omega) (by omega) fun HD hnD kD oD=>?_;have gaD:=(kD ab (by omega)).trans gaC
   have hmem:∀x∈ks.take at_++ks.drop (at_+1),x∈ks:=fun x hx=>by
    rcases List.mem_append.1 hx with h | h
    ·exact xS h
    ·exact Gd h
   have hlen':(ks.take at_++ks.drop (at_+1)).length=ks.length - 1:=by rw[aW,eR,iV];omega
   generalize ks.take at_++ks.drop (at_+1)=ks' at oD hmem hlen'⊢;have b2:=RC (len:=ks'.length) (top:=n) (a:=at_) (by omega);simp(maxSteps:=4000000) (disch:=omega) only[ak,↓aj,seval,B14,gaD,b2,aq,↓FR,FW];have kE:∀x,x≠ab→(HD.put ab (.cells false e6 2 [.slice b0 0 ks'.length n true,.slice b1 0 n n true])).get x=HD.get x:=fun x hx=>by rw[ae,if_neg (Ne.symm hx)]
   have gE:(HD.put ab (.cells false e6 2 [.slice b0 0 ks'.length n true,.slice b1 0 n n true])).get ab=some (.cells false e6 2 [.slice b0 0 ks'.length n true,.slice b1 0 n n true]):=by rw[ae,if_pos rfl]
   have hnE:(HD.put ab (.cells false e6 2 [.slice b0 0 ks'.length n true,.slice b1 0 n n true])).n=HD.n:=ai _ _ _;generalize HD.put ab _=HE at kE gE hnE⊢;have oldE:∀x,x < H'.n→x≠ab→x≠b0→x≠ob→HE.get x=H'.get x:=fun x h1 h2 h3 h4=>(kE x h2).trans ((kD x h3).trans (hgC x h1 h4));have hwE:WtOk n HE ab b0 b1 n ks' ws:=⟨⟨e6,gE⟩,oD.same (by omega) (kE b0 (by omega)),(hwC.oth.same (by omega:HC.n≤HD.n) (kD b1 (by omega))).same (by omega) (kE b1 (by omega)),hwC.len,fun x hx=>hw'.lt x (hmem x hx)⟩;have hfE:=hf'.same (by omega:H'.n≤HE.n) fun x hx=>oldE x (by omega) (by omega) (by omega) (by omega);refine NS hwE hfE (by omega) (by omega) htk hn0le (by omega) (by omega) (by omega) rfl ⟨0,rfl,rfl,rfl,rfl,rfl,rfl,rfl,rfl,rfl,rfl⟩ fun H7 ws7 tm' k7 hw7 htm' hfr'=>?_;obtain⟨t1,t4,t6,t9,t10⟩:=hfr';have hn7:=k7.1;rw[mf tm' htm',t1,t4,t6,t9,t10];have old7:∀x,x < H'.n→x≠ab→x≠b0→x≠b1→x≠ob→H7.get x=H'.get x:=fun x h1 h2 h3 h4 h5=>(k7.2 x (by omega) (by simp;omega)).trans (oldE x h1 h2 h3 h5);have hv7:=hv'.same (by omega:H'.n≤H7.n) fun hne=>old7 _ (by have:=hv.blk_lt hne;omega) (by have:=hv.blk_lt hne;omega) (by have:=hv.blk_lt hne;omega) (by have:=hv.blk_lt hne;omega) (by have:=hv.blk_lt hne;omega);have gb7:=(old7 H.n (by omega) (by omega) (by omega) (by omega) (by omega)).trans gb';simp(maxSteps:=4000000) (disch:=omega) only[ak,↓aj,seval,B14,aq,↓FR,FW];refine AW hw7 hn.symm hv7 gb7 (by omega) (by omega) hl (by omega) (by omega) fun H8 best8 k8 hb18 hb28=>?_;have hn8:=k8.1;simp(maxSteps:=4000000) (disch:=omega) only[ak,↓aj,seval,B14,aq,↓FR,FW];have o8:=((((oC.same (by omega:HC.n≤HD.n) (kD ob (by omega))).same (by omega:HD.n≤HE.n) (kE ob (by omega))).same hn7 (k7.2 ob (by omega) (by simp;omega))).keep k8);refine hN (k - 1) _ _ (by omega) ⟨ks',ws7,m++[l[tk]],best8,by omega,by simp;omega,hb18,hb28,hw7.same k8.1 fun x hx=>k8.2 x (by omega) (by omega),o8,hk.trans ⟨by omega,fun x h1 h2=>?_⟩ fun x hx=>.inl hx,rfl,rfl,by rfl,by rfl,by rfl,by rfl,by simp[aW],by rfl⟩;simp at h2;exact(k8.2 x (by omega) (by omega)).trans (old7 x h1 h2.1 h2.2.1 h2.2.2.1 h2.2.2.2)
  ·simp(maxSteps:=4000000) (disch:=omega) only[ak,↓aj,seval,zT,hb0',hJ,↓FR,FW]
   intro hkk;have e0:IV.int .i64 0=IV.int .i64 (cu l):=by rw[he]
   rw[e0];exact hq _ (.sl ob 0 m.length n true) m hkk (ho'.sl true) (by omega) fun hne=>absurd he hne
 ·simp(disch:=omega) only[ak,↓aj,seval,B14,he,aq,↓FR,FW]
  exact fun hk=>hq _ .nil [] hk Sl.empty (by simp) fun _=>rfl
theorem GV{u v:SV}{l m:List Opn}{H:Heap}{lo:Nat}{Q:Out→Heap→Prop}(hu:Sl H u l)(hv:Sl H v m)(hl:l.length≤1000000)(hm:m.length≤1000000)(hlo:lo≤H.n)(h:∀H' b,Keep H.n H H'→Q (.val (.bool b)) H'):W E0 lo (.call 41 [u.iv,v.iv]) H Q:=by
 refine W.pure bu hlo ?_;rw[c41];by_cases hlm:((l.length:Nat):Int)=(m.length:Int)
 ·simp(disch:=omega) only[ak,↓aj,seval,B41,↓hu.ln,↓hv.ln,hlm,↓FR,FW]
  rw[←hlm];refine aO (fun k fr H'=>∃(i:Nat),i+k=l.length∧H'=H∧fr.marks=[]∧fr.tm.length=26∧fr.tm.getD 0 IV.undef=u.iv∧fr.tm.getD 1 IV.undef=v.iv∧fr.tm.getD 12 IV.undef=.int .i64 l.length∧fr.tm.getD 13 IV.undef=.int .i64 i) ?_ l.length ⟨0,by omega,rfl,rfl,rfl,rfl,rfl,rfl,rfl⟩;rintro k ⟨tm,mk⟩ H' ⟨i,hik,rfl,rfl,htm,t0,t1,t12,t13⟩ L1 hN hJ;rw[anB tm htm,t0,t1,t12,t13];by_cases hi:i < l.length
  ·have r1:=hu.read jf i hi;have r2:=hv.read jf i (by omega);generalize l[i]=a at r1;generalize m[i]=b at r2;rw[nN] at r1 r2;obtain⟨r,hr⟩:∃r,iF [.int,.int,.int,.int,.int,.int] [.int .u8 a.k,.int .u8 a.d,.int .u8 a.b,.int .i64 a.a,.int .u8 a.y,.int .i64 a.r] [.int .u8 b.k,.int .u8 b.d,.int .u8 b.b,.int .i64 b.a,.int .u8 b.y,.int .i64 b.r]=some r:=⟨_,rfl⟩
   cases r with
   | true=>
     simp(disch:=omega) only[ak,↓aj,seval,aoZ,↓hu.idx,↓hv.idx,r1,r2,↓hr,aq,↓FR,FW]
     exact hN (k - 1) _ _ (by omega) ⟨i+1,by omega,rfl,rfl,rfl,rfl,rfl,rfl,rfl⟩
   | false=>
     simp(disch:=omega) only[ak,↓aj,seval,aoZ,↓hu.idx,↓hv.idx,r1,r2,↓hr,hJ,aq,↓FR,FW]
     exact fun k=>h _ _ k
  ·simp(disch:=omega) only[ak,↓aj,seval,aoZ,hJ,↓FR,FW]
   exact fun k=>h _ _ k
 ·simp(disch:=omega) only[ak,↓aj,seval,B41,↓hu.ln,↓hv.ln,hlm,↓FR,FW]
  exact fun k=>h _ _ k
theorem Ig{u v:SV}{l m:List Opn}{H:Heap}(ht:Tabs tabs H)(hu:Sl H u l)(hv:Sl H v m)(hl:l.length≤100)(hm:m.length≤100){lo:Nat}{Q:Out→Heap→Prop}(hlo:lo≤H.n)
  (h:∀H' b,Keep H.n H H'→(cu l≠0∨cu m≠0→b=false)→Q (.val (.tuple [.bool b,.int .i64 (if cu l≠0 then cu l else cu m)])) H'):W E0 lo (.call 16 [u.iv,v.iv]) H Q:=by
 refine W.pure bu hlo ?_;rw[c16];simp(disch:=omega) only[ak,↓aj,seval,B16,↓FR,FW];refine yE ht hu hl (by omega) fun H2 x mx k2 hx hxl _=>?_;have hn2:=k2.1;by_cases he:cu l=0
 ·simp(disch:=omega) only[ak,↓aj,seval,B16,he,↓FR,FW]
  refine yE (ht.keep' k2) (hv.keep k2) hm (by omega) fun H3 y my k3 hy hyl _=>?_;have hn3:=k3.1;by_cases he':cu m=0
  ·simp(disch:=omega) only[ak,↓aj,seval,B16,he',↓FR,FW]
   refine GV (hx.keep k3) hy (by omega) (by omega) (by omega) fun H4 b k4=>?_;simp(disch:=omega) only[ak,↓aj,seval,B16,↓FR,FW];have e0:IV.int .i64 0=IV.int .i64 (if cu l≠0 then cu l else cu m):=by rw[he,he'];rfl
   rw[e0];exact fun hk=>h _ b hk fun hne=>by rcases hne with h | h;exact absurd he h;exact absurd he' h
  ·simp(disch:=omega) only[ak,↓aj,seval,B16,he',↓FR,FW]
   have e0:IV.int .i64 (cu m)=IV.int .i64 (if cu l≠0 then cu l else cu m):=by rw[he];rfl
   rw[e0];exact fun hk=>h _ false hk fun _=>rfl
 ·simp(disch:=omega) only[ak,↓aj,seval,B16,he,↓FR,FW]
  have e0:IV.int .i64 (cu l)=IV.int .i64 (if cu l≠0 then cu l else cu m):=by rw[if_pos he]
  rw[e0];exact fun hk=>h _ false hk fun _=>rfl
theorem EJ{v:SV}{l:List Opn}(i:Int){H:Heap}(ht:Tabs tabs H)(hv:Sl H v l)(hl:l.length≤100){lo:Nat}{Q:Out→Heap→Prop}(hlo:lo≤H.n)
  (hq:∀H' (u:SV) (g:Int),Keep H.n H H'→(cu l≠0→g=cu l∧u=.nil)→Q (.val (.tuple [u.iv,.int .i64 g])) H'):
  W E0 lo (.call 15 [v.iv,.int .i64 i]) H Q:=by
 refine W.pure bu hlo ?_;rw[c15];simp(disch:=omega) only[ak,↓aj,seval,B15,↓FR,FW];refine CA ht hv hl (by omega) fun H2 u k2 hne hok=>?_;have hn2:=k2.1;have hv2:=hv.keep k2;by_cases he:cu l=0
 ·obtain⟨b,n0,fs,rfl,hb,hbn,hf⟩:=hok he;by_cases hi0:i < 0
  ·simp(disch:=omega) only[ak,↓aj,seval,B15,he,hi0,↓FR,FW]
   exact fun hk=>hq _ .nil _ hk fun h=>absurd he h
  ·by_cases hi1:i>(l.length:Int) - 2
   ·simp(disch:=omega) only[ak,↓aj,seval,B15,he,hi0,hi1,↓hv2.ln,↓FR,FW]
    exact fun hk=>hq _ .nil _ hk fun h=>absurd he h
   ·obtain⟨j,hj⟩:∃j:Nat,i=(j:Int):=⟨i.toNat,by omega⟩
    subst hj;have hfl:=hf.len;have hjl:j < fs.length:=by omega
    have hkl:j+1 < fs.length:=by omega
    have r1:=gU hf.own Du j hjl;have r2:=gU hf.own Du (j+1) hkl;have idf:=(hf.own.sl true).idx;rw[hfl] at idf;rw[II] at r1 r2;obtain⟨a1,a2,a3⟩:=hf.ok _ (bm hjl);obtain⟨c1,c2,c3⟩:=hf.ok _ (bm hkl);generalize fs[j]=fj at r1 a1 a2 a3;generalize fs[j+1]=fk at r2 c1 c2 c3;simp(maxSteps:=4000000) (disch:=omega) only[ak,↓aj,seval,B15,he,hi0,hi1,↓hv2.ln,↓idf,r1,r2,show((j:Int)+1).toNat=j+1 by omega,aq,↓FR,FW];refine Cw fj.f fk.f a1 c1 (by omega) (by omega) (by omega) fun H5 k5=>?_;have hn5:=k5.1;have hv5:=hv2.keep k5
    cases hfb:rS fj.f fk.f with
    | false=>
      simp(maxSteps:=4000000) (disch:=omega) only[ak,↓aj,seval,B15,↓FR,FW]
      exact fun hk=>hq _ .nil _ hk fun h=>absurd he h
    | true=>
      obtain⟨H6,e1,hn6,k6,o6⟩:=fi hv5 (z:=6) rfl 56 H.n [.int .u8 0,.int .u8 0,.int .u8 0,.int .i64 0,.int .u8 0,.int .i64 0] rfl (by omega);simp(maxSteps:=4000000) (disch:=omega) only[ak,↓aj,seval,O0,OZ,OY,OX,OW,OV,OU,OT,OS,OR,HV,ae4,F15,↓hv5.ln,↓e1,aq,↓FR,FW];have q1:=gU o6 jf j (by omega);have q2:=gU o6 jf (j+1) (by omega);have ido:=(o6.sl true).idx;obtain⟨x1,w1,o7⟩:=o6.set jf j (by omega) l[j+1] H.n (by omega);obtain⟨x2,w2,o8⟩:=o7.set jf (j+1) (by rw[bQ];omega) l[j] H.n (by omega);rw[nN] at q1 q2 w1 w2;simp(maxSteps:=4000000) (disch:=omega) only[BAY,↓aj,seval,B15,↓ido,q1,q2,w1,w2,show((j:Int)+1).toNat=j+1 by omega,aq,↓FR,FW];exact fun hk=>hq _ (.sl H5.n 0 l.length l.length true) _ hk fun h=>absurd he h
 ·simp(disch:=omega) only[ak,↓aj,seval,B15,he,↓FR,FW]
  exact fun hk=>hq _ .nil _ hk fun _=>⟨rfl,rfl⟩
structure Ac where
 w:Nat
 y:Nat
 n:Nat
 r:Nat
 deriving Inhabited
instance:Cell Ac where
 z:=4
 cs a:=[.int .u8 a.w,.int .u8 a.y,.int .u8 a.n,.int .u8 a.r]
 len _:=rfl
 one _:=rfl
 pos:=by omega
theorem apV(a:Ac):Cell.cs a=[.int .u8 (a.w:Int),.int .u8 (a.y:Int),.int .u8 (a.n:Int),.int .u8 (a.r:Int)]:=rfl
theorem aso:Cell.z Ac=4:=rfl
def okA(a:Ac):Prop:=a.w≤255∧a.y≤255∧a.n≤255∧a.r≤255
theorem anK(d k:Nat):∃c:Int,IntKind.u8.wrap (((d:Int).fdiv (2^min k IntKind.u32.bits)).tmod 2)=c∧(c=0∨c=1):=by
 have h0:0≤(d:Int).fdiv (2^min k IntKind.u32.bits):=Int.fdiv_nonneg (by omega) (Int.le_of_lt (Int.pow_pos (by decide)));generalize (d:Int).fdiv (2^min k IntKind.u32.bits)=e at h0;have h1:e.tmod 2=e%2:=Gn h0;refine⟨e%2,?_,by omega⟩;rw[h1];exact wU8 (by omega)
def aed(tm:List IV)(h:tm.length=123):=(ch tm 123 h).trans (by simp only[List.range,List.range.loop,bB,bc];exact rfl)
theorem td{v:SV}{l:List Ac}{d:Nat}{i:Int}(hd:d≤4294967295){H:Heap}(ht:Tabs tabs H)(hv:Sl H v l)(hok:∀a∈l,okA a):W E0 H.n (.call 4 [v.iv,.int .u32 d,.int .i64 i]) H (fun o _=>o=.val (.bool true)):=by
 rw[c4];by_cases hl:((l.length:Nat):Int)>20
 ·simp(disch:=omega) only[ak,↓aj,seval,B4,↓hv.ln,hl,↓FR,FW]
  refine c11 ht ?_;simp(disch:=omega) only[ak,↓aj,seval,B4,↓FR,FW]
 ·simp(disch:=omega) only[ak,↓aj,seval,B4,↓hv.ln,hl,↓FR,FW]
  refine aO (fun q fr H'=>∃(k:Nat) (u:SV) (m:List Opn),k+q=l.length∧Keep H.n H H'∧Gr H.n H' 56 u m∧m.length=k∧fr.marks=[]∧fr.tm.length=123∧fr.tm.getD 0 IV.undef=v.iv∧fr.tm.getD 1 IV.undef=.int .u32 d∧fr.tm.getD 2 IV.undef=.int .i64 i∧fr.tm.getD 7 IV.undef=u.iv∧fr.tm.getD 8 IV.undef=.int .i64 k) ?_ l.length
   ⟨0,.nil,[],by omega,Keep.refl _ _,Gr.nil,rfl,rfl,rfl,rfl,rfl,rfl,rfl,rfl⟩
  rintro q ⟨tm,mk⟩ H' ⟨k,u,m,hkq,hk,hG,hml,rfl,htm,t0,t1,t2,t7,t8⟩ L1 hN hJ;have hn':=hk.1;have hv':=hv.keep hk;rw[aed tm htm,t0,t1,t2,t7,t8];by_cases hkl:k < l.length
  ·have r1:=hv'.read aso k hkl;obtain⟨o1,o2,o3,o4⟩:=hok _ (bm hkl);generalize l[k]=a at r1 o1 o2 o3 o4;rw[apV] at r1;simp(maxSteps:=4000000) (disch:=omega) only[ak,↓aj,seval,BL4,↓hv'.ln,↓hv'.idx,r1,aq,↓FR,FW];obtain⟨c,hc,hc1⟩:=anK d k;rw[hc];refine apx o1 o2 o3 o4 hc1 (by omega) fun H5 k5=>?_;have hn5:=k5.1;obtain⟨H6,w6,e6,k6,o6⟩:=(hG.keep k5).pushNew (opA a.w a.y a.n a.r c) jf 40 H.n (au _) (by omega) (by omega);generalize opA a.w a.y a.n a.r c=oo at e6 o6⊢;rw[nN] at e6⊢;simp(maxSteps:=4000000) (disch:=omega) only[ak,↓aj,seval,BL4,↓e6,aq,↓FR,FW];exact hN (q - 1) _ _ (by omega) ⟨k+1,w6,m++[oo],by omega,(hk.trans (k5.lower (by omega))).trans (k6.low (by omega)),o6,by rw[aW];simp;omega,rfl,rfl,rfl,rfl,rfl,rfl,rfl⟩
  ·simp(maxSteps:=4000000) (disch:=omega) only[ak,↓aj,seval,BL4,↓hv'.ln,hJ,↓FR,FW]
   have hm:=hG.sl;have ht':=ht.keep' hk;clear hG hv' hJ hN;refine DH (by omega) fun H2 k2 hn2 gy gt0=>?_;simp(maxSteps:=4000000) (disch:=omega) only[ak,↓aj,seval,B4,↓FR,FW];refine PQ (ht'.keep' k2) gy gt0 (by omega) (by omega) (hm.keep k2) (by omega) (by omega) fun H3 cs k3 hcs hone=>?_;have hn3:=k3.1;have k13:Keep H'.n H' H3:=k2.trans (k3.lower (by omega));simp(maxSteps:=4000000) (disch:=omega) only[ak,↓aj,seval,B4,hcs,hone,aq,↓FR,FW];have kN:Keep H3.n H3 ((H3.new (.cells false 35 8 [.int .i64 0,.nilSlice,.nilSlice,.nilSlice,.nilSlice,.nilSlice,.nilSlice,.nilSlice])).put H3.n (.cells false 35 8 (aA [.int .i64 0,.nilSlice,.nilSlice,.nilSlice,.nilSlice,.nilSlice,.nilSlice,.nilSlice] 0 cs))):=Keep.newPut;have kN':=k13.trans (kN.lower (by omega));refine CA (ht'.keep' kN') (hm.keep kN') (by omega) (by rw[ai,ac];omega) fun H4 f4 k4 hf4 _=>?_;have hn4:=k4.1;rw[ai,ac] at hn4;have k14:Keep H'.n H' H4:=kN'.trans (k4.lower (by rw[ai,ac];omega));simp(maxSteps:=4000000) (disch:=omega) only[ak,↓aj,seval,B4,aq,↓FR,FW];refine yE (ht'.keep' k14) (hm.keep k14) (by omega) (by omega) fun H5 f5 m5 k5 _ _ hf5=>?_;have hn5:=k5.1;have k15:Keep H'.n H' H5:=k14.trans (k5.lower (by omega));simp(maxSteps:=4000000) (disch:=omega) only[ak,↓aj,seval,B4,aq,↓FR,FW];refine EJ i (ht'.keep' k15) (hm.keep k15) (by omega) (by omega) fun H6 f6 g6 k6 hf6=>?_;have hn6:=k6.1;have k16:Keep H'.n H' H6:=k15.trans (k6.lower (by omega));simp(maxSteps:=4000000) (disch:=omega) only[ak,↓aj,seval,B4,aq,↓FR,FW];refine Ig (u:=u) (v:=.nil) (m:=[]) (ht'.keep' k16) (hm.keep k16) Sl.empty (by omega) (by simp) (by omega) fun H7 b7 k7 hb7=>?_;have hn7:=k7.1;have k17:Keep H'.n H' H7:=k16.trans (k7.lower (by omega));simp(maxSteps:=4000000) (disch:=omega) only[ak,↓aj,seval,B4,aq,↓FR,FW];refine Ig (u:=.nil) (v:=u) (l:=[]) (ht'.keep' k17) Sl.empty (hm.keep k17) (by simp) (by omega) (by omega) fun H8 b8 k8 hb8=>?_;have hn8:=k8.1;have k18:Keep H'.n H' H8:=k17.trans (k8.lower (by omega));have hr0:cu []=0:=rfl;have ht8:=ht'.keep' k18;by_cases he:cu m=0
   ·simp(maxSteps:=4000000) (disch:=omega) only[ak,↓aj,seval,B4,he,hr0,aq,↓FR,FW]
    refine c11 ht8 ?_;simp(maxSteps:=4000000) (disch:=omega) only[ak,↓aj,seval,B4,↓FR,FW]
   ·obtain⟨rfl,rfl⟩:=hf6 he;obtain rfl:=hf4 he;obtain rfl:=hf5 he;obtain rfl:=hb7 (.inl he);obtain rfl:=hb8 (.inr he);have hbn:(cu m !=0)=true:=by simpa using he
    simp(maxSteps:=4000000) (disch:=omega) only[ak,↓aj,seval,B4,he,hbn,hr0,jb,aq,↓FR,FW]
    refine c11 ht8 ?_;simp(maxSteps:=4000000) (disch:=omega) only[ak,↓aj,seval,B4,↓FR,FW]
end Go.Iso.Gen
end
