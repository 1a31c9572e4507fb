/-
  machines.
-/
import Derived.Test.YtpnbiapmndbhgaaGreatDoorFnT
import Derived.Test.YtpnbiapmndbhgaaGreatDoorIsoP7
import Derived.Test.YtpnbiapmndbhgaaGreatDoorFnS
set_option linter.unusedSimpArgs false
set_option linter.unusedVariables false
set_option maxHeartbeats 4000000
set_option maxRecDepth 10000
set_option linter.defProp false
section
namespace Go.Iso.Gen
open Go.Iso
structure Yn where
 inn:Bool
 place:Int
 count:Int
 new:Bool
 pend:List Ps
 deriving Inhabited
def mL(y:Yn)(v:SV):List IV:=[.bool y.inn,.int .i64 y.place,.int .i64 y.count,.bool y.new,v.iv]
def tq(d:Int):Bool:=d==0||d==1
def yq(x:Int):Bool:=(x.tmod 2 !=0)&&(decide (x≥ -13)&&decide (x≤179))
def OkP(p:Ps):Prop:=bI p.id=true∧(p.dir=0∨p.dir=1)
def Red(l:List Ps):Prop:=∀i (h:i+1 < l.length),ki l[i] l[i+1]=false
structure OkY(y:Yn):Prop where
 c0:0≤y.count
 c1:y.count≤2048
 out:y.inn=false→y.place=0∧y.new=false∧y.pend=[]
 pl:y.inn=true→yq y.place=true
 len:y.pend.length≤4096
 ok:∀p∈y.pend,OkP p
 red:Red y.pend
theorem q9(d:Int){lo:Nat}{H:Heap}{Q:Out→Heap→Prop}:W E0 lo (.call 145 [.int .u8 d]) H Q=Q (.val (.bool (tq d))) H:=by
 rw[ap3];unfold tq
 cases e0:(d==0)<;>cases e1:(d==1)<;>simp(disch:=omega) only[ak,↓aj,seval,arg,e0,e1,pQ,xV]
theorem yJ(p:Int){lo:Nat}{H:Heap}{Q:Out→Heap→Prop}:W E0 lo (.call 113 [.int .i64 p]) H Q=Q (.val (.bool (yq p))) H:=by
 rw[avQ];unfold yq
 cases e0:(p.tmod 2 !=0)<;>cases e1:decide (p≥ -13)<;>cases e2:decide (p≤179)<;>simp(disch:=omega) only[ak,↓aj,seval,awD,e0,e1,e2,xN,B3]
theorem Dz{p:Ps}(hp:OkP p){H:Heap}{lo:Nat}{Q:Out→Heap→Prop}(hlo:lo≤H.n)(h:∀H',Keep H.n H H'→Q (.val (.bool true)) H'):W E0 lo (.call 114 [.agg [.int .u8 p.id.y,.int .i64 p.id.n,.bool p.front,.int .u8 p.dir]]) H Q:=by
 refine gS _ hlo h fun R hR=>?_;have hd:tq p.dir=true:=by unfold tq;rcases hp.2 with h | h<;>simp[h]
 rw[avP];simp(disch:=omega) only[ak,↓aj,seval,ark];refine yv p.id (by rw[ac];omega) fun H2 k2=>?_;have g2:H2.get H.n=some (.cells false 196 4 [.int .u8 p.id.y,.int .i64 p.id.n,.bool p.front,.int .u8 p.dir]):=by rw[k2.2 _ (by rw[ac];omega) (by rw[ac];omega),al,if_pos rfl]
 have rg:=af g2;simp(disch:=omega) only[ak,↓aj,seval,ark,hp.1,rg,q9,hd];exact hR _
def ans(tm:List IV)(h:tm.length=65):=(ch tm 65 h).trans (by simp only[List.range,List.range.loop,bB,bc];exact rfl)
theorem sG{y:Yn}(hy:OkY y){v:SV}{H:Heap}{lo:Nat}{Q:Out→Heap→Prop}(hv:Sl H v y.pend)(hlo:lo≤H.n)
  (h:∀H',Keep H.n H H'→Q (.val (.int .i64 0)) H'):W E0 lo (.call 61 [.agg (mL y v)]) H Q:=by
 refine gS _ hlo h fun R hR=>?_;have h0:=hy.c0;have h1:=hy.c1;have hpl:=hy.len;rw[c61];by_cases hi:y.inn=false
 ·obtain⟨p0,n0,l0⟩:=hy.out hi;have hl0:y.pend.length=0:=by rw[l0];rfl
  simp(disch:=omega) only[ak,↓aj,seval,B61,mL,hi,p0,n0,↓hv.ln,hl0,show ¬y.count < 0 by omega,show ¬y.count>2048 by omega]
  exact hR _
 ·have hi:y.inn=true:=by simpa using hi
  have hp:=hy.pl hi;simp(disch:=omega) only[ak,↓aj,seval,B61,mL,hi,yJ,hp,↓hv.ln,show ¬y.count < 0 by omega,show ¬y.count>2048 by omega,show ¬(y.pend.length:Int)>4096 by omega];generalize hH_H1:Heap.new _ _=H1;have hnH1:H1.n=H.n+1:=by rw[←hH_H1];rfl
  have g0:=congrArg (fun h0=>Heap.get h0 (H.n)) hH_H1.symm;simp(disch:=omega) only[ak,↓aj,seval] at g0
  have kH1:Keep H.n H H1:=⟨by omega,fun x hx _=>by
   have gx:=congrArg (fun h0=>Heap.get h0 x) hH_H1.symm;simp(disch:=omega) only[ak,↓aj,seval] at gx;exact gx⟩
  clear hH_H1;have hv1:=hv.keep kH1;refine aO (fun k fr H'=>∃i,i+k=y.pend.length∧Keep H1.n H1 H'∧fr.marks=[]∧fr.tm.length=65∧fr.tm.getD 1 IV.undef=.ptr H.n 0∧fr.tm.getD 40 IV.undef=v.iv∧fr.tm.getD 41 IV.undef=.int .i64 y.pend.length∧fr.tm.getD 42 IV.undef=.int .i64 i) ?_ y.pend.length ⟨0,by omega,Keep.refl _ _,rfl,rfl,rfl,rfl,rfl,rfl⟩;rintro k ⟨tm,mk⟩ H' ⟨i,hik,hk,rfl,htm,t1,t40,t41,t42⟩ L hN hJ;have hn:=hk.1;have hv':=hv1.keep hk;have g0':=(hk.2 H.n (by omega) (by omega)).trans g0;rw[ans tm htm,t1,t40,t41,t42];by_cases hil:i < y.pend.length
  ·have r1:=hv'.read mH i hil;have hok:=hy.ok _ (bm hil);have rd:=hy.red;simp(disch:=omega) only[ak,↓aj,seval,Ox,↓hv'.idx,r1,zc,↓FR,FW];refine Dz hok (by rw[ai,ac];omega) fun H2 k2=>?_;have hn2:=k2.1;have g2:H2.get H'.n=some (.cells false 196 4 [.int .u8 y.pend[i].id.y,.int .i64 y.pend[i].id.n,.bool y.pend[i].front,.int .u8 y.pend[i].dir]):=by rw[k2.2 _ (by rw[ai,ac];omega) (by rw[ai,ac];omega),ae,if_pos rfl]
   have k3:Keep H'.n H' H2:=(Keep.newPut).trans (k2.lower (by rw[ai,ac];omega));rw[ai,ac] at hn2;clear k2;have rg2:=af g2;by_cases hi0:i=0
   ·subst hi0;simp(disch:=omega) only[ak,↓aj,seval,Ox,↓FR,FW];exact hN (k - 1) _ _ (by omega) ⟨1,by omega,hk.trans (k3.lower hn),rfl,rfl,rfl,rfl,rfl,rfl⟩
   ·have hv2:=hv'.keep k3;have r2:=hv2.read mH (i - 1) (by omega);have g02:=(k3.2 H.n (by omega) (by omega)).trans g0';have rg0:=af g02;have ec:=hy.red (i - 1) (by omega);rw[getElem_congr (rfl:y.pend=y.pend) (show i - 1+1=i by omega)] at ec;have ei:(i:Int) - 1=((i - 1:Nat):Int):=by omega
    simp(disch:=omega) only[ak,↓aj,seval,Ox,show(i:Int)>0 by omega,ei,rg0,rg2,↓hv2.idx,r2,zc,ff,↓FR,FW]
    refine AY y.pend[i - 1] y.pend[i] (hy.ok _ (bm _)).2 hok.2 (by omega) fun H3 k4=>?_;have k5:=k3.trans (k4.lower (by omega));simp(disch:=omega) only[ak,↓aj,seval,Ox,ec,↓FR,FW];exact hN (k - 1) _ _ (by omega) ⟨i+1,by omega,hk.trans (k5.lower hn),rfl,rfl,rfl,rfl,rfl,rfl⟩
  ·simp(disch:=omega) only[ak,↓aj,seval,Ox,hJ]
   exact hR _
def od:Yn:=⟨false,0,0,false,[]⟩
def ny(y:Yn)(side:Int):Yn:=⟨true,if side=1 then 179 else -13,y.count,true,[]⟩
theorem Rf{y:Yn}(hy:OkY y){v:SV}{side:Int}(hs:side=0∨side=1){H:Heap}{lo:Nat}{Q:Out→Heap→Prop}(hv:Sl H v y.pend)(hlo:lo≤H.n)
  (h:∀H',Keep H.n H H'→Q (.val (if y.inn=true then .tuple [.agg (mL od .nil),.int .i64 12] else .tuple [.agg (mL (ny y side) .nil),.int .i64 0])) H'):W E0 lo (.call 122 [.agg (mL y v),.int .u8 side]) H Q:=by
 refine gS _ hlo h fun R hR=>?_;rw[avH];simp(disch:=omega) only[ak,↓aj,seval,afK,mL];generalize hH_H1:Heap.new _ _=H1;have hnH1:H1.n=H.n+2:=by rw[←hH_H1];rfl
 have g0:=congrArg (fun h0=>Heap.get h0 (H.n)) hH_H1.symm;simp(disch:=omega) only[ak,↓aj,seval] at g0;have g1:=congrArg (fun h0=>Heap.get h0 (H.n+1)) hH_H1.symm;simp(disch:=omega) only[ak,↓aj,seval] at g1
 have kH1:Keep H.n H H1:=⟨by omega,fun x hx _=>by
  have gx:=congrArg (fun h0=>Heap.get h0 x) hH_H1.symm;simp(disch:=omega) only[ak,↓aj,seval] at gx;exact gx⟩
 clear hH_H1;refine sG hy (hv.keep kH1) (by omega) fun H2 k2=>?_;have hn2:=k2.1;have g02:=(k2.2 H.n (by omega) (by omega)).trans g0;have g12:=(k2.2 (H.n+1) (by omega) (by omega)).trans g1;have r02:=af g02;have r12:=af g12;have hsd:tq side=true:=by unfold tq;rcases hs with rfl | rfl<;>rfl
 by_cases hi:y.inn=true
 ·rw[if_pos hi] at hR;simp(disch:=omega) only[ak,↓aj,seval,afK,q9,hsd,g02,g12,r02,r12,hi,bO];exact hR _
 ·rw[if_neg hi] at hR;have hi:y.inn=false:=by simpa using hi
  rcases hs with rfl | rfl
  ·simp(disch:=omega) only[ak,↓aj,seval,afK,q9,hsd,g02,g12,r02,r12,hi,bO]
   exact hR _
  ·simp(disch:=omega) only[ak,↓aj,seval,afK,q9,hsd,g02,g12,r02,r12,hi,bO]
   exact hR _
def ng(y:Yn):Yn:=⟨false,0,y.count,false,[]⟩
theorem Qz{y:Yn}(hy:OkY y){v:SV}{H:Heap}{lo:Nat}{Q:Out→Heap→Prop}(hv:Sl H v y.pend)(hlo:lo≤H.n)
  (h:∀H',Keep H.n H H'→Q (.val (if y.inn=true then .tuple [.agg (mL (ng y) .nil),.int .i64 0] else .tuple [.agg (mL od .nil),.int .i64 12])) H'):W E0 lo (.call 123 [.agg (mL y v)]) H Q:=by
 refine gS _ hlo h fun R hR=>?_;rw[avG];simp(disch:=omega) only[ak,↓aj,seval,ao8,mL];generalize hH_H1:Heap.new _ _=H1;have hnH1:H1.n=H.n+2:=by rw[←hH_H1];rfl
 have g0:=congrArg (fun h0=>Heap.get h0 (H.n)) hH_H1.symm;simp(disch:=omega) only[ak,↓aj,seval] at g0;have g1:=congrArg (fun h0=>Heap.get h0 (H.n+1)) hH_H1.symm;simp(disch:=omega) only[ak,↓aj,seval] at g1
 have kH1:Keep H.n H H1:=⟨by omega,fun x hx _=>by
  have gx:=congrArg (fun h0=>Heap.get h0 x) hH_H1.symm;simp(disch:=omega) only[ak,↓aj,seval] at gx;exact gx⟩
 clear hH_H1;refine sG hy (hv.keep kH1) (by omega) fun H2 k2=>?_;have hn2:=k2.1;have g02:=(k2.2 H.n (by omega) (by omega)).trans g0;have g12:=(k2.2 (H.n+1) (by omega) (by omega)).trans g1;have r02:=af g02;have r12:=af g12;by_cases hi:y.inn=true
 ·rw[if_pos hi] at hR;simp(disch:=omega) only[ak,↓aj,seval,ao8,g02,g12,r02,r12,hi,bO];exact hR _
 ·rw[if_neg hi] at hR;have hi:y.inn=false:=by simpa using hi
  simp(disch:=omega) only[ak,↓aj,seval,ao8,g02,g12,r02,r12,hi,bO]
  exact hR _
def lu(y:Yn):Yn:=⟨true,y.place,y.count+1,false,[]⟩
theorem adP{y:Yn}(hy:OkY y){v:SV}{H:Heap}{lo:Nat}{Q:Out→Heap→Prop}(hv:Sl H v y.pend)(hlo:lo≤H.n)
  (h:∀H' e,Keep H.n H H'→(y.inn=false∧e=12∨y.inn=true∧y.count=2048∧e=3)→Q (.val (.tuple [.agg (mL od .nil),.agg [.int .i64 0,.bool false,.nilSlice],.int .i64 e])) H')
  (hok:∀H' b,Keep H.n H H'→y.inn=true→y.count < 2048→H.n≤b→Own H' b 196 y.pend.length y.pend→Q (.val (.tuple [.agg (mL (lu y) .nil),.agg [.int .i64 y.count,.bool y.new,(SV.sl b 0 y.pend.length y.pend.length true).iv],.int .i64 0])) H'):
  W E0 lo (.call 160 [.agg (mL y v)]) H Q:=by
 refine W.pure bu hlo ?_;rw[avj];simp(disch:=omega) only[ak,↓aj,seval,acU,mL];generalize hH_H1:Heap.new _ _=H1;have hnH1:H1.n=H.n+3:=by rw[←hH_H1];rfl
 have g0:=congrArg (fun h0=>Heap.get h0 (H.n)) hH_H1.symm;simp(disch:=omega) only[ak,↓aj,seval] at g0;have g1:=congrArg (fun h0=>Heap.get h0 (H.n+1)) hH_H1.symm;simp(disch:=omega) only[ak,↓aj,seval] at g1;have g2:=congrArg (fun h0=>Heap.get h0 (H.n+2)) hH_H1.symm;simp(disch:=omega) only[ak,↓aj,seval] at g2
 have kH1:Keep H.n H H1:=⟨by omega,fun x hx _=>by
  have gx:=congrArg (fun h0=>Heap.get h0 x) hH_H1.symm;simp(disch:=omega) only[ak,↓aj,seval] at gx;exact gx⟩
 clear hH_H1;have hpl:=hy.len;have hc1:=hy.c1;have hc0:=hy.c0;refine sG hy (hv.keep kH1) (by omega) fun H2 k2=>?_;have hn2:=k2.1;have hv2:=(hv.keep kH1).keep k2;have g02:=(k2.2 H.n (by omega) (by omega)).trans g0;have g12:=(k2.2 (H.n+1) (by omega) (by omega)).trans g1;have g22:=(k2.2 (H.n+2) (by omega) (by omega)).trans g2;have r02:=af g02;have r12:=af g12;have r22:=af g22;by_cases hi:y.inn=true
 ·by_cases hc:y.count=2048
  ·simp(disch:=omega) only[ak,↓aj,seval,acU,g02,g12,g22,r02,r12,r22,hi,hc,bO]
   exact fun hk=>h _ _ hk (.inr ⟨hi,hc,rfl⟩)
  ·have ec:(y.count==2048)=false:=by simpa using hc
   simp(disch:=omega) only[ak,↓aj,seval,acU,g02,g12,g22,r02,r12,r22,hi,ec,bO,↓FR,FW]
   refine zd hv2 (by omega) (au _) fun H3 b k3 hb o3=>?_;have hn3:=k3.1;have g03:=(k3.2 H.n (by omega) (by omega)).trans g02;have g13:=(k3.2 (H.n+1) (by omega) (by omega)).trans g12;have g23:=(k3.2 (H.n+2) (by omega) (by omega)).trans g22;have r03:=af g03;have r13:=af g13;have r23:=af g23;clear g0 g1 g2 g02 g12 g22 r02 r12 r22;simp(disch:=omega) only[ak,↓aj,seval,acU,g03,g13,g23,r03,r13,r23,bO,↓FR,FW];refine fun hk=>hok _ b hk hi (by omega) (by omega) (o3.same (by simp only[ai,ac];omega) ?_);have hb3:=o3.2.1;rw[ae,if_neg (by omega),ae,if_neg (by omega),ae,if_neg (by omega),al,if_neg (by omega)]
 ·have hi:y.inn=false:=by simpa using hi
  simp(disch:=omega) only[ak,↓aj,seval,acU,g02,g12,g22,r02,r12,r22,hi,bO]
  exact fun hk=>h _ _ hk (.inl ⟨hi,rfl⟩)
theorem P8{n0 b cap:Nat}{u:SV}{l st0:List Ps}{H:Heap}{lo:Nat}{Q:Out→Heap→Prop}(hlo:lo≤n0)(hn0:n0≤b)(hb:b < H.n)(hu:∀H',Keep n0 H H'→Sl H' u l)(ho:Own H b 196 cap st0)(hcap:st0.length+l.length≤cap)(hcap2:cap≤1000000)(hd:∀p∈l,p.dir=0∨p.dir=1)(hd0:∀p∈st0,p.dir=0∨p.dir=1)
  (h:∀H',Keep n0 H H'→Own H' b 196 cap (l.foldl eS st0)→Q (.val (.slice b 0 (l.foldl eS st0).length cap true)) H'):W E0 lo (.call 195 [.slice b 0 st0.length cap true,u.iv]) H Q:=by
 have hu0:=hu H (Keep.refl _ _);rw[au5];simp(disch:=omega) only[ak,↓aj,seval,arc,↓hu0.ln];refine aO (fun k fr H'=>∃i st,i+k=l.length∧st=(l.take i).foldl eS st0∧Keep n0 H H'∧Own H' b 196 cap st∧fr.marks=[]∧fr.tm.length=39∧fr.tm.getD 0 IV.undef=.slice b 0 st.length cap true∧fr.tm.getD 8 IV.undef=u.iv∧fr.tm.getD 9 IV.undef=.int .i64 l.length∧fr.tm.getD 10 IV.undef=.int .i64 i) ?_ l.length ⟨0,st0,by omega,rfl,Keep.refl _ _,ho,rfl,rfl,rfl,rfl,rfl,rfl⟩;rintro k ⟨tm,mk⟩ H' ⟨i,st,hik,hst,hk,ho,rfl,htm,t0,t8,t9,t10⟩ L hN hJ;have hn:=hk.1;have hu':=hu H' hk;rw[CD tm htm,t0,t8,t9,t10];by_cases hi:i < l.length
 ·have r1:=hu'.read mH i hi;have e2:(l.take (i+1)).foldl eS st0=eS st l[i]:=by rw[hst];rw[fg hi,List.foldl_append];rfl
  have hsl:st.length≤st0.length+i:=by
   rw[hst]
   have:=D0 (l.take i) st0
   rw[eR] at this;omega
  have hdi:=hd _ (bm hi)
  have hds:∀q∈st,q.dir=0∨q.dir=1:=fun q hq=>by
   rw[hst] at hq;rcases DZ _ _ _ hq with h | h
   ·exact hd0 _ h
   ·exact hd _ (xS h)
  rcases Cf st with rfl | ⟨s,q,hsq⟩
  ·have ho1:=ho.keep (Keep.newPut (o:=.cells false 196 4 [.int .u8 0,.int .i64 0,.bool false,.int .u8 0]) (o':=.cells false 196 4 [.int .u8 l[i].id.y,.int .i64 l[i].id.n,.bool l[i].front,.int .u8 l[i].dir]));obtain⟨H4,e4,k4,o4⟩:=D8 (lo:=lo) ho1 l[i] (by rw[j2];omega) (by omega);rw[ai,ac] at e4;rw[zc,j2] at e4;simp(disch:=omega) only[ak,↓aj,seval,FA,↓hu'.idx,r1,zc,↓e4];exact hN (k - 1) _ _ (by omega) ⟨i+1,[l[i]],by omega,by rw[e2,oS],(hk.trans (Keep.newPut.lower (by omega))).trans (k4 n0 hn0),o4,rfl,rfl,rfl,rfl,rfl,rfl⟩
  ·rw[Ce] at hsq;subst hsq;have ho1:=ho.keep (Keep.newPut (o:=.cells false 196 4 [.int .u8 0,.int .i64 0,.bool false,.int .u8 0]) (o':=.cells false 196 4 [.int .u8 l[i].id.y,.int .i64 l[i].id.n,.bool l[i].front,.int .u8 l[i].dir]));have e6:(s++[q])[s.length]'(by simp)=q:=by simp
   have e5:(s++[q]).length=s.length+1:=by simp
   have r2:H'.read b (s.length*4) 4=some (Cell.cs q):=by
    have:=(ho.sl true).read mH s.length (by simp)
    rw[e6] at this;simpa [SV.blk,SV.off] using this
   have d1:((s.length+1:Nat):Int)>0:=by omega
   have ej:((s.length+1:Nat):Int) - 1=(s.length:Int):=by omega
   rw[e5] at hsl;have hq:=hds q (by simp);simp(disch:=omega) only[ak,↓aj,seval,FA,↓hu'.idx,r1,zc,e5,d1,ej,r2,ff];refine AY q l[i] hq hdi (by rw[ai,ac];omega) fun H2 k2=>?_;have hn2:=k2.1;have g2:H2.get H'.n=some (.cells false 196 4 [.int .u8 l[i].id.y,.int .i64 l[i].id.n,.bool l[i].front,.int .u8 l[i].dir]):=by rw[k2.2 _ (by rw[ai,ac];omega) (by rw[ai,ac];omega),ae,if_pos rfl]
   rw[ai,ac] at hn2;have ho2:=ho1.keep k2;have kk:Keep n0 H H2:=(hk.trans (Keep.newPut.lower (by omega))).trans (k2.lower (by rw[ai,ac];omega));have rg:=af g2;clear k2;by_cases hc:ki q l[i]=true
   ·rw[lr,if_pos hc] at e2;have hle:=ho2.1;rw[e5] at hle
    have bb:aP (s.length+1) cap false true true [IV.int .i64 (s.length:Int),IV.int .i64 (cap:Int)]=some (0,s.length,some cap):=by
     simp only[aP,bD];rw[if_pos ⟨by omega,by omega⟩];simp only[br,ff];rw[if_pos ⟨by omega,by omega⟩];rfl
    simp(disch:=omega) only[ak,↓aj,seval,FA,hc,e5,d1,ej,bb]
    exact hN (k - 1) _ _ (by omega) ⟨i+1,s,by omega,e2.symm,kk,aeC ho2,rfl,rfl,rfl,rfl,rfl,rfl⟩
   ·rw[lr,if_neg hc] at e2;have hc:ki q l[i]=false:=by simpa using hc
    obtain⟨H4,e4,k4,o4⟩:=D8 (lo:=lo) ho2 l[i] (by rw[e5];omega) (by omega);rw[zc,e5] at e4;simp(disch:=omega) only[ak,↓aj,seval,FA,hc,e5,d1,ej,rg,↓e4];refine hN (k - 1) _ _ (by omega) ⟨i+1,s++[q]++[l[i]],by omega,e2.symm,kk.trans (k4 n0 hn0),o4,rfl,rfl,?_⟩;exact⟨by rw[aW,e5];rfl,rfl,rfl,rfl⟩
 ·rw[eW (by omega)] at hst;subst hst;simp(disch:=omega) only[ak,↓aj,seval,FA,hJ];exact h H' hk ho
def nm(y:Yn)(to:Int)(l:List Ps):Yn:=⟨y.inn,to,y.count,y.new,l.foldl eS y.pend⟩
def ant(tm:List IV)(h:tm.length=60):=(ch tm 60 h).trans (by simp only[List.range,List.range.loop,bB,bc];exact rfl)
theorem afS{y:Yn}(hy:OkY y){v u:SV}{l:List Ps}{to:Int}(hto:yq to=true){H:Heap}{lo:Nat}{Q:Out→Heap→Prop}(hv:Sl H v y.pend)(hu:Sl H u l)(hl:l.length≤100000)(hp:∀p∈l,OkP p)(hlo:lo≤H.n)
  (h:∀H' e,Keep H.n H H'→(y.inn=false∧e=12∨y.inn=true∧4096 < (nm y to l).pend.length∧e=3)→Q (.val (.tuple [.agg (mL od .nil),.int .i64 e])) H')
  (hok:∀H' b,Keep H.n H H'→y.inn=true→(nm y to l).pend.length≤4096→H.n≤b→Own H' b 196 (nm y to l).pend.length (nm y to l).pend→Q (.val (.tuple [.agg (mL (nm y to l) (SV.sl b 0 (nm y to l).pend.length (nm y to l).pend.length true)),.int .i64 0])) H'):
  W E0 lo (.call 156 [.agg (mL y v),.int .i64 to,u.iv]) H Q:=by
 refine W.pure bu hlo ?_;rw[avn];simp(disch:=omega) only[ak,↓aj,seval,FG,mL];generalize hH_H1:Heap.new _ _=H1;have hnH1:H1.n=H.n+2:=by rw[←hH_H1];rfl
 have g0:=congrArg (fun h0=>Heap.get h0 (H.n)) hH_H1.symm;simp(disch:=omega) only[ak,↓aj,seval] at g0;have g1:=congrArg (fun h0=>Heap.get h0 (H.n+1)) hH_H1.symm;simp(disch:=omega) only[ak,↓aj,seval] at g1
 have kH1:Keep H.n H H1:=⟨by omega,fun x hx _=>by
  have gx:=congrArg (fun h0=>Heap.get h0 x) hH_H1.symm;simp(disch:=omega) only[ak,↓aj,seval] at gx;exact gx⟩
 clear hH_H1;have hpl:=hy.len;refine sG hy (hv.keep kH1) (by omega) fun H2 k2=>?_;have hn2:=k2.1;have hv2:=(hv.keep kH1).keep k2;have hu2:=(hu.keep kH1).keep k2;have g02:=(k2.2 H.n (by omega) (by omega)).trans g0;have g12:=(k2.2 (H.n+1) (by omega) (by omega)).trans g1;clear g0 g1;simp(disch:=omega) only[ak,↓aj,seval,FG,yJ,hto,↓hu2.ln];refine aO (fun k fr H'=>∃i,i+k=l.length∧Keep H2.n H2 H'∧fr.marks=[]∧fr.tm.length=60∧fr.tm.getD 1 IV.undef=.int .i64 to∧fr.tm.getD 2 IV.undef=u.iv∧fr.tm.getD 3 IV.undef=.ptr H.n 0∧fr.tm.getD 6 IV.undef=.ptr (H.n+1) 0∧fr.tm.getD 22 IV.undef=u.iv∧fr.tm.getD 23 IV.undef=.int .i64 l.length∧fr.tm.getD 24 IV.undef=.int .i64 i) ?_ l.length ⟨0,by omega,Keep.refl _ _,rfl,rfl,rfl,rfl,rfl,rfl,rfl,rfl,rfl⟩;rintro k ⟨tm,mk⟩ H3 ⟨i,hik,hk,rfl,htm,t1,t2,t3,t6,t22,t23,t24⟩ L hN hJ;have hn:=hk.1;have hv3:=hv2.keep hk;have hu3:=hu2.keep hk;have g03:=(hk.2 H.n (by omega) (by omega)).trans g02;have g13:=(hk.2 (H.n+1) (by omega) (by omega)).trans g12;rw[ant tm htm,t1,t2,t3,t6,t22,t23,t24];by_cases hil:i < l.length
 ·have r1:=hu3.read mH i hil;simp(disch:=omega) only[ak,↓aj,seval,MK,↓hu3.idx,r1,zc];refine Dz (hp _ (bm hil)) (by rw[ai,ac];omega) fun H4 k4=>?_;have k3:Keep H3.n H3 H4:=(Keep.newPut).trans (k4.lower (by rw[ai,ac];omega));simp(disch:=omega) only[ak,↓aj,seval,MK];exact hN (k - 1) _ _ (by omega) ⟨i+1,by omega,hk.trans (k3.lower hn),rfl,rfl,rfl,rfl,rfl,rfl,rfl,rfl,rfl⟩
 ·clear hN;have r03:=af g03;have r13:=af g13;by_cases hi:y.inn=true
  ·obtain⟨cap,hcap⟩:∃c:Nat,c=y.pend.length+l.length:=⟨_,rfl⟩
   have hw:IntKind.i64.wrap ((y.pend.length:Int)+(l.length:Int))=(cap:Int):=by rw[IntWalk.i64_in _ (by omega)];omega
   have hcI:(0≤(cap:Int)∧(cap:Int)*25≤1099511627776)=True:=by simp;omega
   have o4:Own (H3.new (.cells false 196 4 (iP cap [IV.int .u8 0,.int .i64 0,.bool false,.int .u8 0]))) H3.n 196 cap ([]:List Ps):=A5 mH (by simp[iD]);obtain⟨H5,e5,n5,k5,o5⟩:=ge (ex:=true) o4 (hv3.keep (.new _ _)) mH 24 H.n (by simp;omega) (by omega);rw[j2,bL] at e5;rw[ru] at o5;have hkk:Keep H3.n H3 H5:=⟨by rw[n5,ac];omega,fun x hx hx'=>by rw[k5 x (by omega),al,if_neg (by omega)]⟩;simp(disch:=omega) only[ak,↓aj,seval,MK,hJ];simp(disch:=omega) only[ak,↓aj,seval,FG,hJ,↓e5,g03,g13,r03,r13,hi,bO,↓hv3.ln,↓hu3.ln,hw,hcI,ff];have hd:∀p∈l,p.dir=0∨p.dir=1:=fun p h=>(hp p h).2;have hd0:∀p∈y.pend,p.dir=0∨p.dir=1:=fun p h=>(hy.ok p h).2;refine P8 (n0:=H3.n) (b:=H3.n) (cap:=cap) (by omega) (au _) (by have:=o5.2.1;omega) (fun H' kx=>hu3.same (by have:=kx.1;have:=hkk.1;omega) fun hne=>?_) o5 (by omega) (by omega) hd hd0 fun H6 k6 o6=>?_
   ·have hb:=hu3.blk_lt hne;have hk1:=hkk.1;rw[kx.2 _ hb (by omega),hkk.2 _ hb hb]
   have k36:=hkk.trans k6;have hn6:=k36.1;have g06:=(k36.2 H.n (by omega) (by omega)).trans g03;have g16:=(k36.2 (H.n+1) (by omega) (by omega)).trans g13;clear e5 n5 k5 o5 o4 hkk k6 r03 r13 hcI hw hv2 hu2 hu hv hd hd0;have hrl:=D0 l y.pend;have r06:=af g06;have r16:=af g16;have hln:=(o6.sl true).ln;by_cases h4:4096 < (l.foldl eS y.pend).length
   ·simp(disch:=omega) only[ak,↓aj,seval,FG,g06,g16,r06,r16,hi,bO]
    exact fun hk=>h _ _ hk (.inr ⟨hi,h4,rfl⟩)
   ·simp(disch:=omega) only[ak,↓aj,seval,FG,g06,g16,r06,r16,hi,bO]
    clear g03 g13 r06 r16;generalize hob:IObj.cells false 133 5 [IV.bool true,IV.int IntKind.i64 to,IV.int IntKind.i64 y.count,IV.bool y.new,v.iv]=ob;have o7:Own (H6.put H.n ob) H3.n 196 cap (l.foldl eS y.pend):=o6.same (by rw[ai];omega) (by rw[ae,if_neg (by omega)]);refine zd (o7.sl true) (by omega) (by rw[ai];omega) fun H8 b8 k8 hb8 o8=>?_;rw[ai] at hb8;have hn8:=k8.1;rw[ai] at hn8;have g08:=k8.2 H.n (by rw[ai];omega) (by rw[ai];omega);have g18:=k8.2 (H.n+1) (by rw[ai];omega) (by rw[ai];omega);rw[ae,if_pos rfl,←hob] at g08;rw[ae,if_neg (by omega),g16] at g18;clear k8 o6 o7 g06 g16 hob;have r08:=af g08;have r18:=af g18;simp(disch:=omega) only[ak,↓aj,seval,FG,g08,g18,r08,r18,bO];refine fun hk=>?_;have hb9:=o8.2.1
    have he:mL (nm y to l) (SV.sl b8 0 (nm y to l).pend.length (nm y to l).pend.length true)=[IV.bool true,IV.int IntKind.i64 to,IV.int IntKind.i64 y.count,IV.bool y.new,IV.slice b8 0 (l.foldl eS y.pend).length (l.foldl eS y.pend).length true]:=by
     unfold mL nm;rw[hi];rfl
    have hq:=hok _ b8 hk hi (by show(l.foldl eS y.pend).length≤4096;omega) (by omega) (o8.same (by simp only[ai];omega) (by rw[ae,if_neg (by omega),ae,if_neg (by omega)]));rw[he] at hq;exact hq
  ·have hi:y.inn=false:=by simpa using hi
   simp(disch:=omega) only[ak,↓aj,seval,MK,hJ]
   simp(disch:=omega) only[ak,↓aj,seval,FG,hJ,g03,g13,r03,r13,hi,bO]
   exact fun hk=>h _ _ hk (.inl ⟨hi,rfl⟩)
theorem Red.nil:Red []:=fun i h=>by simp at h
theorem Red.init{s:List Ps}{q:Ps}(h:Red (s++[q])):Red s:=fun i hi=>by
 have:=h i (by simp;omega)
 rw[ut (by omega),ut (by omega)] at this;exact this
theorem Red.snoc{s:List Ps}{q p:Ps}(h:Red (s++[q]))(hc:ki q p=false):Red (s++[q]++[p]):=fun i hi=>by
 simp only[aW,fe,j2] at hi;by_cases h1:i+1 < (s++[q]).length
 ·rw[ut (by omega),ut h1];exact h i h1
 ·have e:i=s.length:=by simp at h1;omega
  subst e;rw[ut (by simp),Aq (by simp),Aq (by simp)];simpa using hc
theorem Red.push{st:List Ps}(h:Red st)(p:Ps):Red (eS st p):=by
 rcases Cf st with rfl | ⟨s,x,rfl⟩
 ·rw[oS];exact fun i hi=>by simp at hi
 ·rw[Ce] at h⊢;rw[lr];by_cases hc:ki x p=true
  ·rw[if_pos hc];exact h.init
  ·rw[if_neg hc];exact h.snoc (by simpa using hc)
theorem Red.foldl(l:List Ps):∀{st:List Ps},Red st→Red (l.foldl eS st):=by
 induction l with
 | nil=>exact fun h=>h
 | cons a l ih=>exact fun h=>ih (h.push a)
theorem Qj:OkY od:=⟨by decide,by decide,fun _=>⟨rfl,rfl,rfl⟩,fun h=>(by cases h),by decide,fun p h=>(by cases h),Red.nil⟩
theorem NH{y:Yn}(hy:OkY y)(s:Int):OkY (ny y s):=⟨hy.c0,hy.c1,fun h=>(by cases h),fun _=>(by show yq (if s=1 then 179 else -13)=true;split<;>decide),by show(0:Nat)≤4096;omega,fun p h=>(by cases h),Red.nil⟩
theorem NG{y:Yn}(hy:OkY y):OkY (ng y):=⟨hy.c0,hy.c1,fun _=>⟨rfl,rfl,rfl⟩,fun h=>(by cases h),by show(0:Nat)≤4096;omega,fun p h=>(by cases h),Red.nil⟩
theorem Qk{y:Yn}(hy:OkY y)(hi:y.inn=true)(hc:y.count < 2048):OkY (lu y):=⟨by have:=hy.c0;show 0≤y.count+1;omega,by show y.count+1≤2048;omega,fun h=>(by cases h),fun _=>hy.pl hi,by show(0:Nat)≤4096;omega,fun p h=>(by cases h),Red.nil⟩
theorem Ql{y:Yn}(hy:OkY y){to:Int}(hto:yq to=true)(hi:y.inn=true){l:List Ps}(hp:∀p∈l,OkP p)(hl:(nm y to l).pend.length≤4096):OkY (nm y to l):=
 ⟨hy.c0,hy.c1,fun h=>absurd (hi.symm.trans h) (by decide),fun _=>hto,hl,fun p h=>by
  rcases DZ l y.pend p h with h | h
  ·exact hy.ok p h
  ·exact hp p h,hy.red.foldl l⟩
def BK(a b c d:Bool):IV:=.agg [.bool a,.bool b,.bool c,.bool d]
def HZ:List (IV×IV×Nat):=[(.int .u8 1,BK true false true false,0),(.int .u8 2,BK false false true false,1),(.int .u8 3,BK false false false true,2),(.int .u8 4,BK true true true false,3),
 (.int .u8 5,BK true true true false,4),(.int .u8 6,BK true true true false,5),(.int .u8 7,BK false true false false,6),(.int .u8 8,BK false true false false,7)]
theorem ac5{H:Heap}{lo:Nat}{Q:Out→Heap→Prop}(hlo:lo≤H.n)(h:∀H',Keep H.n H H'→H'.get H.n=some (.map HZ 8)→H.n < H'.n→Q (.val (.map H.n)) H'):W E0 lo (.call 164 []) H Q:=by
 refine W.pure bu hlo ?_;rw[avg];simp(disch:=omega) only[ak,↓aj,seval,awr,aF,aK,eT,cp,aX,IV.cells,bO,rQ,isK];refine fun hk=>h _ hk ?_ ?_
 ·simp only[ae,al,if_true];rfl
 ·simp only[ai,ac];omega
structure Opn where
 k:Int
 d:Int
 b:Int
 a:Int
 y:Int
 r:Int
 deriving Inhabited,DecidableEq
instance:Cell Opn where
 z:=6
 cs o:=[.int .u8 o.k,.int .u8 o.d,.int .u8 o.b,.int .i64 o.a,.int .u8 o.y,.int .i64 o.r]
 len _:=rfl
 one _:=rfl
 pos:=by omega
theorem nN(o:Opn):Cell.cs o=[.int .u8 o.k,.int .u8 o.d,.int .u8 o.b,.int .i64 o.a,.int .u8 o.y,.int .i64 o.r]:=rfl
theorem jf:Cell.z Opn=6:=rfl
def uX(k:Int):Option (Bool×Bool×Bool×Bool):=
 if k=1 then some (true,false,true,false) else if k=2 then some (false,false,true,false) else if k=3 then some (false,false,false,true)
 else if k=4∨k=5∨k=6 then some (true,true,true,false) else if k=7∨k=8 then some (false,true,false,false) else none
def aC(o:Opn):Bool:=match uX o.k with
 | none=>false
 | some (d,n,y,r)=>(if d then decide (o.d=0∨o.d=1) else decide (o.d=0))&&((if n then decide (av o.b o.a=0) else decide (o.b=0∧o.a=0))&&((if y then decide (1≤o.y∧o.y≤6) else decide (o.y=0))&&(r||decide (o.r=0))))
def Qf(o:Opn):Int:=if aC o=false then 1 else if o.r < -4∨o.r>4 then 11 else 0
theorem FS(k:Int):uX k=none∨uX k=some (true,false,true,false)∨uX k=some (false,false,true,false)∨uX k=some (false,false,false,true)∨uX k=some (true,true,true,false)∨uX k=some (false,true,false,false):=by
 unfold uX
 repeat' split
 all_goals simp
theorem O3{H:Heap}{b:Nat}(hg:H.get b=some (.map HZ 8))(k:Int)(t lo:Nat):ev1 (.lookup t (false,[.int]) (.agg [.bool false,.bool false,.bool false,.bool false]) true) [.map b,.int .u8 k] lo H=
  some (match uX k with | some (d,n,y,r)=>.tuple [.agg [.bool d,.bool n,.bool y,.bool r],.bool true] | none=>.tuple [.agg [.bool false,.bool false,.bool false,.bool false],.bool false],H):=by
 simp only[ev1,aF,hg,cx,cp,aX,rQ,isK,IV.cells,B1,rq,if_true];by_cases h1:k=1
 ·subst h1;rfl
 by_cases h2:k=2
 ·subst h2;rfl
 by_cases h3:k=3
 ·subst h3;rfl
 by_cases h4:k=4
 ·subst h4;rfl
 by_cases h5:k=5
 ·subst h5;rfl
 by_cases h6:k=6
 ·subst h6;rfl
 by_cases h7:k=7
 ·subst h7;rfl
 by_cases h8:k=8
 ·subst h8;rfl
 have e:uX k=none:=by unfold uX;rw[if_neg h1,if_neg h2,if_neg h3,if_neg (by omega),if_neg (by omega)]
 have f:aK (false,[Pk.int]) (.int .u8 k) HZ 0=some none:=by
  simp only[HZ,BK,aK,eT,aX,IV.cells,iF,N7,B1,rq,if_true,beq_eq_false_iff_ne.2 h1,beq_eq_false_iff_ne.2 h2,beq_eq_false_iff_ne.2 h3,beq_eq_false_iff_ne.2 h4,beq_eq_false_iff_ne.2 h5,beq_eq_false_iff_ne.2 h6,beq_eq_false_iff_ne.2 h7,beq_eq_false_iff_ne.2 h8,B2]
 rw[e,f]
theorem P9(o:Opn){H:Heap}{lo:Nat}{Q:Out→Heap→Prop}(hlo:lo≤H.n)(h:∀H',Keep H.n H H'→Q (.val (.bool (aC o))) H'):W E0 lo (.call 131 [.agg [.int .u8 o.k,.int .u8 o.d,.int .u8 o.b,.int .i64 o.a,.int .u8 o.y,.int .i64 o.r]]) H Q:=by
 refine gS _ hlo h fun R hR=>?_;rw[avy];simp(disch:=omega) only[ak,↓aj,seval,bW,↓FR,FW];refine ac5 (by rw[ac];omega) fun H2 k2 g2 hn2=>?_;have g0:H2.get H.n=some (.cells false 56 6 [.int .u8 o.k,.int .u8 o.d,.int .u8 o.b,.int .i64 o.a,.int .u8 o.y,.int .i64 o.r]):=by rw[k2.2 _ (by rw[ac];omega) (by rw[ac];omega),al,if_pos rfl]
 rw[ac] at hn2 g2⊢;clear k2;have r0:=af g0;have hlk:=O3 g2 o.k;have hR:∀(b:Bool) H',b=aC o→R (.val (.bool b)) H':=fun b H' e=>e▸hR H';rcases FS o.k with hu | hu | hu | hu | hu | hu<;>rw[hu] at hlk
 ·simp(disch:=omega) only[ak,↓aj,seval,bW,↓hlk,r0,↓FR,FW]
  exact hR _ _ (by unfold aC;rw[hu])
 ·skip
  by_cases hd:o.d=0
  ·skip
   by_cases hb:o.b=0
   ·by_cases ha:o.a=0
    ·skip
     by_cases hy:1≤o.y∧o.y≤6
     ·have hy1:=hy.1;have hy2:=hy.2;by_cases hr:o.r=0
      ·simp(disch:=omega) only[ak,↓aj,seval,bW,↓hlk,r0,↓FR,FW]
       exact hR _ _ (by unfold aC;rw[hu];simp[hd,hb,ha,hy1,hy2,hr])
      ·simp(disch:=omega) only[ak,↓aj,seval,bW,↓hlk,r0,↓FR,FW]
       exact hR _ _ (by unfold aC;rw[hu];simp[hd,hb,ha,hy1,hy2,hr])
     ·by_cases hy1:o.y < 1
      ·simp(disch:=omega) only[ak,↓aj,seval,bW,↓hlk,r0,↓FR,FW]
       exact hR _ _ (by unfold aC;rw[hu];simp[hd,hb,ha,hy];try omega)
      ·simp(disch:=omega) only[ak,↓aj,seval,bW,↓hlk,r0,↓FR,FW]
       exact hR _ _ (by unfold aC;rw[hu];simp[hd,hb,ha,hy];try omega)
    ·simp(disch:=omega) only[ak,↓aj,seval,bW,↓hlk,r0,↓FR,FW]
     exact hR _ _ (by unfold aC;rw[hu];simp[hd,hb,ha])
   ·simp(disch:=omega) only[ak,↓aj,seval,bW,↓hlk,r0,↓FR,FW]
    exact hR _ _ (by unfold aC;rw[hu];simp[hd,hb])
  ·by_cases hd1:o.d=1
   ·skip
    by_cases hb:o.b=0
    ·by_cases ha:o.a=0
     ·skip
      by_cases hy:1≤o.y∧o.y≤6
      ·have hy1:=hy.1;have hy2:=hy.2;by_cases hr:o.r=0
       ·simp(disch:=omega) only[ak,↓aj,seval,bW,↓hlk,r0,↓FR,FW]
        exact hR _ _ (by unfold aC;rw[hu];simp[hd1,hb,ha,hy1,hy2,hr])
       ·simp(disch:=omega) only[ak,↓aj,seval,bW,↓hlk,r0,↓FR,FW]
        exact hR _ _ (by unfold aC;rw[hu];simp[hd1,hb,ha,hy1,hy2,hr])
      ·by_cases hy1:o.y < 1
       ·simp(disch:=omega) only[ak,↓aj,seval,bW,↓hlk,r0,↓FR,FW]
        exact hR _ _ (by unfold aC;rw[hu];simp[hd1,hb,ha,hy];try omega)
       ·simp(disch:=omega) only[ak,↓aj,seval,bW,↓hlk,r0,↓FR,FW]
        exact hR _ _ (by unfold aC;rw[hu];simp[hd1,hb,ha,hy];try omega)
     ·simp(disch:=omega) only[ak,↓aj,seval,bW,↓hlk,r0,↓FR,FW]
      exact hR _ _ (by unfold aC;rw[hu];simp[hd1,hb,ha])
    ·simp(disch:=omega) only[ak,↓aj,seval,bW,↓hlk,r0,↓FR,FW]
     exact hR _ _ (by unfold aC;rw[hu];simp[hd1,hb])
   ·simp(disch:=omega) only[ak,↓aj,seval,bW,↓hlk,r0,↓FR,FW]
    exact hR _ _ (by unfold aC;rw[hu];simp[hd,hd1])
 ·skip
  by_cases hd:o.d=0
  ·skip
   by_cases hb:o.b=0
   ·by_cases ha:o.a=0
    ·skip
     by_cases hy:1≤o.y∧o.y≤6
     ·have hy1:=hy.1;have hy2:=hy.2;by_cases hr:o.r=0
      ·simp(disch:=omega) only[ak,↓aj,seval,bW,↓hlk,r0,↓FR,FW]
       exact hR _ _ (by unfold aC;rw[hu];simp[hd,hb,ha,hy1,hy2,hr])
      ·simp(disch:=omega) only[ak,↓aj,seval,bW,↓hlk,r0,↓FR,FW]
       exact hR _ _ (by unfold aC;rw[hu];simp[hd,hb,ha,hy1,hy2,hr])
     ·by_cases hy1:o.y < 1
      ·simp(disch:=omega) only[ak,↓aj,seval,bW,↓hlk,r0,↓FR,FW]
       exact hR _ _ (by unfold aC;rw[hu];simp[hd,hb,ha,hy];try omega)
      ·simp(disch:=omega) only[ak,↓aj,seval,bW,↓hlk,r0,↓FR,FW]
       exact hR _ _ (by unfold aC;rw[hu];simp[hd,hb,ha,hy];try omega)
    ·simp(disch:=omega) only[ak,↓aj,seval,bW,↓hlk,r0,↓FR,FW]
     exact hR _ _ (by unfold aC;rw[hu];simp[hd,hb,ha])
   ·simp(disch:=omega) only[ak,↓aj,seval,bW,↓hlk,r0,↓FR,FW]
    exact hR _ _ (by unfold aC;rw[hu];simp[hd,hb])
  ·simp(disch:=omega) only[ak,↓aj,seval,bW,↓hlk,r0,↓FR,FW]
   exact hR _ _ (by unfold aC;rw[hu];simp[hd])
 ·skip
  by_cases hd:o.d=0
  ·skip
   by_cases hb:o.b=0
   ·by_cases ha:o.a=0
    ·skip
     by_cases hy:o.y=0
     ·skip
      simp(disch:=omega) only[ak,↓aj,seval,bW,↓hlk,r0,↓FR,FW]
      exact hR _ _ (by unfold aC;rw[hu];simp[hd,hb,ha,hy])
     ·simp(disch:=omega) only[ak,↓aj,seval,bW,↓hlk,r0,↓FR,FW]
      exact hR _ _ (by unfold aC;rw[hu];simp[hd,hb,ha,hy])
    ·simp(disch:=omega) only[ak,↓aj,seval,bW,↓hlk,r0,↓FR,FW]
     exact hR _ _ (by unfold aC;rw[hu];simp[hd,hb,ha])
   ·simp(disch:=omega) only[ak,↓aj,seval,bW,↓hlk,r0,↓FR,FW]
    exact hR _ _ (by unfold aC;rw[hu];simp[hd,hb])
  ·simp(disch:=omega) only[ak,↓aj,seval,bW,↓hlk,r0,↓FR,FW]
   exact hR _ _ (by unfold aC;rw[hu];simp[hd])
 ·skip
  by_cases hd:o.d=0
  ·skip
   simp(disch:=omega) only[ak,↓aj,seval,bW,↓hlk,r0,↓FR,FW]
   refine cn o.b o.a (by simp only[ai,ac];omega) fun H3 k3=>?_;have g3:=k3.2 H.n (by simp only[ai,ac];omega) (by simp only[ai,ac];omega);have g4:=k3.2 H2.n (by simp only[ai,ac];omega) (by simp only[ai,ac];omega);rw[ae,if_neg (by omega),al,if_neg (by omega),g0] at g3;rw[ae,if_pos rfl] at g4;clear k3 r0 hlk;have r0:=af g3;have r1:=af g4;by_cases hE:av o.b o.a=0
   ·skip
    by_cases hy:1≤o.y∧o.y≤6
    ·have hy1:=hy.1;have hy2:=hy.2;by_cases hr:o.r=0
     ·simp(disch:=omega) only[ak,↓aj,seval,bW,r0,r1,↓FR,FW]
      exact hR _ _ (by unfold aC;rw[hu];simp[hd,hE,hy1,hy2,hr])
     ·simp(disch:=omega) only[ak,↓aj,seval,bW,r0,r1,↓FR,FW]
      exact hR _ _ (by unfold aC;rw[hu];simp[hd,hE,hy1,hy2,hr])
    ·by_cases hy1:o.y < 1
     ·simp(disch:=omega) only[ak,↓aj,seval,bW,r0,r1,↓FR,FW]
      exact hR _ _ (by unfold aC;rw[hu];simp[hd,hE,hy];try omega)
     ·simp(disch:=omega) only[ak,↓aj,seval,bW,r0,r1,↓FR,FW]
      exact hR _ _ (by unfold aC;rw[hu];simp[hd,hE,hy];try omega)
   ·simp(disch:=omega) only[ak,↓aj,seval,bW,r0,r1,↓FR,FW]
    exact hR _ _ (by unfold aC;rw[hu];simp[hd,hE])
  ·by_cases hd1:o.d=1
   ·skip
    simp(disch:=omega) only[ak,↓aj,seval,bW,↓hlk,r0,↓FR,FW]
    refine cn o.b o.a (by simp only[ai,ac];omega) fun H3 k3=>?_;have g3:=k3.2 H.n (by simp only[ai,ac];omega) (by simp only[ai,ac];omega);have g4:=k3.2 H2.n (by simp only[ai,ac];omega) (by simp only[ai,ac];omega);rw[ae,if_neg (by omega),al,if_neg (by omega),g0] at g3;rw[ae,if_pos rfl] at g4;clear k3 r0 hlk;have r0:=af g3;have r1:=af g4;by_cases hE:av o.b o.a=0
    ·skip
     by_cases hy:1≤o.y∧o.y≤6
     ·have hy1:=hy.1;have hy2:=hy.2;by_cases hr:o.r=0
      ·simp(disch:=omega) only[ak,↓aj,seval,bW,r0,r1,↓FR,FW]
       exact hR _ _ (by unfold aC;rw[hu];simp[hd1,hE,hy1,hy2,hr])
      ·simp(disch:=omega) only[ak,↓aj,seval,bW,r0,r1,↓FR,FW]
       exact hR _ _ (by unfold aC;rw[hu];simp[hd1,hE,hy1,hy2,hr])
     ·by_cases hy1:o.y < 1
      ·simp(disch:=omega) only[ak,↓aj,seval,bW,r0,r1,↓FR,FW]
       exact hR _ _ (by unfold aC;rw[hu];simp[hd1,hE,hy];try omega)
      ·simp(disch:=omega) only[ak,↓aj,seval,bW,r0,r1,↓FR,FW]
       exact hR _ _ (by unfold aC;rw[hu];simp[hd1,hE,hy];try omega)
    ·simp(disch:=omega) only[ak,↓aj,seval,bW,r0,r1,↓FR,FW]
     exact hR _ _ (by unfold aC;rw[hu];simp[hd1,hE])
   ·simp(disch:=omega) only[ak,↓aj,seval,bW,↓hlk,r0,↓FR,FW]
    exact hR _ _ (by unfold aC;rw[hu];simp[hd,hd1])
 ·skip
  by_cases hd:o.d=0
  ·skip
   simp(disch:=omega) only[ak,↓aj,seval,bW,↓hlk,r0,↓FR,FW]
   refine cn o.b o.a (by simp only[ai,ac];omega) fun H3 k3=>?_;have g3:=k3.2 H.n (by simp only[ai,ac];omega) (by simp only[ai,ac];omega);have g4:=k3.2 H2.n (by simp only[ai,ac];omega) (by simp only[ai,ac];omega);rw[ae,if_neg (by omega),al,if_neg (by omega),g0] at g3;rw[ae,if_pos rfl] at g4;clear k3 r0 hlk;have r0:=af g3;have r1:=af g4;by_cases hE:av o.b o.a=0
   ·skip
    by_cases hy:o.y=0
    ·skip
     by_cases hr:o.r=0
     ·simp(disch:=omega) only[ak,↓aj,seval,bW,r0,r1,↓FR,FW]
      exact hR _ _ (by unfold aC;rw[hu];simp[hd,hE,hy,hr])
     ·simp(disch:=omega) only[ak,↓aj,seval,bW,r0,r1,↓FR,FW]
      exact hR _ _ (by unfold aC;rw[hu];simp[hd,hE,hy,hr])
    ·simp(disch:=omega) only[ak,↓aj,seval,bW,r0,r1,↓FR,FW]
     exact hR _ _ (by unfold aC;rw[hu];simp[hd,hE,hy])
   ·simp(disch:=omega) only[ak,↓aj,seval,bW,r0,r1,↓FR,FW]
    exact hR _ _ (by unfold aC;rw[hu];simp[hd,hE])
  ·simp(disch:=omega) only[ak,↓aj,seval,bW,↓hlk,r0,↓FR,FW]
   exact hR _ _ (by unfold aC;rw[hu];simp[hd])
theorem Gw(o:Opn){H:Heap}{lo:Nat}{Q:Out→Heap→Prop}(hlo:lo≤H.n)(h:∀H',Keep H.n H H'→Q (.val (.int .i64 (Qf o))) H'):W E0 lo (.call 77 [.agg [.int .u8 o.k,.int .u8 o.d,.int .u8 o.b,.int .i64 o.a,.int .u8 o.y,.int .i64 o.r]]) H Q:=by
 refine gS _ hlo h fun R hR=>?_;rw[c77];simp(disch:=omega) only[ak,↓aj,seval,B77];refine P9 o (by rw[ac];omega) fun H2 k2=>?_;have g0:H2.get H.n=some (.cells false 56 6 [.int .u8 o.k,.int .u8 o.d,.int .u8 o.b,.int .i64 o.a,.int .u8 o.y,.int .i64 o.r]):=by rw[k2.2 _ (by rw[ac];omega) (by rw[ac];omega),al,if_pos rfl]
 have r0:=af g0;unfold Qf at hR
 cases hp:aC o
 ·rw[hp,if_pos rfl] at hR;simp(disch:=omega) only[ak,↓aj,seval,B77];exact hR _
 ·rw[hp,if_neg (by decide)] at hR;by_cases h1:o.r < -4
  ·rw[if_pos (.inl h1)] at hR;simp(disch:=omega) only[ak,↓aj,seval,B77,r0];exact hR _
  ·by_cases h2:o.r>4
   ·rw[if_pos (.inr h2)] at hR;simp(disch:=omega) only[ak,↓aj,seval,B77,r0];exact hR _
   ·rw[if_neg (by omega)] at hR;simp(disch:=omega) only[ak,↓aj,seval,B77,r0];exact hR _
theorem Gv{o:Opn}(h:Qf o=0): -4≤o.r∧o.r≤4∧1≤o.k∧o.k≤8∧
  (o.k=1→(o.d=0∨o.d=1)∧1≤o.y∧o.y≤6)∧(o.k=2→1≤o.y∧o.y≤6)∧(o.k=4∨o.k=5∨o.k=6→(o.d=0∨o.d=1)∧av o.b o.a=0∧1≤o.y∧o.y≤6)∧(o.k=7∨o.k=8→av o.b o.a=0):=by
 unfold Qf at h
 have hp:aC o=true:=by
  cases e:aC o
  ·rw[e,if_pos rfl] at h;omega
  ·rfl
 rw[hp,if_neg (by decide)] at h;have hr:¬(o.r < -4∨o.r>4):=fun hr=>by rw[if_pos hr] at h;omega
 unfold aC uX at hp
 have hk:1≤o.k∧o.k≤8:=by
  refine Decidable.byContradiction fun hk=>?_;rw[if_neg (by omega),if_neg (by omega),if_neg (by omega),if_neg (by omega),if_neg (by omega)] at hp;cases hp
 refine⟨by omega,by omega,hk.1,hk.2,fun hk=>?_,fun hk=>?_,fun hk=>?_,fun hk=>?_⟩
 ·rw[if_pos hk] at hp;simp at hp;exact⟨hp.1,hp.2.2.1⟩
 ·rw[if_neg (by omega),if_pos hk] at hp;simp at hp;exact hp.2.2.1
 ·rw[if_neg (by omega),if_neg (by omega),if_neg (by omega),if_pos hk] at hp;simp at hp;exact⟨hp.1,hp.2.1,hp.2.2.1⟩
 ·rw[if_neg (by omega),if_neg (by omega),if_neg (by omega),if_neg (by omega),if_pos hk] at hp;simp at hp;exact hp.2.1
end Go.Iso.Gen
end
namespace Go.Iso
def anI:IObj:=.map [] 0
def Heap.off(H:Heap):List Nat→Heap
 | []=>H
 | x::l=>(Heap.off H l).put x anI
theorem iO(H:Heap):∀l,(H.off l).n=H.n
 | []=>rfl
 | x::l=>by rw[Heap.off,ai,iO H l]
theorem ig(H:Heap)(b:Nat):∀l,(H.off l).get b=if b∈l then some anI else H.get b
 | []=>by simp[Heap.off]
 | x::l=>by
   rw[Heap.off,ae,ig H b l];by_cases h:x=b
   ·rw[if_pos h,if_pos (by simp[h])]
   ·rw[if_neg h];have e:(b∈x::l)=(b∈l):=by simp[Ne.symm h]
    simp only[e]
theorem Fv{H:Heap}{ow:List Nat}{b:Nat}{o:IObj}(h:(H.off ow).get b=some o)(ho:o≠anI):b∉ow∧H.get b=some o:=by
 rw[ig] at h;by_cases hb:b∈ow
 ·rw[if_pos hb] at h;exact absurd (tC h).symm ho
 ·rw[if_neg hb] at h;exact⟨hb,h⟩
def KeepO(ow:List Nat)(H H':Heap):Prop:=H.n≤H'.n∧∀x,x < H.n→x∉ow→H'.get x=H.get x
theorem KeepO.refl(ow:List Nat)(H:Heap):KeepO ow H H:=⟨au _,fun _ _ _=>rfl⟩
theorem KeepO.of{ow:List Nat}{H H':Heap}(k:Keep H.n H H'):KeepO ow H H':=⟨k.1,fun x h _=>k.2 x h h⟩
theorem KeepO.trans{ow ow':List Nat}{a b c:Heap}(h:KeepO ow a b)(k:KeepO ow' b c)(ho:∀x∈ow',x∈ow∨a.n≤x):KeepO ow a c:=
 ⟨dr h.1 k.1,fun x h1 h2=>(k.2 x (du h1 h.1) fun hx=>by rcases ho x hx with h3 | h3<;>first | exact h2 h3 | omega).trans (h.2 x h1 h2)⟩
theorem KeepO.put{ow:List Nat}{H:Heap}{x:Nat}{o:IObj}(hx:x∈ow):KeepO ow H (H.put x o):=⟨au _,fun y _ hy=>by rw[ae,if_neg (by rintro rfl;exact hy hx)]⟩
theorem KeepO.mono{ow ow':List Nat}{H H':Heap}(k:KeepO ow H H')(h:∀x∈ow,x∈ow'):KeepO ow' H H':=⟨k.1,fun x h1 h2=>k.2 x h1 fun hx=>h2 (h x hx)⟩
theorem KeepO.off{ow ow':List Nat}{H H':Heap}(k:KeepO ow H H')(h:∀x∈ow,x∈ow')(h':∀x∈ow',x∈ow∨H.n≤x):Keep (H.off ow).n (H.off ow) (H'.off ow'):=by
 refine⟨by rw[iO,iO];exact k.1,fun x hx _=>?_⟩
 rw[iO] at hx;rw[ig,ig];by_cases h1:x∈ow
 ·rw[if_pos h1,if_pos (h x h1)]
 ·rw[if_neg h1,if_neg fun h2=>by rcases h' x h2 with h3 | h3<;>first | exact h1 h3 | omega];exact k.2 x hx h1
theorem KeepO.off'{ow:List Nat}{H H':Heap}(k:KeepO ow H H'):Keep (H.off ow).n (H.off ow) (H'.off ow):=k.off (fun _ h=>h) fun _ h=>.inl h
section
variable {α:Type}[Cell α]
theorem Sl.unoff{H:Heap}{ow:List Nat}{v:SV}{l:List α}(h:Sl (H.off ow) v l):Sl H v l:=by
 refine h.same (pP (iO _ _)) fun hl=>?_;obtain⟨ro,e,ez,cs,hg⟩:=h.cellsAt hl;rw[hg];exact(Fv hg (by intro e;cases e)).2
theorem Sl.onto{H:Heap}{ow:List Nat}{v:SV}{l:List α}(h:Sl H v l)(hb:l≠[]→v.blk∉ow):Sl (H.off ow) v l:=
 h.same (pP (iO _ _).symm) fun hl=>by rw[ig,if_neg (hb hl)]
theorem Sl2.unoff{H:Heap}{ow:List Nat}{v:SV}{ls:List (List α)}(h:Sl2 (H.off ow) v ls):Sl2 H v ls:=by
 obtain⟨vs,h1,h2,h3⟩:=h;exact⟨vs,h1.unoff,h2,fun i a b=>(h3 i a b).unoff⟩
theorem Own.keepO{H H':Heap}{ow:List Nat}{b e cap:Nat}{l:List α}(h:Own H b e cap l)(k:KeepO ow H H')(hb:b∉ow):Own H' b e cap l:=h.same k.1 (k.2 b h.2.1 hb)
def Tg(n0:Nat)(H:Heap)(e:Nat)(v:SV)(l:List α):Prop:=∃b ex,v=.sl b 0 l.length l.length ex∧n0≤b∧Own H b e l.length l
theorem Tg.sl{n0:Nat}{H:Heap}{e:Nat}{v:SV}{l:List α}(h:Tg n0 H e v l):Sl H v l:=by
 obtain⟨b,ex,rfl,_,h⟩:=h;exact h.sl ex
theorem Tg.same{n0:Nat}{H H':Heap}{e:Nat}{v:SV}{l:List α}(h:Tg n0 H e v l)(hn:H.n≤H'.n)(hg:H'.get v.blk=H.get v.blk):Tg n0 H' e v l:=by
 obtain⟨b,ex,rfl,h1,h⟩:=h;exact⟨b,ex,rfl,h1,h.same hn hg⟩
theorem Tg.lt{n0:Nat}{H:Heap}{e:Nat}{v:SV}{l:List α}(h:Tg n0 H e v l):v.blk < H.n∧n0≤v.blk:=by
 obtain⟨b,ex,rfl,h1,h⟩:=h;exact⟨h.2.1,h1⟩
theorem Tg.keepO{n0:Nat}{H H':Heap}{ow:List Nat}{e:Nat}{v:SV}{l:List α}(h:Tg n0 H e v l)(k:KeepO ow H H')(hb:v.blk∉ow):Tg n0 H' e v l:=h.same k.1 (k.2 _ h.lt.1 hb)
theorem Tg.push{n0:Nat}{H:Heap}{e:Nat}{v:SV}{l m:List α}(h:Tg n0 H e v l){u:SV}(hu:Sl H u m)(hm:m≠[]){z:Nat}(hz:Cell.z α=z)(bytes lo:Nat)(hlo:lo≤n0)(hn:n0≤H.n)(hb:(l.length+m.length)*(bytes+1)≤2^40):
  ∃H2 w,ev1 (.append e z bytes) [v.iv,u.iv] lo H=some (SV.iv w,H2)∧KeepO [v.blk] H H2∧Tg n0 H2 e w (l++m)∧w.blk=H.n:=by
 have hml:0 < m.length:=List.length_pos_iff.2 hm;obtain⟨b,ex,rfl,h2,h4⟩:=h
 cases ex with
 | true=>
   obtain⟨H2,e1,e2,e3,e4⟩:=nU (e:=e) (h4.sl true) hu hz bytes lo hm (by omega) hb;refine⟨H2,.sl H.n 0 (l++m).length (l++m).length false,by rw[aW];exact e1,KeepO.of e3,⟨H.n,false,rfl,hn,by rw[aW];exact e4⟩,rfl⟩
 | false=>
   obtain⟨H2,e1,e2,e3,e4⟩:=uS (n:=l.length) h4 rfl hu hz bytes lo hm hb (by omega);exact⟨H2,.sl H.n 0 (l++m).length (l++m).length false,by rw[aW];exact e1,⟨by omega,fun x h5 h6=>e3 x (fun e=>h6 (by rw[e];exact List.mem_singleton.2 rfl)) h5⟩,⟨H.n,false,rfl,hn,by rw[aW];exact e4⟩,rfl⟩
end
end Go.Iso
section
namespace Go.Iso.Gen
open Go.Iso
structure Yv where
 y:Yn
 v:SV
 deriving Inhabited
instance:Cell Yv where
 z:=5
 cs x:=mL x.y x.v
 len _:=rfl
 one x:=by simp only[mL,ll,tz,jx,oV,rI,rq]
 pos:=by omega
theorem uH(x:Yv):Cell.cs x=[.bool x.y.inn,.int .i64 x.y.place,.int .i64 x.y.count,.bool x.y.new,x.v.iv]:=rfl
theorem amv:Cell.z Yv=5:=rfl
structure Lp where
 bed:Int
 new:Bool
 thr:List Id
 past:List Ps
 deriving Inhabited,DecidableEq
structure Lv where
 p:Lp
 tv:SV
 pv:SV
 deriving Inhabited
instance:Cell Lv where
 z:=4
 cs x:=[.int .u8 x.p.bed,.bool x.p.new,x.tv.iv,x.pv.iv]
 len _:=rfl
 one x:=by simp only[ll,tz,jx,oV,rI,rq]
 pos:=by omega
theorem Dt:Cell.z Lv=4:=rfl
structure Mc where
 rack:Int
 t:List (List Id)
 ys:List Yn
 rows:List (List Lp)
 cr:List (Id×Id×Int)
 fa:List Id
 deriving Inhabited
structure Ly where
 yb:Nat
 tb:Nat
 cb:Nat
 f:SV
 b:SV
 yl:List Yv
 ws:List SV
 rl:List (List Lv)
 fv:SV
def Og(a b:Id):IV:=.agg [.int .u8 a.y,.int .i64 a.n,.int .u8 b.y,.int .i64 b.n]
def BornOk(es:List (IV×IV×Nat))(c:Nat):Prop:=(∀s∈es.map (·.2.2),s < c)∧(es.map (·.2.2)).Nodup
def CrM(H:Heap)(cb:Nat)(cr:List (Id×Id×Int)):Prop:=∃es c,H.get cb=some (.map es c)∧(es.map (fun e=>(e.1,e.2.1))=cr.map fun k=>(Og k.1 k.2.1,.int .i64 k.2.2))∧BornOk es c
structure MI(n0 mb:Nat)(H:Heap)(ow:List Nat)(L:Ly)(M:Mc):Prop where
 gm:H.get mb=some (.cells false 147 7 [.int .i64 M.rack,L.f.iv,L.b.iv,.slice L.yb 0 6 6 true,.slice L.tb 0 6 6 true,.map L.cb,L.fv.iv])
 rk: -4≤M.rack∧M.rack≤4
 gy:Own H L.yb 133 6 L.yl
 yn:L.yl.length=6
 ym:L.yl.map (·.y)=M.ys
 yd:∀x∈L.yl,Sl (H.off ow) x.v x.y.pend
 yo:∀y∈M.ys,OkY y
 bf:Sl2 (H.off ow) L.f (aQ M.t)
 bb:Sl2 (H.off ow) L.b (aI M.t)
 bv:Valid M.t
 gt:Own H L.tb 140 6 L.ws
 wn:L.ws.length=6
 rn:L.rl.length=6
 rg:∀(i:Nat) (h:i < L.ws.length) (h':i < L.rl.length),Tg n0 H 158 L.ws[i] L.rl[i]
 rx:∀(i j:Nat) (h:i < L.ws.length) (h':j < L.ws.length),L.ws[i].blk=L.ws[j].blk→i=j
 rd:∀r∈L.rl,∀x∈r,Sl (H.off ow) x.tv x.p.thr∧Sl (H.off ow) x.pv x.p.past
 rm:L.rl.map (·.map (·.p))=M.rows
 gc:CrM H L.cb M.cr
 gf:Tg n0 H 138 L.fv M.fa
 om:mb∈ow
 oy:L.yb∈ow
 ot:L.tb∈ow
 oc:L.cb∈ow
 orw:∀w∈L.ws,w.blk∈ow
 of:L.fv.blk∈ow
 lo:∀x∈ow,n0≤x∧x < H.n
section
variable {n0 mb:Nat}{H:Heap}{ow:List Nat}{L:Ly}{M:Mc}
theorem MI.ysn(h:MI n0 mb H ow L M):M.ys.length=6:=by rw[←h.ym,mD,h.yn]
theorem MI.keep(h:MI n0 mb H ow L M){H':Heap}(k:Keep H.n H H'):MI n0 mb H' ow L M:=by
 have kb:KeepO ow H H':=KeepO.of k;have ko:=kb.off';have hg:∀x,x < H.n→H'.get x=H.get x:=fun x hx=>k.2 x hx hx;obtain⟨es,c,h1,h2⟩:=h.gc
 exact{gm:=(hg _ (h.lo _ h.om).2).trans h.gm,rk:=h.rk,gy:=h.gy.keep k,yn:=h.yn,ym:=h.ym,yd:=fun x hx=>(h.yd x hx).keep ko,yo:=h.yo,bf:=h.bf.keep ko,bb:=h.bb.keep ko,bv:=h.bv,
       gt:=h.gt.keep k,wn:=h.wn,rn:=h.rn,rg:=fun i a b=>(h.rg i a b).same k.1 (hg _ (h.rg i a b).lt.1),rx:=h.rx,rd:=fun r hr x hx=>⟨(h.rd r hr x hx).1.keep ko,(h.rd r hr x hx).2.keep ko⟩,rm:=h.rm,
       gc:=⟨es,c,(hg _ (h.lo _ h.oc).2).trans h1,h2⟩,gf:=h.gf.same k.1 (hg _ h.gf.lt.1),om:=h.om,oy:=h.oy,ot:=h.ot,oc:=h.oc,orw:=h.orw,of:=h.of,lo:=fun x hx=>⟨(h.lo x hx).1,du (h.lo x hx).2 k.1⟩}
end
open Go.Iso
section
variable {n0 mb:Nat}{H:Heap}{ow:List Nat}{L:Ly}{M:Mc}
theorem MI.fullY(h:MI n0 mb H ow L M):H.get L.yb=some (.cells false 133 5 (aD L.yl)):=by
 have:=h.gy
 rw[←h.yn] at this;exact this.full
theorem MI.readY(h:MI n0 mb H ow L M){i:Nat}(hi:i < L.yl.length):H.read L.yb (i*5) 5=some (Cell.cs L.yl[i]):=by
 have:=(h.gy.sl true).read amv i hi
 simpa [SV.blk,SV.off] using this
theorem MI.ysI(h:MI n0 mb H ow L M){i:Nat}(hi:i < L.yl.length)(hi':i < M.ys.length):L.yl[i].y=M.ys[i]:=by
 have e:=h.ym
 have:(L.yl.map (·.y))[i]'(by rw[mD];exact hi)=M.ys[i]:=by simp only[e]
 rw[List.getElem_map] at this;exact this
theorem MI.setY(h:MI n0 mb H ow L M){i:Nat}(hi:i < 6){y:Yn}{v:SV}(hy:OkY y)(hv:Sl (H.off ow) v y.pend):
  MI n0 mb (H.put L.yb (.cells false 133 5 (aA (aD L.yl) (i*5) [.bool y.inn,.int .i64 y.place,.int .i64 y.count,.bool y.new,v.iv]))) ow {L with yl:=L.yl.set i ⟨y,v⟩} {M with ys:=M.ys.set i y}:=by
 have hil:i < L.yl.length:=by rw[h.yn];exact hi
 have gy:=h.gy;rw[←h.yn] at gy;have g2:=Own.put gy amv i hil (⟨y,v⟩:Yv);generalize hob:IObj.cells false 133 5 (aA (aD L.yl) (i*5) [.bool y.inn,.int .i64 y.place,.int .i64 y.count,.bool y.new,v.iv])=ob;rw[uH,hob,h.yn] at g2;have kb:KeepO ow H (H.put L.yb ob):=KeepO.put h.oy;have ko:=kb.off';have hg:∀x,x≠L.yb→(H.put L.yb ob).get x=H.get x:=fun x hx=>by rw[ae,if_neg (Ne.symm hx)]
 have e1:mb≠L.yb:=fun e=>by have:=h.gm;rw[e,h.fullY] at this;cases this
 have e2:L.tb≠L.yb:=fun e=>by obtain⟨_,_,r,h3,_⟩:=h.gt;rw[e,h.fullY] at h3;cases h3
 have e3:L.fv.blk≠L.yb:=fun e=>by
  obtain⟨b,ex,h1,_,_,_,r,h3,_⟩:=h.gf;rw[h1] at e;have e:b=L.yb:=e;rw[e,h.fullY] at h3;cases h3
 obtain⟨es,c,h1,h2⟩:=h.gc;have e4:L.cb≠L.yb:=fun e=>by rw[e,h.fullY] at h1;cases h1
 have e5:∀(j:Nat) (h1:j < L.ws.length),L.ws[j].blk≠L.yb:=fun j h1 e=>by
  obtain⟨b,ex,h4,_,_,_,r,h3,_⟩:=h.rg j h1 (by rw[h.rn];rw[h.wn] at h1;exact h1);rw[h4] at e;have e:b=L.yb:=e;rw[e,h.fullY] at h3;cases h3
 exact{gm:=(hg _ e1).trans h.gm,rk:=h.rk,gy:=g2,yn:=by show(L.yl.set i _).length=6;rw[bQ,h.yn],
       ym:=by show(L.yl.set i _).map _=M.ys.set i y;rw[List.map_set,h.ym],
       yd:=fun x hx=>by
        rcases mX hx with hx | rfl
        ·exact(h.yd x hx).keep ko
        ·exact hv.keep ko
       yo:=fun x hx=>by
        rcases mX hx with hx | rfl
        ·exact h.yo x hx
        ·exact hy
       bf:=h.bf.keep ko,bb:=h.bb.keep ko,bv:=h.bv,
       gt:=h.gt.same (au _) (hg _ e2),wn:=h.wn,rn:=h.rn,rg:=fun j a b=>(h.rg j a b).same (au _) (hg _ (e5 j a)),rx:=h.rx,
       rd:=fun r hr x hx=>⟨(h.rd r hr x hx).1.keep ko,(h.rd r hr x hx).2.keep ko⟩,rm:=h.rm,
       gc:=⟨es,c,(hg _ e4).trans h1,h2⟩,gf:=h.gf.same (au _) (hg _ e3),om:=h.om,oy:=h.oy,ot:=h.ot,oc:=h.oc,orw:=h.orw,of:=h.of,lo:=h.lo}
end
def MQ(n0 mb:Nat)(H:Heap)(ow:List Nat)(r:Except Int Mc)(Q:Out→Heap→Prop):Prop:=
 (∀e H',r=.error e→KeepO ow H H'→Q (.val (.int .i64 e)) H')∧
 ∀M' H' ow' L',r=.ok M'→KeepO ow H H'→(∀x∈ow,x∈ow')→(∀x∈ow',x∈ow∨H.n≤x)→MI n0 mb H' ow' L' M'→Q (.val (.int .i64 0)) H'
def inM(M:Mc)(o:Opn):Except Int Mc:=
 if (M.ys.getD (o.y - 1).toNat od).inn=true then .error 12 else .ok {M with ys:=M.ys.set (o.y - 1).toNat (ny (M.ys.getD (o.y - 1).toNat od) o.d)}
theorem apL{n0 mb:Nat}{H:Heap}{ow:List Nat}{L:Ly}{M:Mc}(h:MI n0 mb H ow L M){o:Opn}(hd:o.d=0∨o.d=1)(hy:1≤o.y∧o.y≤6){lo:Nat}{Q:Out→Heap→Prop}(hlo:lo≤n0)(hn:n0≤H.n)
  (hq:MQ n0 mb H ow (inM M o) Q):W E0 lo (.call 69 [.ptr mb 0,.agg [.int .u8 o.k,.int .u8 o.d,.int .u8 o.b,.int .i64 o.a,.int .u8 o.y,.int .i64 o.r]]) H Q:=by
 obtain⟨i,hi⟩:∃i:Nat,o.y=(i:Int)+1:=⟨(o.y - 1).toNat,by omega⟩
 have hi6:i < 6:=by omega
 have hyl:i < L.yl.length:=by rw[h.yn];exact hi6
 have hys:i < M.ys.length:=by rw[h.ysn];exact hi6
 have ei:o.y - 1=(i:Int):=by omega
 have hlt:=h.lo _ h.om;rw[c69];have rm:=af h.gm;have ry:=h.readY hyl;rw[uH] at ry
 have he:inM M o=if L.yl[i].y.inn=true then .error 12 else .ok {M with ys:=M.ys.set i (ny L.yl[i].y o.d)}:=by
  unfold inM;rw[show(o.y - 1).toNat=i by omega,ij,ca hys,gQ,h.ysI hyl hys]
 rw[he] at hq;clear he;have ej:(i:Int)+1 - 1=(i:Int):=by omega
 have hlty:=h.lo _ h.oy;simp(disch:=omega) only[ak,↓aj,seval,B69,rm,ry,hi,ej,ff,show ¬H.n=L.yb by omega,show ¬H.n=mb by omega,↓FR,FW];have hmem:L.yl[i].y∈M.ys:=by rw[h.ysI hyl hys];exact bm _
 have hok:=h.yo _ hmem;have hv:=(h.yd _ (bm hyl)).unoff;have k1:Keep H.n H (H.new (.cells false 56 6 [.int .u8 o.k,.int .u8 o.d,.int .u8 o.b,.int .i64 o.a,.int .u8 ((i:Int)+1),.int .i64 o.r])):=.new _ _;refine Rf hok hd (hv.keep k1) (by rw[ac];omega) fun H2 k2=>?_;have kk:Keep H.n H H2:=k1.trans (k2.lower (by rw[ac];omega));have hn2:=k2.1;rw[ac] at hn2;have g0:=k2.2 H.n (by rw[ac];omega) (by rw[ac];omega);rw[al,if_pos rfl] at g0;have r0:=af g0;have h2:=h.keep kk;have rm2:=af h2.gm;clear rm ry k1 k2 hv;by_cases hin:L.yl[i].y.inn=true
 ·rw[if_pos hin] at hq;rw[if_pos hin];simp(disch:=omega) only[ak,↓aj,seval,B69,rm2,r0,mL,↓FR,FW];exact hq.1 12 _ rfl (KeepO.of (kk.trans (Keep.newPut.lower (by omega))))
 ·rw[if_neg hin] at hq;rw[if_neg hin];have gy2:=h2.fullY;have hfl:(aD L.yl).length=30:=by rw[aw,h.yn];rfl
  simp(disch:=omega) only[ak,↓aj,seval,B69,rm2,r0,gy2,hfl,mL,ej,ff,show ¬H.n=L.yb by omega,show ¬H.n=mb by omega,show ¬H2.n=L.yb by omega,show ¬H2.n=mb by omega,show ¬H2.n=H.n by omega,↓FR,FW]
  have h3:=h2.keep (Keep.newPut (o:=.cells false 133 5 [.bool false,.int .i64 0,.int .i64 0,.bool false,.nilSlice]) (o':=.cells false 133 5 [.bool (ny L.yl[i].y o.d).inn,.int .i64 (ny L.yl[i].y o.d).place,.int .i64 (ny L.yl[i].y o.d).count,.bool (ny L.yl[i].y o.d).new,.nilSlice]));have h4:=h3.setY hi6 (NH hok o.d) (v:=.nil) (Sl.empty:Sl _ .nil ([]:List Ps));exact hq.2 _ _ ow _ rfl ((KeepO.of (kk.trans (Keep.newPut.lower (by omega)))).trans (KeepO.put h.oy) fun x hx=>.inl hx) (fun _ hx=>hx) (fun _ hx=>.inl hx) h4
open Go.Iso
def NE(M:Mc)(o:Opn):Except Int Mc:=
 if (M.ys.getD (o.y - 1).toNat od).inn=true then .ok {M with ys:=M.ys.set (o.y - 1).toNat (ng (M.ys.getD (o.y - 1).toNat od))} else .error 12
theorem am4{n0 mb:Nat}{H:Heap}{ow:List Nat}{L:Ly}{M:Mc}(h:MI n0 mb H ow L M){o:Opn}(hy:1≤o.y∧o.y≤6){lo:Nat}{Q:Out→Heap→Prop}(hlo:lo≤n0)(hn:n0≤H.n)
  (hq:MQ n0 mb H ow (NE M o) Q):W E0 lo (.call 70 [.ptr mb 0,.agg [.int .u8 o.k,.int .u8 o.d,.int .u8 o.b,.int .i64 o.a,.int .u8 o.y,.int .i64 o.r]]) H Q:=by
 obtain⟨i,hi⟩:∃i:Nat,o.y=(i:Int)+1:=⟨(o.y - 1).toNat,by omega⟩
 have hi6:i < 6:=by omega
 have hyl:i < L.yl.length:=by rw[h.yn];exact hi6
 have hys:i < M.ys.length:=by rw[h.ysn];exact hi6
 have ei:o.y - 1=(i:Int):=by omega
 have hlt:=h.lo _ h.om;rw[c70];have rm:=af h.gm;have ry:=h.readY hyl;rw[uH] at ry
 have he:NE M o=if L.yl[i].y.inn=true then .ok {M with ys:=M.ys.set i (ng L.yl[i].y)} else .error 12:=by
  unfold NE;rw[show(o.y - 1).toNat=i by omega,ij,ca hys,gQ,h.ysI hyl hys]
 rw[he] at hq;clear he;have ej:(i:Int)+1 - 1=(i:Int):=by omega
 have hlty:=h.lo _ h.oy;simp(disch:=omega) only[ak,↓aj,seval,B70,rm,ry,hi,ej,ff,show ¬H.n=L.yb by omega,show ¬H.n=mb by omega,↓FR,FW];have hmem:L.yl[i].y∈M.ys:=by rw[h.ysI hyl hys];exact bm _
 have hok:=h.yo _ hmem;have hv:=(h.yd _ (bm hyl)).unoff;have k1:Keep H.n H (H.new (.cells false 56 6 [.int .u8 o.k,.int .u8 o.d,.int .u8 o.b,.int .i64 o.a,.int .u8 ((i:Int)+1),.int .i64 o.r])):=.new _ _;refine Qz hok (hv.keep k1) (by rw[ac];omega) fun H2 k2=>?_;have kk:Keep H.n H H2:=k1.trans (k2.lower (by rw[ac];omega));have hn2:=k2.1;rw[ac] at hn2;have g0:=k2.2 H.n (by rw[ac];omega) (by rw[ac];omega);rw[al,if_pos rfl] at g0;have r0:=af g0;have h2:=h.keep kk;have rm2:=af h2.gm;clear rm ry k1 k2 hv;by_cases hin:L.yl[i].y.inn=true
 ·rw[if_pos hin] at hq;rw[if_pos hin];have gy2:=h2.fullY;have hfl:(aD L.yl).length=30:=by rw[aw,h.yn];rfl
  simp(disch:=omega) only[ak,↓aj,seval,B70,rm2,r0,gy2,hfl,mL,ej,ff,show ¬H.n=L.yb by omega,show ¬H.n=mb by omega,show ¬H2.n=L.yb by omega,show ¬H2.n=mb by omega,show ¬H2.n=H.n by omega,↓FR,FW]
  have h3:=h2.keep (Keep.newPut (o:=.cells false 133 5 [.bool false,.int .i64 0,.int .i64 0,.bool false,.nilSlice]) (o':=.cells false 133 5 [.bool (ng L.yl[i].y).inn,.int .i64 (ng L.yl[i].y).place,.int .i64 (ng L.yl[i].y).count,.bool (ng L.yl[i].y).new,.nilSlice]));have h4:=h3.setY hi6 (NG hok) (v:=.nil) (Sl.empty:Sl _ .nil ([]:List Ps));exact hq.2 _ _ ow _ rfl ((KeepO.of (kk.trans (Keep.newPut.lower (by omega)))).trans (KeepO.put h.oy) fun x hx=>.inl hx) (fun _ hx=>hx) (fun _ hx=>.inl hx) h4
 ·rw[if_neg hin] at hq;rw[if_neg hin];simp(disch:=omega) only[ak,↓aj,seval,B70,rm2,r0,mL,↓FR,FW];exact hq.1 12 _ rfl (KeepO.of (kk.trans (Keep.newPut.lower (by omega))))
theorem BP{b a r:Int}(hn:av b a=0)(hr: -4≤r∧r≤4): -12≤aH b a r∧aH b a r≤178∧(aH b a r).tmod 2=0:=by
 unfold av at hn;by_cases h1:(b=0∨b=1)∧1≤a∧a≤40
 ·unfold aH;split
  ·split<;>refine⟨by omega,by omega,?_⟩
   ·rw[show 4*a+2=2*(2*a+1) by omega,Int.mul_tmod_right]
   ·rw[show 4*(a+r)=2*(2*(a+r)) by omega,Int.mul_tmod_right]
  ·exact⟨by omega,by omega,by rfl⟩
 ·rw[if_neg h1] at hn;omega
def iT(M:Mc)(o:Opn):Except Int (Int×Int):=
 if (M.ys.getD (o.y - 1).toNat od).inn=false then .error 12
 else if o.d=1 then(if (M.ys.getD (o.y - 1).toNat od).place>aH o.b o.a M.rack then .error 12 else .ok (aH o.b o.a M.rack+1,aH o.b o.a M.rack))
 else if (M.ys.getD (o.y - 1).toNat od).place < aH o.b o.a M.rack then .error 12 else .ok (aH o.b o.a M.rack - 1,aH o.b o.a M.rack)
theorem tV{n0 mb:Nat}{H:Heap}{ow:List Nat}{L:Ly}{M:Mc}(h:MI n0 mb H ow L M){o:Opn}(hd:o.d=0∨o.d=1)(hne:av o.b o.a=0)(hy:1≤o.y∧o.y≤6){lo:Nat}{Q:Out→Heap→Prop}(hlo:lo≤H.n)
  (he:∀e H',Keep H.n H H'→iT M o=.error e→Q (.val (.tuple [.int .i64 0,.int .i64 0,.int .i64 e])) H')
  (hq:∀p s H',Keep H.n H H'→iT M o=.ok (p,s)→Q (.val (.tuple [.int .i64 p,.int .i64 s,.int .i64 0])) H'):
  W E0 lo (.call 125 [.ptr mb 0,.agg [.int .u8 o.k,.int .u8 o.d,.int .u8 o.b,.int .i64 o.a,.int .u8 o.y,.int .i64 o.r]]) H Q:=by
 refine W.pure bu hlo ?_;obtain⟨i,hi⟩:∃i:Nat,o.y=(i:Int)+1:=⟨(o.y - 1).toNat,by omega⟩;have hi6:i < 6:=by omega
 have hyl:i < L.yl.length:=by rw[h.yn];exact hi6
 have hys:i < M.ys.length:=by rw[h.ysn];exact hi6
 have hlt:=h.lo _ h.om;have rm:=af h.gm;have ry:=h.readY hyl;rw[uH] at ry;obtain⟨s,hs⟩:∃s,aH o.b o.a M.rack=s:=⟨_,rfl⟩;have hsb:=BP hne h.rk;rw[hs] at hsb;unfold iT at he hq;rw[show(o.y - 1).toNat=i by omega,ij,ca hys,gQ,←h.ysI hyl hys,hs] at he hq;have ej:(i:Int)+1 - 1=(i:Int):=by omega
 have hlty:=h.lo _ h.oy;rw[avE];simp(disch:=omega) only[ak,↓aj,seval,OC,rm,ry,hi,ej,ff,show ¬H.n=L.yb by omega,show ¬H.n=mb by omega,↓FR,FW];have k1:Keep H.n H (H.new (.cells false 56 6 [.int .u8 o.k,.int .u8 o.d,.int .u8 o.b,.int .i64 o.a,.int .u8 ((i:Int)+1),.int .i64 o.r])):=.new _ _;refine oL o.b o.a M.rack (by rw[ac];omega) fun H2 k2=>?_;rw[hs];have hn2:=k2.1;rw[ac] at hn2;have g0:=k2.2 H.n (by rw[ac];omega) (by rw[ac];omega);rw[al,if_pos rfl] at g0;have r0:=af g0;clear rm ry k1 k2 hs hlty hlt;by_cases hin:L.yl[i].y.inn=true
 ·rw[if_neg (by rw[hin];decide)] at he hq;rcases hd with hd | hd
  ·rw[if_neg (by omega)] at he hq;by_cases hp:L.yl[i].y.place < s
   ·rw[if_pos hp] at he hq;simp(disch:=omega) only[ak,↓aj,seval,OC,r0,hin,hd,↓FR,FW];exact fun hk=>he 12 _ hk rfl
   ·rw[if_neg hp] at he hq;simp(disch:=omega) only[ak,↓aj,seval,OC,r0,hin,hd,↓FR,FW];exact fun hk=>hq _ _ _ hk rfl
  ·rw[if_pos hd] at he hq;by_cases hp:L.yl[i].y.place>s
   ·rw[if_pos hp] at he hq;simp(disch:=omega) only[ak,↓aj,seval,OC,r0,hin,hd,↓FR,FW];exact fun hk=>he 12 _ hk rfl
   ·rw[if_neg hp] at he hq;simp(disch:=omega) only[ak,↓aj,seval,OC,r0,hin,hd,↓FR,FW];exact fun hk=>hq _ _ _ hk rfl
 ·have hin:L.yl[i].y.inn=false:=by simpa using hin
  rw[if_pos hin] at he hq;simp(disch:=omega) only[ak,↓aj,seval,OC,r0,hin,↓FR,FW];exact fun hk=>he 12 _ hk rfl
def j7(M:Mc):List Hd:=bU (aQ M.t) (aI M.t) M.rack
theorem Valid.len6{t:List (List Id)}(h:Valid t):(∀l∈aQ t,l.length≤1000000)∧(∀l∈aI t,l.length≤1000000):=
 ⟨fun l hl=>by have:=h.four l (fl hl);omega,fun l hl=>by have:=h.four l (dw hl);omega⟩
theorem Qs{n0 mb:Nat}{H:Heap}{ow:List Nat}{L:Ly}{M:Mc}(h:MI n0 mb H ow L M){lo:Nat}{Q:Out→Heap→Prop}(hlo:lo≤H.n)
  (hq:∀H' v,Keep H.n H H'→Fresh H.n H' 204 v (j7 M)→(j7 M).length≤320→Q (.val (.tuple [v.iv,.int .i64 0])) H'):W E0 lo (.call 119 [bv L.f L.b,.int .i64 M.rack]) H Q:=by
 have hr:eQ M.rack=true:=rackB_iff.2 h.rk;have hc:=h.bv.check;have hF:=jO M.t;have hB:=hZ h.bv.len;obtain⟨h6,h6'⟩:=h.bv.len6;have ho:bM (aQ M.t) (aI M.t) M.rack=0:=by unfold bM;rw[hc,hr];simp
 refine yp M.rack h.bf.unoff h.bb.unoff (by omega) (by omega) h6 h6' hlo (fun H' _ hne=>absurd ho hne) fun H' v l k _ hf hp hs=>?_;rw[rH hc hr hp hs] at hf;have h4:∀x∈aQ M.t,x.length≤4:=fun l hl=>h.bv.four l (fl hl);have h4':∀x∈aI M.t,x.length≤4:=fun l hl=>h.bv.four l (dw hl);have hl:=hp.length_eq;have e1:=lx hF h4;have e2:=lx hB h4';rw[jq,rH hc hr hp hs] at hl;exact hq H' v k hf (by unfold j7;omega)
theorem Q0{M:Mc}(hv:Valid M.t)(hr:eQ M.rack=true):∀x∈j7 M,bI x.id=true:=by
 intro x hx;obtain⟨i,hi,hx⟩:=(uB hr).1 hx;obtain⟨j,hj,rfl⟩:=stackH_mem.1 hx;have hm:=bm hj
 show bI (mF (aQ M.t) (aI M.t) (nB i) (nA i))[j]=true
 generalize (mF (aQ M.t) (aI M.t) (nB i) (nA i))[j]=a at hm⊢;by_cases hn:av (nB i) (nA i)=0
 ·rw[jd M.t hn] at hm;refine hv.named a (List.mem_flatten.2 ?_);rw[ij] at hm;by_cases hk:ix (nB i) (nA i) < M.t.length
  ·rw[ca hk,gQ] at hm;exact⟨_,bm hk,hm⟩
  ·rw[ji (by omega),x8] at hm;cases hm
 ·rw[RH _ _ hn] at hm;cases hm
theorem anP{M:Mc}(hv:Valid M.t)(hr:eQ M.rack=true)(a b:Int):∀p∈sI (j7 M) a b,OkP p:=by
 intro p hp;refine⟨?_,?_⟩
 ·have hb:∀low high d,p∈mt (j7 M) low high d→bI p.id=true:=fun low high d h=>by
   obtain⟨x,hx,rfl⟩:=List.mem_map.1 h;exact Q0 hv hr x (List.mem_filter.1 hx).1
  unfold sI at hp;split at hp
  ·exact hb _ _ _ hp
  ·exact hb _ _ _ (List.mem_reverse.1 hp)
 ·have:=RB _ _ _ p hp
  rw[this];split<;>simp
def mr(M:Mc)(yn p en:Int):Except Int Mc:=
 if (M.ys.getD (yn - 1).toNat od).inn=false then .error 12
 else if 4096 < (nm (M.ys.getD (yn - 1).toNat od) p (sI (j7 M) (M.ys.getD (yn - 1).toNat od).place en)).pend.length then .error 3
 else .ok {M with ys:=M.ys.set (yn - 1).toNat (nm (M.ys.getD (yn - 1).toNat od) p (sI (j7 M) (M.ys.getD (yn - 1).toNat od).place en))}
theorem zg{n0 mb:Nat}{H:Heap}{ow:List Nat}{L:Ly}{M:Mc}(h:MI n0 mb H ow L M){yn p en:Int}(hp:yq p=true)(hy:1≤yn∧yn≤6){lo:Nat}{Q:Out→Heap→Prop}(hlo:lo≤n0)(hn:n0≤H.n)
  (hq:MQ n0 mb H ow (mr M yn p en) Q):W E0 lo (.call 126 [.ptr mb 0,.int .u8 yn,.int .i64 p,.int .i64 en]) H Q:=by
 obtain⟨i,rfl⟩:∃i:Nat,yn=(i:Int)+1:=⟨(yn - 1).toNat,by omega⟩
 have hi6:i < 6:=by omega
 have hyl:i < L.yl.length:=by rw[h.yn];exact hi6
 have hys:i < M.ys.length:=by rw[h.ysn];exact hi6
 have ej:(i:Int)+1 - 1=(i:Int):=by omega
 unfold mr at hq;rw[ej,ff,ij,ca hys,gQ,←h.ysI hyl hys] at hq;have hlt:=h.lo _ h.om;have rm:=af h.gm;rw[avD];simp(disch:=omega) only[ak,↓aj,seval,acW,rm,aq,↓FR,FW];refine Qs h (by omega) fun H2 v k2 f2 hl2=>?_;have h2:=h.keep k2;have hn2:=k2.1;have rm2:=af h2.gm;have ry2:=h2.readY hyl;rw[uH] at ry2;have hlty:=h.lo _ h.oy;clear rm;simp(disch:=omega) only[ak,↓aj,seval,acW,rm2,ry2,ej,ff,↓FR,FW];have hmem:L.yl[i].y∈M.ys:=by rw[h.ysI hyl hys];exact bm _
 have hok:=h.yo _ hmem;have hr:eQ M.rack=true:=rackB_iff.2 h.rk;have k3:Keep H2.n H2 ((H2.new (.cells false 133 5 [.bool false,.int .i64 0,.int .i64 0,.bool false,.nilSlice])).put H2.n (.cells false 133 5 [.bool L.yl[i].y.inn,.int .i64 L.yl[i].y.place,.int .i64 L.yl[i].y.count,.bool L.yl[i].y.new,L.yl[i].v.iv])):=Keep.newPut;refine Hg L.yl[i].y.place en (f2.sl.keep k3) (by omega) (by rw[ai,ac];omega) fun H3 w k4 f3=>?_;have g4:=k4.2 H2.n (by rw[ai,ac];omega) (by rw[ai,ac];omega);rw[ae,if_pos rfl] at g4;have hn3:=k4.1;rw[ai,ac] at hn3;have k5:Keep H2.n H2 H3:=k3.trans (k4.lower (by rw[ai,ac];omega));have k6:Keep H.n H H3:=k2.trans (k5.lower hn2);have h3:=h.keep k6;have hv3:=(h3.yd _ (bm hyl)).unoff;have hbl:=RA (j7 M) L.yl[i].y.place en;have hbo:=anP h.bv hr L.yl[i].y.place en;have su3:=f3.sl;generalize sI (j7 M) L.yl[i].y.place en=bl at *;clear k2 k3 k4 k5 rm2 ry2 f2 f3 h2;simp(disch:=omega) only[ak,↓aj,seval,acW,↓FR,FW];refine afS hok hp hv3 su3 (by omega) hbo (by omega) (fun H4 e k7 hc=>?_) fun H4 b4 k7 hin hle hb4 o4=>?_
 ·have hq':MQ n0 mb H ow (.error e) Q:=by
   rcases hc with⟨h1,rfl⟩ | ⟨h1,h2,rfl⟩
   ·rw[if_pos h1] at hq;exact hq
   ·rw[if_neg (by rw[h1];decide),if_pos h2] at hq;exact hq
  have hz:¬e=0:=by rcases hc with⟨_,rfl⟩ | ⟨_,_,rfl⟩<;>decide
  have hn4:=k7.1;clear hq hc h3 su3 hv3;simp(disch:=omega) only[ak,↓aj,seval,acW,mL,↓FR,FW];exact hq'.1 e _ rfl (KeepO.of ((k6.trans (k7.lower (by omega))).trans (Keep.newPut.lower (by omega))))
 ·rw[if_neg (by rw[hin];decide),if_neg (by omega)] at hq;have h4:=h3.keep k7;have hn4:=k7.1;have k8:Keep H.n H H4:=k6.trans (k7.lower (by omega));have rm4:=af h4.gm;have gy4:=h4.fullY;have hfl:(aD L.yl).length=30:=by rw[aw,h.yn];rfl
  have ho5:=Ql hok hp hin hbo hle;have hb5:b4∉ow:=fun hx=>by have:=(h.lo _ hx).2;omega
  have h5:=h4.keep (Keep.newPut (o:=.cells false 133 5 [.bool false,.int .i64 0,.int .i64 0,.bool false,.nilSlice]) (o':=.cells false 133 5 [.bool (nm L.yl[i].y p bl).inn,.int .i64 (nm L.yl[i].y p bl).place,.int .i64 (nm L.yl[i].y p bl).count,.bool (nm L.yl[i].y p bl).new,.slice b4 0 (nm L.yl[i].y p bl).pend.length (nm L.yl[i].y p bl).pend.length true]));have h6:=h5.setY hi6 ho5 (v:=.sl b4 0 (nm L.yl[i].y p bl).pend.length (nm L.yl[i].y p bl).pend.length true) (((o4.keep Keep.newPut).sl true).onto fun _=>hb5);clear h3 su3 hv3 h5 o4;simp(disch:=omega) only[ak,↓aj,seval,acW,rm4,gy4,hfl,mL,ej,ff,show ¬H4.n=L.yb by omega,show ¬H4.n=mb by omega,↓FR,FW];exact hq.2 _ _ ow _ rfl ((KeepO.of (k8.trans (Keep.newPut.lower (by omega)))).trans (KeepO.put h.oy) fun x hx=>.inl hx) (fun _ hx=>hx) (fun _ hx=>.inl hx) h6
theorem te{α:Type}(ls:List (List α))(i:Nat)(hi:i < ls.length):(ls.take (i+1)).flatten.length=(ls.take i).flatten.length+ls[i].length:=by
 rw[fg hi,iq,aW];simp
theorem lN{α:Type}(ls:List (List α))(i:Nat):(ls.take i).flatten.length≤ls.flatten.length:=by
 have:=congrArg List.length (congrArg List.flatten (rA i ls))
 rw[iq,aW] at this;omega
def anE(tm:List IV)(h:tm.length=18):=(ch tm 18 h).trans (by simp only[List.range,List.range.loop,bB,bc];exact rfl)
theorem NT{v:SV}{ls:List (List Lv)}{H:Heap}{lo:Nat}{Q:Out→Heap→Prop}(hv:Sl2 H v ls)(hn:ls.length≤1000)(hl:ls.flatten.length≤1000000)(hlo:lo≤H.n)
  (h:∀H',Keep H.n H H'→Q (.val (.int .i64 (ls.flatten.length:Nat))) H'):W E0 lo (.call 161 [v.iv]) H Q:=by
 refine gS _ hlo h fun R hR=>?_;rw[ap2];simp(disch:=omega) only[ak,↓aj,seval,ard,↓hv.ln];refine aO (fun k fr H'=>∃i,i+k=ls.length∧Keep H.n H H'∧fr.marks=[]∧fr.tm.length=18∧fr.tm.getD 3 IV.undef=.int .i64 ((ls.take i).flatten.length:Nat)∧fr.tm.getD 6 IV.undef=v.iv∧fr.tm.getD 7 IV.undef=.int .i64 ls.length∧fr.tm.getD 8 IV.undef=.int .i64 i) ?_ ls.length ⟨0,by omega,Keep.refl _ _,rfl,rfl,rfl,rfl,rfl,rfl⟩;rintro k ⟨tm,mk⟩ H' ⟨i,hik,hk,rfl,htm,t3,t6,t7,t8⟩ L hN hJ;have hv':=hv.keep hk;rw[anE tm htm,t3,t6,t7,t8];by_cases hi:i < ls.length
 ·obtain⟨w,hw,hs,_⟩:=hv'.elem i hi;have e1:=te ls i hi;have e2:=lN ls (i+1);simp only[lj] at hw;simp(disch:=omega) only[ak,↓aj,seval,acP,↓hv'.idx,hw,↓hs.ln,lj];exact hN (k - 1) _ _ (by omega) ⟨i+1,by omega,hk,rfl,rfl,by rw[e1];rfl,rfl,rfl,rfl⟩
 ·rw[eW (by omega)];simp(disch:=omega) only[ak,↓aj,seval,acP,hJ];exact hR _
def Ds(a b:Id):Int:=if cv a.y b.y≠0 then cv a.y b.y else cv a.n b.n
theorem Cp(a:Int){lo:Nat}{H:Heap}{Q:Out→Heap→Prop}:W E0 lo (.call 175 [.int .u8 a]) H Q=Q (.val (.bool false)) H:=by
 rw[avf];simp(disch:=omega) only[ak,↓aj,seval,awq]
theorem GF(a:Int){lo:Nat}{H:Heap}{Q:Out→Heap→Prop}:W E0 lo (.call 140 [.int .i64 a]) H Q=Q (.val (.bool false)) H:=by
 rw[aeu];simp(disch:=omega) only[ak,↓aj,seval,afJ]
theorem Rv(a b:Int){lo:Nat}{H:Heap}{Q:Out→Heap→Prop}:W E0 lo (.call 135 [.int .u8 a,.int .u8 b]) H Q=Q (.val (.int .i64 (cv a b))) H:=by
 rw[avw];unfold cv;by_cases c1:a < b
 ·rw[if_pos c1];simp(disch:=omega) only[ak,↓aj,seval,ao6,Cp,c1]
 ·rw[if_neg c1];by_cases c2:a>b
  ·rw[if_pos c2];simp(disch:=omega) only[ak,↓aj,seval,ao6,Cp,c1,c2]
  ·rw[if_neg c2];simp(disch:=omega) only[ak,↓aj,seval,ao6,Cp,c1,c2]
theorem aet(a b:Int){lo:Nat}{H:Heap}{Q:Out→Heap→Prop}:W E0 lo (.call 136 [.int .i64 a,.int .i64 b]) H Q=Q (.val (.int .i64 (cv a b))) H:=by
 rw[ap5];unfold cv;by_cases c1:a < b
 ·rw[if_pos c1];simp(disch:=omega) only[ak,↓aj,seval,OB,GF,c1]
 ·rw[if_neg c1];by_cases c2:a>b
  ·rw[if_pos c2];simp(disch:=omega) only[ak,↓aj,seval,OB,GF,c1,c2]
  ·rw[if_neg c2];simp(disch:=omega) only[ak,↓aj,seval,OB,GF,c1,c2]
theorem am5{a b:Int}{x e:Nat}{H:Heap}(hg:H.get x=some (.cells false e 1 [.int .i64 a,.int .i64 b])){lo:Nat}{Q:Out→Heap→Prop}:W E0 lo (.call 134 [.slice x 0 2 2 true]) H Q=Q (.val (.int .i64 (if a≠0 then a else b))) H:=by
 rw[avx];have r:=af hg;simp(disch:=omega) only[ak,↓aj,seval,ari];rw[iL];by_cases ha:a=0
 ·rw[if_neg (by omega)];simp(disch:=omega) only[ak,↓aj,seval,FC,r,ha];rw[iL];by_cases hb:b=0
  ·simp(disch:=omega) only[ak,↓aj,seval,FC,r,hb]
   rw[iL];simp(disch:=omega) only[ak,↓aj,seval,FC]
  ·simp(disch:=omega) only[ak,↓aj,seval,FC,r,hb]
 ·rw[if_pos ha];simp(disch:=omega) only[ak,↓aj,seval,FC,r,ha]
theorem vV(a b:Id){H:Heap}{lo:Nat}{Q:Out→Heap→Prop}(hlo:lo≤H.n)(h:∀H',Keep H.n H H'→Q (.val (.int .i64 (Ds a b))) H'):W E0 lo (.call 80 [.agg [.int .u8 a.y,.int .i64 a.n],.agg [.int .u8 b.y,.int .i64 b.n]]) H Q:=by
 refine gS _ hlo h fun R hR=>?_;rw[c80];simp(disch:=omega) only[ak,↓aj,seval,B80,Rv,aet,↓FR,FW];rw[am5 (a:=cv a.y b.y) (b:=cv a.n b.n) (e:=3) (by rw[al,if_pos (by simp only[ac])])];simp(disch:=omega) only[ak,↓aj,seval,B80];exact hR _
def vf(a b:Id):List (Id×Id×Int)→Nat→Option (Nat×Int)
 | [],_=>none
 | (c,d,n)::l,i=>if a=c∧b=d then some (i,n) else vf a b l (i+1)
def enF(e:IV×IV×Nat):IV×IV:=(e.1,e.2.1)
def enG(k:Id×Id×Int):IV×IV:=(Og k.1 k.2.1,.int .i64 k.2.2)
theorem anL(a b c d:Id):eT (true,[.int,.int,.int,.int]) (Og a b) (Og c d)=some (decide (a=c∧b=d)):=by
 simp only[eT,Og,aX,rq,if_true,IV.cells,iF,N7]
 cases a with | mk y n=>cases b with | mk y' n'=>cases c with | mk u m=>cases d with | mk u' m'=>
 congr 1;by_cases h1:y=u<;>by_cases h2:n=m<;>by_cases h3:y'=u'<;>by_cases h4:n'=m'<;>simp[h1,h2,h3,h4]
theorem CQ(a b:Id):∀(cr:List (Id×Id×Int)) (es:List (IV×IV×Nat)) (i:Nat),es.map enF=cr.map enG→
  aK (true,[.int,.int,.int,.int]) (Og a b) es i=some ((vf a b cr i).map fun r=>(r.1,.int .i64 r.2)):=by
 intro cr
 induction cr with
 | nil=>
   intro es i h
   have:es=[]:=by simpa using h
   subst this;rfl
 | cons k cr ih=>
   intro es i h
   match es,h with
   | [],h=>simp at h
   | (k',v,s)::es,h=>
     obtain⟨c,d,n⟩:=k;rw[bB,bB] at h;injection h with h1 h2;unfold enF enG at h1;injection h1 with h1 h3;have h1:k'=Og c d:=h1;have h3:v=.int .i64 n:=h3;subst h1 h3;simp only[aK,anL,vf];by_cases hk:a=c∧b=d
     ·rw[if_pos hk,decide_eq_true hk];rfl
     ·rw[if_neg hk,decide_eq_false hk];exact ih es (i+1) h2
theorem xG(k v:IV):∀(es:List (IV×IV×Nat)) (i:Nat),(dz k v es i).map enF=(es.map enF).set i (k,v)
 | [],_=>rfl
 | (k',v',s)::es,0=>rfl
 | x::es,i+1=>by
   rw[dz,bB,bB,List.set_cons_succ,xG k v es i]
theorem nv{α β:Type}(f:α→β):∀(es:List α) (i:Nat),(eM es i).map f=eM (es.map f) i
 | [],_=>rfl
 | _::_,0=>rfl
 | x::es,i+1=>by
   rw[eM,bB,bB,eM,nv f es i]
def lD(cr:List (Id×Id×Int))(a b:Id):Int:=((vf a b cr 0).map (·.2)).getD 0
def sB(cr:List (Id×Id×Int))(a b:Id)(n:Int):List (Id×Id×Int):=match vf a b cr 0 with
 | some (i,_)=>cr.set i (a,b,n)
 | none=>cr++[(a,b,n)]
def sC(cr:List (Id×Id×Int))(a b:Id):List (Id×Id×Int):=match vf a b cr 0 with
 | some (i,_)=>eM cr i
 | none=>cr
theorem ui(k v:IV):∀(es:List (IV×IV×Nat)) (i:Nat),(dz k v es i).map (·.2.2)=es.map (·.2.2)
 | [],_=>rfl
 | (k',v',s)::es,0=>rfl
 | x::es,i+1=>by
   rw[dz,bB,bB,ui k v es i]
theorem kc{α:Type}:∀(es:List α) (i:Nat),(eM es i).Sublist es
 | [],_=>.slnil
 | x::es,0=>.cons x (List.Sublist.refl es)
 | x::es,i+1=>.cons_cons x (kc es i)
theorem BornOk.set{es:List (IV×IV×Nat)}{c:Nat}(h:BornOk es c)(k v:IV)(i:Nat):BornOk (dz k v es i) c:=by
 unfold BornOk;rw[ui];exact h
theorem BornOk.add{es:List (IV×IV×Nat)}{c:Nat}(h:BornOk es c)(k v:IV):BornOk (es++[(k,v,c)]) (c+1):=by
 unfold BornOk;rw[pw];refine⟨fun s hs=>?_,?_⟩
 ·rcases List.mem_append.1 hs with hs | hs
  ·have:=h.1 s hs;omega
  ·rw[List.mem_singleton.1 hs];exact Nat.lt_succ_self _
 ·rw[x9];refine⟨h.2,by simp,fun a ha b hb e=>?_⟩
  have:=h.1 a ha
  rw[e,List.mem_singleton.1 hb] at this;exact Nat.lt_irrefl _ this
theorem BornOk.del{es:List (IV×IV×Nat)}{c:Nat}(h:BornOk es c)(i:Nat):BornOk (eM es i) c:=by
 have hs:=(kc es i).map (·.2.2)
 exact⟨fun s hs'=>h.1 s (hs.subset hs'),h.2.sublist hs⟩
theorem G4(a b:Id):cp (true,[.int,.int,.int,.int]) (Og a b)=true:=rfl
theorem CrM.look{H:Heap}{cb:Nat}{cr:List (Id×Id×Int)}(h:CrM H cb cr)(a b:Id)(t lo:Nat):
  ev1 (.lookup t (true,[.int,.int,.int,.int]) (.int .i64 0) false) [.map cb,.agg [.int .u8 a.y,.int .i64 a.n,.int .u8 b.y,.int .i64 b.n]] lo H=some (.int .i64 (lD cr a b),H):=by
 obtain⟨es,c,hg,hm,hbo⟩:=h;have hf:=CQ a b cr es 0 hm;have hk:=G4 a b;unfold Og at hf hk;simp only[ev1,aF,hg,cx,hk,if_true,hf];unfold lD
 cases vf a b cr 0<;>rfl
theorem CrM.upd{H:Heap}{cb:Nat}{cr:List (Id×Id×Int)}(h:CrM H cb cr)(a b:Id)(n:Int)(lo:Nat)(hlo:lo≤cb):
  ∃ob,ev1 (.mapUpd (true,[.int,.int,.int,.int])) [.map cb,.agg [.int .u8 a.y,.int .i64 a.n,.int .u8 b.y,.int .i64 b.n],.int .i64 n] lo H=some (IV.undef,H.put cb ob)∧CrM (H.put cb ob) cb (sB cr a b n):=by
 obtain⟨es,c,hg,hm,hbo⟩:=h;have hf:=CQ a b cr es 0 hm;have hk:=G4 a b;have hm':es.map enF=cr.map enG:=hm;unfold Og at hf hk;simp only[ev1,aF,hg,hk,hlo,and_self,if_true,hf];unfold sB
 cases e:vf a b cr 0 with
 | none=>exact⟨_,rfl,_,_,by rw[ae,if_pos rfl],by show List.map enF _=List.map enG _;rw[pw,pw,hm'];rfl,hbo.add _ _⟩
 | some r=>exact⟨_,rfl,_,_,by rw[ae,if_pos rfl],by show List.map enF _=List.map enG _;rw[xG,List.map_set,hm'];rfl,hbo.set _ _ _⟩
theorem CrM.del{H:Heap}{cb:Nat}{cr:List (Id×Id×Int)}(h:CrM H cb cr)(a b:Id)(lo:Nat)(hlo:lo≤cb):
  ∃H',ev1 (.delete (true,[.int,.int,.int,.int])) [.map cb,.agg [.int .u8 a.y,.int .i64 a.n,.int .u8 b.y,.int .i64 b.n]] lo H=some (IV.undef,H')∧(∃ob,H'=H.put cb ob∨H'=H)∧CrM H' cb (sC cr a b):=by
 obtain⟨es,c,hg,hm,hbo⟩:=h;have hf:=CQ a b cr es 0 hm;have hk:=G4 a b;have hm':es.map enF=cr.map enG:=hm;unfold Og at hf hk;simp only[ev1,aF,hg,hk,hlo,and_self,if_true,hf];unfold sC
 cases e:vf a b cr 0 with
 | none=>exact⟨_,rfl,⟨.map [] 0,.inr rfl⟩,_,_,hg,hm,hbo⟩
 | some r=>exact⟨_,rfl,⟨_,.inl rfl⟩,_,_,by rw[ae,if_pos rfl],by show List.map enF _=List.map enG _;rw[nv,hm',←nv],hbo.del _⟩
theorem MI.setC{n0 mb:Nat}{H:Heap}{ow:List Nat}{L:Ly}{M:Mc}(h:MI n0 mb H ow L M){H':Heap}{cr:List (Id×Id×Int)}(hn:H.n≤H'.n)(hg:∀x,x < H.n→x≠L.cb→H'.get x=H.get x)(hc:CrM H' L.cb cr):
  KeepO ow H H'∧MI n0 mb H' ow L {M with cr:=cr}:=by
 have kb:KeepO ow H H':=⟨hn,fun x hx hxo=>hg x hx (by rintro rfl;exact hxo h.oc)⟩;have ko:=kb.off';obtain⟨es,c,h1,h2⟩:=h.gc;have e1:mb≠L.cb:=fun e=>by have:=h.gm;rw[e,h1] at this;cases this
 have e2:L.tb≠L.cb:=fun e=>by obtain⟨_,_,r,h3,_⟩:=h.gt;rw[e,h1] at h3;cases h3
 have e0:L.yb≠L.cb:=fun e=>by obtain⟨_,_,r,h3,_⟩:=h.gy;rw[e,h1] at h3;cases h3
 have e3:L.fv.blk≠L.cb:=fun e=>by
  obtain⟨b,ex,h4,_,_,_,r,h3,_⟩:=h.gf;rw[h4] at e;have e:b=L.cb:=e;rw[e,h1] at h3;cases h3
 have e5:∀(j:Nat) (h1:j < L.ws.length),L.ws[j].blk≠L.cb:=fun j hj e=>by
  obtain⟨b,ex,h4,_,_,_,r,h3,_⟩:=h.rg j hj (by rw[h.rn];rw[h.wn] at hj;exact hj);rw[h4] at e;have e:b=L.cb:=e;rw[e,h1] at h3;cases h3
 refine⟨kb,?_⟩
 exact{gm:=(hg _ (h.lo _ h.om).2 e1).trans h.gm,rk:=h.rk,gy:=h.gy.same hn (hg _ h.gy.2.1 e0),yn:=h.yn,ym:=h.ym,yd:=fun x hx=>(h.yd x hx).keep ko,yo:=h.yo,
       bf:=h.bf.keep ko,bb:=h.bb.keep ko,bv:=h.bv,
       gt:=h.gt.same hn (hg _ h.gt.2.1 e2),wn:=h.wn,rn:=h.rn,rg:=fun j a b=>(h.rg j a b).same hn (hg _ (h.rg j a b).lt.1 (e5 j a)),rx:=h.rx,
       rd:=fun r hr x hx=>⟨(h.rd r hr x hx).1.keep ko,(h.rd r hr x hx).2.keep ko⟩,rm:=h.rm,
       gc:=hc,gf:=h.gf.same hn (hg _ h.gf.lt.1 e3),om:=h.om,oy:=h.oy,ot:=h.ot,oc:=h.oc,orw:=h.orw,of:=h.of,lo:=fun x hx=>⟨(h.lo x hx).1,du (h.lo x hx).2 hn⟩}
theorem iW{i t b:Nat}{ky:Bool×List Pk}{k:IV}{fc:ci}:m7 ((i,.lk t ky b k)::fc)=false:=rfl
theorem eI{t b b' o n:Nat}{ky:Bool×List Pk}{k:IV}:bp (.lk t ky b k) (.rd b' o n)=true:=rfl
def OF(c:Cr):Id:=if Ds c.a c.b>0 then c.b else c.a
def OE(c:Cr):Id:=if Ds c.a c.b>0 then c.a else c.b
def zl(M:Mc)(c:Cr):Except Int Mc:=
 if lD M.cr (OF c) (OE c)+c.s < -1048576∨lD M.cr (OF c) (OE c)+c.s>1048576 then .error 3
 else if lD M.cr (OF c) (OE c)+c.s=0 then .ok {M with cr:=sC M.cr (OF c) (OE c)}
 else .ok {M with cr:=sB M.cr (OF c) (OE c) (lD M.cr (OF c) (OE c)+c.s)}
theorem aew{n0 mb:Nat}{H:Heap}{ow:List Nat}{L:Ly}{M:Mc}(h:MI n0 mb H ow L M){c:Cr}(hs:c.s=1∨c.s= -1)(hb: -1048576≤lD M.cr (OF c) (OE c)∧lD M.cr (OF c) (OE c)≤1048576){lo:Nat}{Q:Out→Heap→Prop}(hlo:lo≤n0)(hn:n0≤H.n)
  (hq:MQ n0 mb H ow (zl M c) Q):W E0 lo (.call 158 [.ptr mb 0,.agg [.int .u8 c.a.y,.int .i64 c.a.n,.int .u8 c.b.y,.int .i64 c.b.n,.int .i64 c.s]]) H Q:=by
 have hlt:=h.lo _ h.om;rw[avl];simp(disch:=omega) only[ak,↓aj,seval,Dp];generalize hH_H1:Heap.put _ _ _=H1;have hnH1:H1.n=H.n+2:=by rw[←hH_H1];rfl
 have g0:=congrArg (fun h0=>Heap.get h0 (H.n)) hH_H1.symm;simp(disch:=omega) only[ak,↓aj,seval] at g0;have g1:=congrArg (fun h0=>Heap.get h0 (H.n+1)) hH_H1.symm;simp(disch:=omega) only[ak,↓aj,seval] at g1
 have kH1:Keep H.n H H1:=⟨by omega,fun x hx _=>by
  have gx:=congrArg (fun h0=>Heap.get h0 x) hH_H1.symm;simp(disch:=omega) only[ak,↓aj,seval] at gx;exact gx⟩
 clear hH_H1;refine vV c.a c.b (by omega) fun H2 k2=>?_;have hn2:=k2.1;have g02:=(k2.2 H.n (by omega) (by omega)).trans g0;have g12:=(k2.2 (H.n+1) (by omega) (by omega)).trans g1;have h2:=h.keep (kH1.trans (k2.lower (by omega)));have k3:Keep H.n H H2:=kH1.trans (k2.lower (by omega));have r0:=af g02;have r1:=af g12;have rm2:=af h2.gm;clear g0 g1 kH1 k2 h2;by_cases hc:Ds c.a c.b>0
 ·have eA:OF c=c.b:=by unfold OF;rw[if_pos hc]
  have eB:OE c=c.a:=by unfold OE;rw[if_pos hc]
  rw[eA,eB] at hb;unfold zl at hq;rw[eA,eB] at hq;have k4:Keep H.n H (H2.put (H.n+1) (.cells false 150 4 [.int .u8 c.b.y,.int .i64 c.b.n,.int .u8 c.a.y,.int .i64 c.a.n])):=k3.trans (.put _ _ (by omega));have h3:=h.keep k4;have hlk:=h3.gc.look c.b c.a;have hu:=fun n=>h3.gc.upd c.b c.a n lo (by have:=h.lo _ h.oc;omega);have hd:=h3.gc.del c.b c.a lo (by have:=h.lo _ h.oc;omega);generalize lD M.cr c.b c.a=n at hb hq hlk;have rm3:=af h3.gm;by_cases c1:n+c.s < -1048576∨n+c.s>1048576
  ·rw[if_pos c1] at hq;by_cases c2:n+c.s < -1048576
   ·simp(disch:=omega) only[ak,↓aj,seval,Dp,hc,r0,r1,rm2,rm3,g02,g12,↓hlk,iW,eI,↓FR,FW]
    exact hq.1 3 _ rfl (KeepO.of k4)
   ·simp(disch:=omega) only[ak,↓aj,seval,Dp,hc,r0,r1,rm2,rm3,g02,g12,↓hlk,iW,eI,↓FR,FW]
    exact hq.1 3 _ rfl (KeepO.of k4)
  ·rw[if_neg c1] at hq;by_cases c2:n+c.s=0
   ·rw[if_pos c2] at hq;obtain⟨H5,e5,hh5,cc5⟩:=hd;simp(disch:=omega) only[ak,↓aj,seval,Dp,hc,r0,r1,rm2,rm3,g02,g12,↓hlk,↓e5,iW,eI,↓FR,FW];obtain⟨ob,hh5⟩:=hh5;have hm5:=h3.setC (cr:=sC M.cr c.b c.a) (H':=H5) (by rcases hh5 with rfl | rfl<;>exact au _) (fun x _ hx=>by rcases hh5 with rfl | rfl<;>first | rfl | rw[ae,if_neg (Ne.symm hx)]) cc5;exact hq.2 _ _ ow _ rfl ((KeepO.of k4).trans hm5.1 fun x hx=>.inl hx) (fun _ hx=>hx) (fun _ hx=>.inl hx) hm5.2
   ·rw[if_neg c2] at hq;obtain⟨ob,e5,cc5⟩:=hu (n+c.s);simp(disch:=omega) only[ak,↓aj,seval,Dp,hc,c2,r0,r1,rm2,rm3,g02,g12,↓hlk,↓e5,iW,eI,↓FR,FW];have hm5:=h3.setC (cr:=sB M.cr c.b c.a (n+c.s)) (by exact au _) (fun x _ hx=>by rw[ae _ L.cb,if_neg (Ne.symm hx)]) cc5;exact hq.2 _ _ ow _ rfl ((KeepO.of k4).trans hm5.1 fun x hx=>.inl hx) (fun _ hx=>hx) (fun _ hx=>.inl hx) hm5.2
 ·have eA:OF c=c.a:=by unfold OF;rw[if_neg hc]
  have eB:OE c=c.b:=by unfold OE;rw[if_neg hc]
  rw[eA,eB] at hb;unfold zl at hq;rw[eA,eB] at hq;have k4:Keep H.n H H2:=k3;have h3:=h.keep k4;have hlk:=h3.gc.look c.a c.b;have hu:=fun n=>h3.gc.upd c.a c.b n lo (by have:=h.lo _ h.oc;omega);have hd:=h3.gc.del c.a c.b lo (by have:=h.lo _ h.oc;omega);generalize lD M.cr c.a c.b=n at hb hq hlk;have rm3:=af h3.gm;by_cases c1:n+c.s < -1048576∨n+c.s>1048576
  ·rw[if_pos c1] at hq;by_cases c2:n+c.s < -1048576
   ·simp(disch:=omega) only[ak,↓aj,seval,Dp,hc,r0,r1,rm2,rm3,g02,g12,↓hlk,iW,eI,↓FR,FW]
    exact hq.1 3 _ rfl (KeepO.of k4)
   ·simp(disch:=omega) only[ak,↓aj,seval,Dp,hc,r0,r1,rm2,rm3,g02,g12,↓hlk,iW,eI,↓FR,FW]
    exact hq.1 3 _ rfl (KeepO.of k4)
  ·rw[if_neg c1] at hq;by_cases c2:n+c.s=0
   ·rw[if_pos c2] at hq;obtain⟨H5,e5,hh5,cc5⟩:=hd;simp(disch:=omega) only[ak,↓aj,seval,Dp,hc,r0,r1,rm2,rm3,g02,g12,↓hlk,↓e5,iW,eI,↓FR,FW];obtain⟨ob,hh5⟩:=hh5;have hm5:=h3.setC (cr:=sC M.cr c.a c.b) (H':=H5) (by rcases hh5 with rfl | rfl<;>exact au _) (fun x _ hx=>by rcases hh5 with rfl | rfl<;>first | rfl | rw[ae,if_neg (Ne.symm hx)]) cc5;exact hq.2 _ _ ow _ rfl ((KeepO.of k4).trans hm5.1 fun x hx=>.inl hx) (fun _ hx=>hx) (fun _ hx=>.inl hx) hm5.2
   ·rw[if_neg c2] at hq;obtain⟨ob,e5,cc5⟩:=hu (n+c.s);simp(disch:=omega) only[ak,↓aj,seval,Dp,hc,c2,r0,r1,rm2,rm3,g02,g12,↓hlk,↓e5,iW,eI,↓FR,FW];have hm5:=h3.setC (cr:=sB M.cr c.a c.b (n+c.s)) (by exact au _) (fun x _ hx=>by rw[ae _ L.cb,if_neg (Ne.symm hx)]) cc5;exact hq.2 _ _ ow _ rfl ((KeepO.of k4).trans hm5.1 fun x hx=>.inl hx) (fun _ hx=>hx) (fun _ hx=>.inl hx) hm5.2
theorem Sl2F.onto{α:Type}[Cell α]{n0:Nat}{H:Heap}{ow:List Nat}{v:SV}{ls:List (List α)}(h:Sl2F n0 H v ls)(ho:∀x∈ow,x < n0):Sl2 (H.off ow) v ls:=by
 obtain⟨vs,h1,h2,h3,h4⟩:=h;refine⟨vs,h1.onto fun hv hx=>?_,h2,fun i a b=>(h4 i a b).1.onto fun hl hx=>?_⟩
 ·have:=ho _ hx;have:=h3 hv;omega
 ·have:=ho _ hx;have:=(h4 i a b).2 hl;omega
theorem MI.setM{n0 mb:Nat}{H:Heap}{ow:List Nat}{L:Ly}{M:Mc}(h:MI n0 mb H ow L M){r:Int}{f b:SV}{t:List (List Id)}(hr: -4≤r∧r≤4)(hf:Sl2 (H.off ow) f (aQ t))(hb:Sl2 (H.off ow) b (aI t))(hv:Valid t):
  MI n0 mb (H.put mb (.cells false 147 7 [.int .i64 r,f.iv,b.iv,.slice L.yb 0 6 6 true,.slice L.tb 0 6 6 true,.map L.cb,L.fv.iv])) ow {L with f:=f,b:=b} {M with rack:=r,t:=t}:=by
 generalize hob:IObj.cells false 147 7 [.int .i64 r,f.iv,b.iv,.slice L.yb 0 6 6 true,.slice L.tb 0 6 6 true,.map L.cb,L.fv.iv]=ob;have kb:KeepO ow H (H.put mb ob):=KeepO.put h.om;have ko:=kb.off';have hg:∀x,x≠mb→(H.put mb ob).get x=H.get x:=fun x hx=>by rw[ae,if_neg (Ne.symm hx)]
 have h0:=h.gm;have e0:L.yb≠mb:=fun e=>by obtain⟨_,_,r,h3,_⟩:=h.gy;rw[e,h0] at h3;cases h3
 have e2:L.tb≠mb:=fun e=>by obtain⟨_,_,r,h3,_⟩:=h.gt;rw[e,h0] at h3;cases h3
 have e3:L.fv.blk≠mb:=fun e=>by
  obtain⟨b,ex,h4,_,_,_,r,h3,_⟩:=h.gf;rw[h4] at e;have e:b=mb:=e;rw[e,h0] at h3;cases h3
 obtain⟨es,c,h1,h2⟩:=h.gc;have e4:L.cb≠mb:=fun e=>by rw[e,h0] at h1;cases h1
 have e5:∀(j:Nat) (h1:j < L.ws.length),L.ws[j].blk≠mb:=fun j hj e=>by
  obtain⟨b,ex,h4,_,_,_,r,h3,_⟩:=h.rg j hj (by rw[h.rn];rw[h.wn] at hj;exact hj);rw[h4] at e;have e:b=mb:=e;rw[e,h0] at h3;cases h3
 exact{gm:=by rw[ae,if_pos rfl,←hob],rk:=hr,gy:=h.gy.same (au _) (hg _ e0),yn:=h.yn,ym:=h.ym,yd:=fun x hx=>(h.yd x hx).keep ko,yo:=h.yo,
       bf:=hf.keep ko,bb:=hb.keep ko,bv:=hv,
       gt:=h.gt.same (au _) (hg _ e2),wn:=h.wn,rn:=h.rn,rg:=fun j a b=>(h.rg j a b).same (au _) (hg _ (e5 j a)),rx:=h.rx,
       rd:=fun r hr x hx=>⟨(h.rd r hr x hx).1.keep ko,(h.rd r hr x hx).2.keep ko⟩,rm:=h.rm,
       gc:=⟨es,c,(hg _ e4).trans h1,h2⟩,gf:=h.gf.same (au _) (hg _ e3),om:=h.om,oy:=h.oy,ot:=h.ot,oc:=h.oc,orw:=h.orw,of:=h.of,lo:=h.lo}
theorem adL{t:List (List Id)}{nb na:Int}{l:List Id}(h:jT t nb na l=0):av nb na=0∧l.all bI=true∧l.length≤4∧(∀a∈l,a∉(t.set (ix nb na) []).flatten)∧l.Nodup:=by
 unfold jT at h;split at h
 ·omega
 split at h
 ·omega
 split at h
 ·omega
 split at h
 ·rename_i c1 c2 c3 c4;exact⟨Classical.not_not.1 c1,by simpa using c2,by omega,c4⟩
 ·omega
theorem yw{t:List (List Id)}(hV:Valid t){nb na:Int}{l:List Id}(h:jT t nb na l=0):Valid (t.set (ix nb na) l):=by
 obtain⟨h1,h2,h3,h4,h5⟩:=adL h;have hq:ix nb na < t.length:=by rw[hV.len];exact(NM h1).2.2
 have hp:=tt hq l;have hs:=lY hq;have hnd:=(hs.nodup_iff).1 hV.nd;rw[x9] at hnd;refine⟨by rw[bQ,hV.len],fun x hx=>?_,fun a ha=>?_,(hp.nodup_iff).2 ?_⟩
 ·rcases mX hx with hx | rfl
  ·exact hV.four x hx
  ·exact h3
 ·rcases List.mem_append.1 ((hp.mem_iff).1 ha) with ha | ha
  ·exact List.all_eq_true.1 h2 a ha
  ·exact hV.named a ((hs.mem_iff).2 (List.mem_append.2 (.inr ha)))
 ·rw[x9];exact⟨h5,hnd.2.1,fun a ha b hb e=>h4 a ha (e▸hb)⟩
theorem MI.setF{n0 mb:Nat}{H H2:Heap}{ow:List Nat}{L:Ly}{M:Mc}(h:MI n0 mb H ow L M){w:SV}{l:List Id}(k:KeepO [L.fv.blk] H H2)(g:Tg n0 H2 138 w l)(hw:w.blk=H.n):
  KeepO ow H (H2.put mb (.cells false 147 7 [.int .i64 M.rack,L.f.iv,L.b.iv,.slice L.yb 0 6 6 true,.slice L.tb 0 6 6 true,.map L.cb,w.iv]))∧
  MI n0 mb (H2.put mb (.cells false 147 7 [.int .i64 M.rack,L.f.iv,L.b.iv,.slice L.yb 0 6 6 true,.slice L.tb 0 6 6 true,.map L.cb,w.iv])) (H.n::ow) {L with fv:=w} {M with fa:=l}:=by
 generalize hob:IObj.cells false 147 7 [.int .i64 M.rack,L.f.iv,L.b.iv,.slice L.yb 0 6 6 true,.slice L.tb 0 6 6 true,.map L.cb,w.iv]=ob;have h0:=h.gm;have hmb:=h.lo _ h.om;have hfb:=h.lo _ h.of;have hn:=k.1;have hlt:=g.lt
 have hg:∀x,x < H.n→x≠L.fv.blk→x≠mb→(H2.put mb ob).get x=H.get x:=fun x h1 h2 h3=>by
  rw[ae,if_neg (Ne.symm h3)];exact k.2 x h1 (by simpa using h2)
 have hn':H.n≤(H2.put mb ob).n:=by rw[ai];exact hn
 have kb:KeepO ow H (H2.put mb ob):=⟨hn',fun x h1 h2=>hg x h1 (by rintro rfl;exact h2 h.of) (by rintro rfl;exact h2 h.om)⟩
 have ko:=kb.off (ow':=H.n::ow) (fun x hx=>eH _ hx) fun x hx=>by
  rcases List.mem_cons.1 hx with rfl | hx
  ·exact .inr (au _)
  ·exact .inl hx
 obtain⟨fb,fx,hf1,_,_,_,fr,hf3,_⟩:=h.gf;have ef:L.fv.blk=fb:=by rw[hf1];rfl
 have e0:L.yb≠mb:=fun e=>by obtain⟨_,_,r,h3,_⟩:=h.gy;rw[e,h0] at h3;cases h3
 have e0':L.yb≠L.fv.blk:=fun e=>by obtain⟨_,_,r,h3,_⟩:=h.gy;rw[e,ef,hf3] at h3;cases h3
 have e2:L.tb≠mb:=fun e=>by obtain⟨_,_,r,h3,_⟩:=h.gt;rw[e,h0] at h3;cases h3
 have e2':L.tb≠L.fv.blk:=fun e=>by obtain⟨_,_,r,h3,_⟩:=h.gt;rw[e,ef,hf3] at h3;cases h3
 obtain⟨es,c,h1,h2⟩:=h.gc;have e4:L.cb≠mb:=fun e=>by rw[e,h0] at h1;cases h1
 have e4':L.cb≠L.fv.blk:=fun e=>by rw[e,ef,hf3] at h1;cases h1
 have e5:∀(j:Nat) (h1:j < L.ws.length),L.ws[j].blk≠mb∧L.ws[j].blk≠L.fv.blk:=fun j hj=>by
  obtain⟨b,ex,h4,_,_,_,r,h3,_⟩:=h.rg j hj (by rw[h.rn];rw[h.wn] at hj;exact hj);rw[h4];refine⟨fun e=>?_,fun e=>?_⟩
  ·have e:b=mb:=e;rw[e,h0] at h3;cases h3
  ·have e:b=L.fv.blk:=e;rw[e,ef,hf3] at h3;cases h3
 refine⟨kb,?_⟩
 exact{gm:=by rw[ae,if_pos rfl,←hob],rk:=h.rk,gy:=h.gy.same hn' (hg _ h.gy.2.1 e0' e0),yn:=h.yn,ym:=h.ym,yd:=fun x hx=>(h.yd x hx).keep ko,yo:=h.yo,
       bf:=h.bf.keep ko,bb:=h.bb.keep ko,bv:=h.bv,
       gt:=h.gt.same hn' (hg _ h.gt.2.1 e2' e2),wn:=h.wn,rn:=h.rn,rg:=fun j a b=>(h.rg j a b).same hn' (hg _ (h.rg j a b).lt.1 (e5 j a).2 (e5 j a).1),rx:=h.rx,
       rd:=fun r hr x hx=>⟨(h.rd r hr x hx).1.keep ko,(h.rd r hr x hx).2.keep ko⟩,rm:=h.rm,
       gc:=⟨es,c,(hg _ (h.lo _ h.oc).2 e4' e4).trans h1,h2⟩,gf:=g.same (by rw[ai];omega) (by rw[ae,if_neg (by omega)]),
       om:=eH _ h.om,oy:=eH _ h.oy,ot:=eH _ h.ot,oc:=eH _ h.oc,orw:=fun w hw=>eH _ (h.orw w hw),
       of:=by show w.blk∈_;rw[hw];exact rv,
       lo:=fun x hx=>by
        rcases List.mem_cons.1 hx with rfl | hx
        ·rw[←hw,ai];exact⟨hlt.2,hlt.1⟩
        ·have:=h.lo x hx;rw[ai];omega}
def zx(M:Mc)(o:Opn):List Id:=M.t.getD (ix o.b o.a) []
def EU(M:Mc)(o:Opn):Except Int Mc:=
 if (zx M o).length=0 then .error 13
 else if jT M.t o.b o.a []≠0 then .error (jT M.t o.b o.a [])
 else .ok {M with t:=M.t.set (ix o.b o.a) [],fa:=M.fa++zx M o}
theorem aei{n0 mb:Nat}{H:Heap}{ow:List Nat}{L:Ly}{M:Mc}(h:MI n0 mb H ow L M){o:Opn}(hne:av o.b o.a=0)(hfa:M.fa.length≤1000000){lo:Nat}{Q:Out→Heap→Prop}(hlo:lo≤n0)(hn:n0≤H.n)
  (hq:MQ n0 mb H ow (EU M o) Q):W E0 lo (.call 76 [.ptr mb 0,.agg [.int .u8 o.k,.int .u8 o.d,.int .u8 o.b,.int .i64 o.a,.int .u8 o.y,.int .i64 o.r]]) H Q:=by
 have hlt:=h.lo _ h.om;have rm:=af h.gm;obtain⟨h6,h6'⟩:=h.bv.len6;have hF:=jO M.t;have hB:=hZ h.bv.len;rw[c76];simp(disch:=omega) only[ak,↓aj,seval,B76,rm,aq,show ¬H.n=mb by omega,↓FR,FW];have k1:Keep H.n H (H.new (.cells false 56 6 [.int .u8 o.k,.int .u8 o.d,.int .u8 o.b,.int .i64 o.a,.int .u8 o.y,.int .i64 o.r])):=.new _ _;refine uR o.b o.a (h.bf.unoff.keep k1) (h.bb.unoff.keep k1) h6 h6' (by rw[ac];omega) fun H2 v k2 f2=>?_;rw[jd M.t hne] at f2;have f2:Fresh _ H2 138 v (zx M o):=f2;have kk:Keep H.n H H2:=k1.trans (k2.lower (by rw[ac];omega));have hn2:=k2.1;rw[ac] at hn2;have g0:=k2.2 H.n (by rw[ac];omega) (by rw[ac];omega);rw[al,if_pos rfl] at g0;have r0:=af g0;have h2:=h.keep kk;have rm2:=af h2.gm;have sv:=f2.sl
 have h4:(zx M o).length≤4:=by
  have:=jt (aQ M.t) (aI M.t) o.b o.a 4 (fun l hl=>h.bv.four l (fl hl)) (fun l hl=>h.bv.four l (dw hl))
  rw[jd M.t hne] at this;exact this
 unfold EU at hq;clear k1 k2 rm;by_cases hl:(zx M o).length=0
 ·rw[if_pos hl] at hq;simp(disch:=omega) only[ak,↓aj,seval,B76,↓sv.ln,hl,↓FR,FW];exact hq.1 13 _ rfl (KeepO.of kk)
 ·rw[if_neg hl] at hq;simp(disch:=omega) only[ak,↓aj,seval,B76,↓sv.ln,hl,r0,rm2,aq,↓FR,FW]
  have hvb:∀ob (H':Heap),Keep H2.n H2 H'→Sl (H'.put mb ob) v (zx M o):=fun ob H' k=>by
   refine(sv.keep k).same (by rw[ai];exact au _) fun hv=>?_
   have:mb≠v.blk:=by
    rcases f2 with⟨_,e⟩ | ⟨b,e,hb,_⟩
    ·exact absurd e hv
    ·rw[e];rw[ac] at hb;show mb≠b;omega
   rw[ae,if_neg this]
  refine Pq (v:=.nil) (l:=[]) o.b o.a h.bv h2.bf.unoff h2.bb.unoff Sl.empty (by simp) (au _) (fun H3 k3 he=>?_) fun H3 f' b' k3 he bd=>?_
  ·rw[if_pos he] at hq;have hn3:=k3.1;generalize jT M.t o.b o.a []=e at he hq;simp(disch:=omega) only[ak,↓aj,seval,B76,bv,he,↓FR,FW];exact hq.1 e _ rfl (KeepO.of ((kk.trans (k3.lower (by omega))).trans (Keep.newPut.lower (by omega))))
  ·rw[if_neg (by rw[he];decide)] at hq;have hn3:=k3.1;have k4:Keep H.n H H3:=kk.trans (k3.lower (by omega));have h3:=h.keep k4;have ho:∀x∈ow,x < H2.n:=fun x hx=>by have:=(h.lo x hx).2;omega
   have k5:Keep H3.n H3 ((H3.new (.cells false 26 2 [.nilSlice,.nilSlice])).put H3.n (.cells false 26 2 [f'.iv,b'.iv])):=Keep.newPut;have h4':=h.keep (k4.trans (k5.lower (by have:=k4.1;omega)));have h5:=h4'.setM h.rk (Sl2F.onto (bd.1.keep k5) ho) (Sl2F.onto (bd.2.1.keep k5) ho) (yw h.bv he);have hne':zx M o≠[]:=fun e=>hl (by rw[e];rfl);have gm4:=h4'.gm;have rm4:=af gm4;have gm5:=h5.gm;have rm5:=af gm5;have sv5:=hvb (.cells false 147 7 [.int .i64 M.rack,f'.iv,b'.iv,.slice L.yb 0 6 6 true,.slice L.tb 0 6 6 true,.map L.cb,L.fv.iv]) ((H3.new (.cells false 26 2 [.nilSlice,.nilSlice])).put H3.n (.cells false 26 2 [f'.iv,b'.iv])) (k3.trans (k5.lower hn3));obtain⟨H6,w,e6,k6,g6,w6⟩:=Tg.push h5.gf sv5 hne' kT 16 lo hlo (by rw[ai,ai,ac];omega) (by show(M.fa.length+_)*_≤_;omega);have h6:=h5.setF k6 g6 w6
   have hmf:mb≠L.fv.blk:=fun e=>by
    obtain⟨b,ex,h4,_,_,_,r,h3,_⟩:=h5.gf;have h4:L.fv=_:=h4;rw[h4] at e;have e:mb=b:=e;rw[←e,gm5] at h3;cases h3
   have gm6:=(k6.2 mb (by rw[ai,ai,ac];omega) (by simpa using hmf)).trans gm5;simp(disch:=omega) only[ak,↓aj,seval,B76,bv,gm4,rm4,rm5,↓e6,gm6,show ¬H3.n=mb by omega,↓FR,FW];have kf:=((KeepO.of (k4.trans (k5.lower (by have:=k4.1;omega)))).trans (KeepO.put h.om) fun x hx=>.inl hx).trans h6.1 fun x hx=>.inl hx;refine hq.2 _ _ _ _ rfl kf (fun x hx=>eH _ hx) (fun x hx=>?_) h6.2;rcases List.mem_cons.1 hx with rfl | hx
   ·right;rw[ai,ai,ac];omega
   ·exact .inl hx
theorem MI.fullT{n0 mb:Nat}{H:Heap}{ow:List Nat}{L:Ly}{M:Mc}(h:MI n0 mb H ow L M):H.get L.tb=some (.cells false 140 1 (aD L.ws)):=by
 have:=h.gt
 rw[←h.wn] at this;exact this.full
theorem MI.setR{n0 mb:Nat}{H H2:Heap}{ow:List Nat}{L:Ly}{M:Mc}(h:MI n0 mb H ow L M){i:Nat}(hi:i < 6)(hi':i < L.ws.length)(hi2:i < L.rl.length){w:SV}{x:Lv}(k:KeepO [L.ws[i].blk] H H2)(g:Tg n0 H2 158 w (L.rl[i]++[x]))(hw:w.blk=H.n)
  (hx1:Sl (H.off ow) x.tv x.p.thr) (hx2:Sl (H.off ow) x.pv x.p.past):
  KeepO ow H (H2.put L.tb (.cells false 140 1 (aA (aD L.ws) i [w.iv])))∧
  MI n0 mb (H2.put L.tb (.cells false 140 1 (aA (aD L.ws) i [w.iv]))) (H.n::ow) {L with ws:=L.ws.set i w,rl:=L.rl.set i (L.rl[i]++[x])} {M with rows:=M.rows.set i ((L.rl[i]++[x]).map (·.p))}:=by
 have htb:=h.lo _ h.ot;have h0:=h.fullT
 have hbl:∀(j:Nat) (h1:j < L.ws.length),L.ws[j].blk≠L.tb∧L.ws[j].blk≠mb∧L.ws[j].blk≠L.yb∧L.ws[j].blk≠L.cb∧L.ws[j].blk≠L.fv.blk:=fun j hj=>by
  obtain⟨b,ex,h4,_,_,_,r,h3,_⟩:=h.rg j hj (by rw[h.rn];rw[h.wn] at hj;exact hj);rw[h4]
  show b≠_∧b≠_∧b≠_∧b≠_∧b≠_
  refine⟨fun e=>?_,fun e=>?_,fun e=>?_,fun e=>?_,fun e=>?_⟩
  ·rw[e,h0] at h3;cases h3
  ·rw[e,h.gm] at h3;cases h3
  ·rw[e,h.fullY] at h3;cases h3
  ·obtain⟨es,c,h1,h2⟩:=h.gc;rw[e,h1] at h3;cases h3
  ·obtain⟨fb,fx,hf1,_,_,_,fr,hf3,_⟩:=h.gf;rw[hf1] at e;have e:b=fb:=e;rw[e,hf3] at h3;cases h3
 have ht:H2.get L.tb=H.get L.tb:=k.2 _ htb.2 (by simpa using Ne.symm (hbl i hi').1);have gt2:Own H2 L.tb 140 L.ws.length L.ws:=by have:=h.gt;rw[←h.wn] at this;exact this.same k.1 ht
 have gt3:=Own.put gt2 mG i hi' w;rw[sA,lj,h.wn] at gt3;generalize hob:IObj.cells false 140 1 (aA (aD L.ws) i [w.iv])=ob at gt3⊢;have hmb:=h.lo _ h.om;have hn:=k.1;have hlt:=g.lt
 have hg:∀x,x < H.n→x≠L.ws[i].blk→x≠L.tb→(H2.put L.tb ob).get x=H.get x:=fun x h1 h2 h3=>by
  rw[ae,if_neg (Ne.symm h3)];exact k.2 x h1 (by simpa using h2)
 have hn':H.n≤(H2.put L.tb ob).n:=by rw[ai];exact hn
 have hwi:L.ws[i].blk∈ow:=h.orw _ (bm hi');have kb:KeepO ow H (H2.put L.tb ob):=⟨hn',fun x h1 h2=>hg x h1 (by rintro rfl;exact h2 hwi) (by rintro rfl;exact h2 h.ot)⟩
 have ko:=kb.off (ow':=H.n::ow) (fun x hx=>eH _ hx) fun x hx=>by
  rcases List.mem_cons.1 hx with rfl | hx
  ·exact .inr (au _)
  ·exact .inl hx
 have e1:mb≠L.tb:=fun e=>by have:=h.gm;rw[e,h0] at this;cases this
 have e2:L.yb≠L.tb:=fun e=>by have:=h.fullY;rw[e,h0] at this;cases this
 obtain⟨es,c,h1,h2⟩:=h.gc;have e3:L.cb≠L.tb:=fun e=>by rw[e,h0] at h1;cases h1
 have e4:L.fv.blk≠L.tb:=fun e=>by
  obtain⟨fb,fx,hf1,_,_,_,fr,hf3,_⟩:=h.gf;rw[hf1] at e;have e:fb=L.tb:=e;rw[e,h0] at hf3;cases hf3
 have hb:=hbl i hi';refine⟨kb,?_⟩
 have rgn:∀(j:Nat) (a:j < (L.ws.set i w).length) (b:j < (L.rl.set i (L.rl[i]++[x])).length),Tg n0 (H2.put L.tb ob) 158 (L.ws.set i w)[j] (L.rl.set i (L.rl[i]++[x]))[j]:=fun j a b=>by
  rw[bQ] at a b;by_cases hj:i=j
  ·subst hj;rw[pz,pz];exact g.same (by rw[ai];omega) (by rw[ae,if_neg (by omega)])
  ·rw[jC hj,jC hj];exact(h.rg j a b).same hn' (hg _ (h.rg j a b).lt.1 (fun e=>hj (h.rx _ _ hi' a e.symm)) (hbl j a).1)
 exact{gm:=(hg _ hmb.2 (Ne.symm hb.2.1) e1).trans h.gm,rk:=h.rk,gy:=h.gy.same hn' (hg _ h.gy.2.1 (Ne.symm hb.2.2.1) e2),yn:=h.yn,ym:=h.ym,yd:=fun x hx=>(h.yd x hx).keep ko,yo:=h.yo,
       bf:=h.bf.keep ko,bb:=h.bb.keep ko,bv:=h.bv,
       gt:=gt3,wn:=by show(L.ws.set i w).length=6;rw[bQ,h.wn],rn:=by show(L.rl.set i _).length=6;rw[bQ,h.rn],rg:=rgn,
       rx:=fun p q hp hq' he=>by
        have hp':p < L.ws.length:=by have:p < (L.ws.set i w).length:=hp;rwa [bQ] at this
        have hq2:q < L.ws.length:=by have:q < (L.ws.set i w).length:=hq';rwa [bQ] at this
        have he:(L.ws.set i w)[p].blk=(L.ws.set i w)[q].blk:=he;have hlp:=(h.rg p hp' (by rw[h.rn];rw[h.wn] at hp';exact hp')).lt.1;have hlq:=(h.rg q hq2 (by rw[h.rn];rw[h.wn] at hq2;exact hq2)).lt.1;by_cases hpi:i=p
        ·by_cases hqi:i=q
         ·omega
         ·subst hpi;rw[pz,jC hqi] at he;omega
        ·by_cases hqi:i=q
         ·subst hqi;rw[pz,jC hpi] at he;omega
         ·rw[jC hpi,jC hqi] at he;exact h.rx _ _ hp' hq2 he
       rd:=fun r hr y hy=>by
        rcases mX hr with hr | rfl
        ·exact⟨(h.rd r hr y hy).1.keep ko,(h.rd r hr y hy).2.keep ko⟩
        ·rcases List.mem_append.1 hy with hy | hy
         ·exact⟨(h.rd _ (bm hi2) y hy).1.keep ko,(h.rd _ (bm hi2) y hy).2.keep ko⟩
         ·rw[Am] at hy;subst hy;exact⟨hx1.keep ko,hx2.keep ko⟩
       rm:=by show(L.rl.set i _).map _=M.rows.set i _;rw[List.map_set,h.rm],
       gc:=⟨es,c,(hg _ (h.lo _ h.oc).2 (Ne.symm hb.2.2.2.1) e3).trans h1,h2⟩,gf:=h.gf.same hn' (hg _ h.gf.lt.1 (Ne.symm hb.2.2.2.2) e4),
       om:=eH _ h.om,oy:=eH _ h.oy,ot:=eH _ h.ot,oc:=eH _ h.oc,
       orw:=fun v hv=>by
        rcases mX hv with hv | rfl
        ·exact eH _ (h.orw v hv)
        ·rw[hw];exact rv
       of:=eH _ h.of,
       lo:=fun x hx=>by
        rcases List.mem_cons.1 hx with rfl | hx
        ·rw[←hw,ai];exact⟨hlt.2,hlt.1⟩
        ·have:=h.lo x hx;rw[ai];omega}
theorem yy{v:SV}{l:List Id}{H:Heap}{lo:Nat}{Q:Out→Heap→Prop}(hv:Sl H v l)(hl:l.length≤1000000)(hlo:lo≤H.n)
  (h:∀H' b,Keep H.n H H'→H.n≤b→Own H' b 138 l.length l→Q (.val (SV.sl b 0 l.length l.length true).iv) H'):W E0 lo (.call 68 [v.iv]) H Q:=by
 refine W.pure bu hlo ?_;rw[c68];obtain⟨H2,e1,e2,e3,e4⟩:=fi hv (z:=2) rfl 138 H.n [IV.int .u8 0,.int .i64 0] rfl (au _);simp(disch:=omega) only[ak,↓aj,seval,B68,↓hv.ln,↓e1,Int.reducePow];exact fun hk=>h _ _ hk (au _) e4
def uA(M:Mc)(o:Opn)(thr st:List Id):Except Int Mc:=
 if (M.ys.getD (o.y - 1).toNat od).inn=false then .error 12
 else if (M.ys.getD (o.y - 1).toNat od).count=2048 then .error 3
 else if M.rows.flatten.length≥2048 then .error 3
 else if jT M.t o.b o.a (st++[⟨o.y,(M.ys.getD (o.y - 1).toNat od).count⟩])≠0 then .error (jT M.t o.b o.a (st++[⟨o.y,(M.ys.getD (o.y - 1).toNat od).count⟩]))
 else .ok {M with t:=M.t.set (ix o.b o.a) (st++[⟨o.y,(M.ys.getD (o.y - 1).toNat od).count⟩]),ys:=M.ys.set (o.y - 1).toNat (lu (M.ys.getD (o.y - 1).toNat od)),
                  rows:=M.rows.set (o.y - 1).toNat (M.rows.getD (o.y - 1).toNat []++[⟨o.b,(M.ys.getD (o.y - 1).toNat od).new,thr,(M.ys.getD (o.y - 1).toNat od).pend⟩])}
theorem MI.tab2{n0 mb:Nat}{H:Heap}{ow:List Nat}{L:Ly}{M:Mc}(h:MI n0 mb H ow L M):Sl2 H (.sl L.tb 0 6 6 true) L.rl:=by
 have:=h.gt.sl true
 rw[h.wn] at this;exact⟨L.ws,this,by rw[h.wn,h.rn],fun i a b=>(h.rg i b a).sl⟩
theorem Er{n0 mb:Nat}{H:Heap}{ow:List Nat}{L:Ly}{M:Mc}(h:MI n0 mb H ow L M){o:Opn}(hy:1≤o.y∧o.y≤6)(hrl:M.rows.flatten.length≤2048){thr st:List Id}{tv sv:SV}(ht:Sl (H.off ow) tv thr)(hs:Sl H sv st)(hsl:st.length≤1000){lo:Nat}{Q:Out→Heap→Prop}(hlo:lo≤n0)(hn:n0≤H.n)
  (hq:MQ n0 mb H ow (uA M o thr st) Q):W E0 lo (.call 127 [.ptr mb 0,.agg [.int .u8 o.k,.int .u8 o.d,.int .u8 o.b,.int .i64 o.a,.int .u8 o.y,.int .i64 o.r],tv.iv,sv.iv]) H Q:=by
 obtain⟨i,hi⟩:∃i:Nat,o.y=(i:Int)+1:=⟨(o.y - 1).toNat,by omega⟩
 have hi6:i < 6:=by omega
 have hyl:i < L.yl.length:=by rw[h.yn];exact hi6
 have hys:i < M.ys.length:=by rw[h.ysn];exact hi6
 have ej:(i:Int)+1 - 1=(i:Int):=by omega
 unfold uA at hq;rw[show(o.y - 1).toNat=i by omega,ij (l:=M.ys),ca hys,gQ,←h.ysI hyl hys] at hq;have hlt:=h.lo _ h.om;have hlty:=h.lo _ h.oy;have rm:=af h.gm;have ry:=h.readY hyl;rw[uH] at ry;rw[avC];simp(disch:=omega) only[ak,↓aj,seval,FI,rm,ry,hi,ej,ff,show ¬H.n=L.yb by omega,show ¬H.n=mb by omega,↓FR,FW];have hmem:L.yl[i].y∈M.ys:=by rw[h.ysI hyl hys];exact bm _
 have hok:=h.yo _ hmem;have hv:=(h.yd _ (bm hyl)).unoff;have k1:Keep H.n H (H.new (.cells false 56 6 [.int .u8 o.k,.int .u8 o.d,.int .u8 o.b,.int .i64 o.a,.int .u8 ((i:Int)+1),.int .i64 o.r])):=.new _ _;refine adP hok (hv.keep k1) (by rw[ac];omega) (fun H2 e k2 hc=>?_) fun H2 b2 k2 hin hlt8 hb2 o2=>?_
 ·have hq':MQ n0 mb H ow (.error e) Q:=by
   rcases hc with⟨h1,rfl⟩ | ⟨h1,h2,rfl⟩
   ·rw[if_pos h1] at hq;exact hq
   ·rw[if_neg (by rw[h1];decide),if_pos h2] at hq;exact hq
  have hz:¬e=0:=by rcases hc with⟨_,rfl⟩ | ⟨_,_,rfl⟩<;>decide
  have hn2:=k2.1;rw[ac] at hn2;have kk:Keep H.n H H2:=k1.trans (k2.lower (by rw[ac];omega));clear hq hc;simp(disch:=omega) only[ak,↓aj,seval,FI,mL,↓FR,FW];generalize hH_H3:Heap.put _ _ _=H3;have hnH3:H3.n=H2.n+2:=by rw[←hH_H3];rfl
  have g3:=congrArg (fun h0=>Heap.get h0 (H2.n)) hH_H3.symm;simp(disch:=omega) only[ak,↓aj,seval] at g3
  have kH3:Keep H2.n H2 H3:=⟨by omega,fun x hx _=>by
   have gx:=congrArg (fun h0=>Heap.get h0 x) hH_H3.symm;simp(disch:=omega) only[ak,↓aj,seval] at gx;exact gx⟩
  clear hH_H3;exact hq'.1 e _ rfl (KeepO.of (kk.trans (kH3.lower (by omega))))
 ·rw[if_neg (by rw[hin];decide),if_neg (by omega)] at hq;have hn2:=k2.1;rw[ac] at hn2 hb2;have kk:Keep H.n H H2:=k1.trans (k2.lower (by rw[ac];omega));have g0:=k2.2 H.n (by rw[ac];omega) (by rw[ac];omega);rw[al,if_pos rfl] at g0;have h2:=h.keep kk;have r0:=af g0;have rm2:=af h2.gm;have hb2':=o2.2.1;clear k1 k2 hv rm ry;simp(disch:=omega) only[ak,↓aj,seval,FI,mL,rm2,show ¬H2.n=mb by omega,show ¬H2.n+1=mb by omega,↓FR,FW];generalize hH_H3:Heap.put _ _ _=H3;have hnH3:H3.n=H2.n+2:=by rw[←hH_H3];rfl
  have g3:=congrArg (fun h0=>Heap.get h0 (H2.n)) hH_H3.symm;simp(disch:=omega) only[ak,↓aj,seval] at g3;have g4:=congrArg (fun h0=>Heap.get h0 (H2.n+1)) hH_H3.symm;simp(disch:=omega) only[ak,↓aj,seval] at g4
  have kH3:Keep H2.n H2 H3:=⟨by omega,fun x hx _=>by
   have gx:=congrArg (fun h0=>Heap.get h0 x) hH_H3.symm;simp(disch:=omega) only[ak,↓aj,seval] at gx;exact gx⟩
  clear hH_H3;have hrf:L.rl.flatten.length=M.rows.flatten.length:=by rw[←h.rm,←List.map_flatten,mD]
  have h3:=h2.keep kH3;refine NT (v:=.sl L.tb 0 6 6 true) h3.tab2 (by rw[h.rn];omega) (by omega) (by omega) fun H4 k4=>?_;rw[hrf];have hn4:=k4.1;have g34:=(k4.2 H2.n (by omega) (by omega)).trans g3;have g44:=(k4.2 (H2.n+1) (by omega) (by omega)).trans g4;have g04:=(k4.2 H.n (by omega) (by omega)).trans ((kH3.2 H.n (by omega) (by omega)).trans g0);have k24:Keep H2.n H2 H4:=kH3.trans (k4.lower (by omega));have k04:Keep H.n H H4:=kk.trans (k24.lower (by omega));have h4:=h.keep k04;have o4:=o2.keep k24;have hb4:=o4.2.1;clear h3 k4 kH3 g3 g4 g0 r0 rm2 h2 o2 kk;by_cases hc:M.rows.flatten.length≥2048
  ·rw[if_pos hc] at hq;simp(disch:=omega) only[ak,↓aj,seval,FI,show((M.rows.flatten.length:Nat):Int)≥2048 by omega,↓FR,FW];exact hq.1 3 _ rfl (KeepO.of k04)
  ·rw[if_neg hc] at hq;have r04:=af g04;have r34:=af g34;have r44:=af g44;have rm4:=af h4.gm;have hs4:=hs.keep k04;simp(disch:=omega) only[ak,↓aj,seval,FI,show ¬((M.rows.flatten.length:Nat):Int)≥2048 by omega,r04,r34,r44,rm4,aq,↓FR,FW];generalize hH_H5:Heap.put _ _ _=H5;have hnH5:H5.n=H4.n+2:=by rw[←hH_H5];rfl
   have g5:=congrArg (fun h0=>Heap.get h0 (H4.n)) hH_H5.symm;simp(disch:=omega) only[ak,↓aj,seval] at g5;have g6:=congrArg (fun h0=>Heap.get h0 (H4.n+1)) hH_H5.symm;simp(disch:=omega) only[ak,↓aj,seval] at g6
   have kH5:Keep H4.n H4 H5:=⟨by omega,fun x hx _=>by
    have gx:=congrArg (fun h0=>Heap.get h0 x) hH_H5.symm;simp(disch:=omega) only[ak,↓aj,seval] at gx;exact gx⟩
   clear hH_H5;refine yy (hs4.keep kH5) (by omega) (by omega) fun H6 b6 k6 hb6 o6=>?_;have hn6:=k6.1;have k46:Keep H4.n H4 H6:=kH5.trans (k6.lower (by omega));have g56:=(k6.2 H4.n (by omega) (by omega)).trans g5;have g66:=(k6.2 (H4.n+1) (by omega) (by omega)).trans g6;have r56:=af g56;have o7:=rG (H:=H6) (e:=138) kT (⟨o.y,L.yl[i].y.count⟩:Id);obtain⟨H8,e8,n8,k8,o8⟩:=nU (e:=138) ((o6.keep (.new _ (.cells false 138 2 (Cell.cs (⟨o.y,L.yl[i].y.count⟩:Id))))).sl true) (o7.sl true) kT 16 (H6.n+1) (by simp) (by simp) (by simp;omega);have e8:ev1 (.append 138 2 16) [.slice b6 0 st.length st.length true,.slice H6.n 0 1 1 true] (H6.n+1) (H6.new (.cells false 138 2 [.int .u8 ((i:Int)+1),.int .i64 L.yl[i].y.count]))=some (.slice (H6.n+1) 0 (st.length+1) (st.length+1) false,H8):=by rw[←hi];exact e8
   simp(disch:=omega) only[ak,↓aj,seval,FI,r56,↓e8,aq,↓FR,FW]
   have hn8:H8.n=H6.n+2:=by rw[n8,ac]
   have k68:Keep H6.n H6 H8:=(Keep.new _ _).trans (k8.lower (by rw[ac];omega));have k48:Keep H4.n H4 H8:=k46.trans (k68.lower (by omega));have h8:=h4.keep k48
   have sv8:Sl H8 (.sl (H6.n+1) 0 (st.length+1) (st.length+1) false) (st++[(⟨o.y,L.yl[i].y.count⟩:Id)]):=by
    have:=o8.sl false
    rw[aW] at this;exact this
   refine Pq (v:=.sl (H6.n+1) 0 (st.length+1) (st.length+1) false) (l:=st++[(⟨o.y,L.yl[i].y.count⟩:Id)]) o.b o.a h.bv h8.bf.unoff h8.bb.unoff sv8 (by simp;omega) (au _) (fun H9 k9 he=>?_) fun H9 f' b' k9 he bd=>?_
   ·rw[if_pos he] at hq;have hn9:=k9.1;have k08:Keep H.n H H9:=k04.trans ((k48.trans (k9.lower (by omega))).lower (by omega));generalize jT M.t o.b o.a (st++[⟨o.y,L.yl[i].y.count⟩])=e at he hq;clear e8 o6 o7 o8 o4 h8 sv8 h4;simp(disch:=omega) only[ak,↓aj,seval,FI,bv,he,↓FR,FW];exact hq.1 e _ rfl (KeepO.of (k08.trans (Keep.newPut.lower (by omega))))
   ·rw[if_neg (by rw[he];decide)] at hq;have hn9:=k9.1;have ho:∀x∈ow,x < H8.n:=fun x hx=>by have:=(h.lo x hx).2;have:=k04.1;have:=k48.1;omega
    have k10:Keep H9.n H9 ((H9.new (.cells false 26 2 [.nilSlice,.nilSlice])).put H9.n (.cells false 26 2 [f'.iv,b'.iv])):=Keep.newPut;have k8P:Keep H8.n H8 ((H9.new (.cells false 26 2 [.nilSlice,.nilSlice])).put H9.n (.cells false 26 2 [f'.iv,b'.iv])):=k9.trans (k10.lower hn9);have kP:Keep H.n H ((H9.new (.cells false 26 2 [.nilSlice,.nilSlice])).put H9.n (.cells false 26 2 [f'.iv,b'.iv])):=k04.trans ((k48.trans (k8P.lower (by omega))).lower (by omega));have hP:=h.keep kP;have hm:=hP.setM h.rk (Sl2F.onto (bd.1.keep k10) ho) (Sl2F.onto (bd.2.1.keep k10) ho) (yw h.bv he);have hY:=hm.setY hi6 (Qk hok hin hlt8) (v:=.nil) (Sl.empty:Sl _ .nil ([]:List Ps));have hws:i < L.ws.length:=by rw[h.wn];exact hi6
    have hrs:i < L.rl.length:=by rw[h.rn];exact hi6
    have k49:Keep H4.n H4 H9:=k48.trans (k9.lower (by omega));have g09:=(k49.2 H.n (by omega) (by omega)).trans g04;have g39:=(k49.2 H2.n (by omega) (by omega)).trans g34;have k69:Keep H6.n H6 H9:=k68.trans (k9.lower (by omega));have g69:=(k69.2 (H4.n+1) (by omega) (by omega)).trans g66;have r09:=af g09;have r39:=af g39;have r69:=af g69;have rP:=af hP.gm;have rM:=af hm.gm;have gMy:=hm.fullY;have hfl:(aD L.yl).length=30:=by rw[aw,h.yn];rfl
    have hyb:¬L.yb=mb:=fun e=>by have h1:=h.fullY;have h2:=h.gm;rw[e,h2] at h1;cases h1
    have htb:=h.lo _ h.ot;have e2:¬L.yb=L.tb:=fun e=>by have h1:=h.fullY;have h2:=h.fullT;rw[e,h2] at h1;cases h1
    have e3:¬mb=L.tb:=fun e=>by have h1:=h.gm;have h2:=h.fullT;rw[e,h2] at h1;cases h1
    have h9:=h.keep (k04.trans ((k49.lower (by have:=k04.1;omega))));obtain⟨bw,exw,hwv,hbw,how⟩:=h.rg i hws hrs;have hbwo:bw∈ow:=by have:=h.orw _ (bm hws);rw[hwv] at this;exact this
    have hbwl:=h.lo _ hbwo;have gbw:=how.full;have e5:¬bw=mb:=fun e=>by have h2:=h.gm;rw[e,h2] at gbw;cases gbw
    have e6:¬L.tb=bw:=fun e=>by have h2:=h.fullT;rw[e,gbw] at h2;cases h2
    have hlen:L.rl[i].length≤2048:=by
     have h1:=te L.rl i hrs;have h2:=lN L.rl (i+1);omega
    have gT:=h9.fullT;have hflT:(aD L.ws).length=6:=by rw[aw,h.wn];rfl
    have rT:H9.read L.tb i 1=some [.slice bw 0 L.rl[i].length L.rl[i].length exw]:=by
     have:=(h9.gt.sl true).read mG i hws
     rw[sA,hwv] at this;simpa [SV.blk,SV.off,SV.iv] using this
    obtain⟨x,hx⟩:∃x:Lv,x=⟨⟨o.b,L.yl[i].y.new,thr,L.yl[i].y.pend⟩,tv,.sl b2 0 L.yl[i].y.pend.length L.yl[i].y.pend.length true⟩:=⟨_,rfl⟩;have hcs:Cell.cs x=[.int .u8 o.b,.bool L.yl[i].y.new,tv.iv,.slice b2 0 L.yl[i].y.pend.length L.yl[i].y.pend.length true]:=by rw[hx];rfl
    obtain⟨HY,hHY⟩:∃HY,HY=((((H9.new (.cells false 26 2 [.nilSlice,.nilSlice])).put H9.n (.cells false 26 2 [f'.iv,b'.iv])).put mb (.cells false 147 7 [.int .i64 M.rack,f'.iv,b'.iv,.slice L.yb 0 6 6 true,.slice L.tb 0 6 6 true,.map L.cb,L.fv.iv])).put L.yb (.cells false 133 5 (aA (aD L.yl) (i*5) [.bool (lu L.yl[i].y).inn,.int .i64 (lu L.yl[i].y).place,.int .i64 (lu L.yl[i].y).count,.bool (lu L.yl[i].y).new,.nilSlice]))):=⟨_,rfl⟩
    have hYn:HY.n=H9.n+1:=by rw[hHY];rfl
    have hN:=(hHY▸hY).keep (Keep.new HY (.cells false 158 4 (Cell.cs x)))
    have k4N:KeepO ow H4 (HY.new (.cells false 158 4 (Cell.cs x))):=by
     have a:=((KeepO.of (ow:=ow) (k48.trans (k8P.lower (by have:=k48.1;omega)))).trans (KeepO.put (ow:=ow) (o:=.cells false 147 7 [.int .i64 M.rack,f'.iv,b'.iv,.slice L.yb 0 6 6 true,.slice L.tb 0 6 6 true,.map L.cb,L.fv.iv]) h.om) fun x hx=>.inl hx).trans (KeepO.put (ow:=ow) (o:=.cells false 133 5 (aA (aD L.yl) (i*5) [.bool (lu L.yl[i].y).inn,.int .i64 (lu L.yl[i].y).place,.int .i64 (lu L.yl[i].y).count,.bool (lu L.yl[i].y).new,.nilSlice])) h.oy) fun x hx=>.inl hx;rw[←hHY] at a;exact a.trans (KeepO.of (Keep.new HY _)) fun x hx=>.inl hx
    have kHN:=(KeepO.of (ow:=ow) k04).trans k4N fun x hx=>.inl hx
    have hu:Sl (HY.new (.cells false 158 4 (Cell.cs x))) (.sl (H9.n+1) 0 1 1 true) [x]:=by
     have:=(rG (H:=HY) (e:=158) Dt x).sl true
     rw[hYn] at this;exact this
    have rg:Tg n0 (HY.new (.cells false 158 4 (Cell.cs x))) 158 L.ws[i] L.rl[i]:=hN.rg i hws hrs;obtain⟨HA,w,eA,kA,gA,wA⟩:=Tg.push rg hu (by simp) Dt 56 lo hlo (by rw[ac,hYn];have:=k04.1;have:=k49.1;omega) (by simp;omega);have hx1:Sl ((HY.new (.cells false 158 4 (Cell.cs x))).off ow) x.tv x.p.thr:=by rw[show x.tv=tv by rw[hx],show x.p.thr=thr by rw[hx]];exact ht.keep kHN.off'
    have hx2:Sl ((HY.new (.cells false 158 4 (Cell.cs x))).off ow) x.pv x.p.past:=by
     have hb2o:b2∉ow:=fun hx=>by have:=(h.lo _ hx).2;omega
     rw[show x.pv=.sl b2 0 L.yl[i].y.pend.length L.yl[i].y.pend.length true by rw[hx],show x.p.past=L.yl[i].y.pend by rw[hx]];exact((o4.keepO k4N hb2o).sl true).onto fun _=>hb2o
    have hR:=hN.setR hi6 hws hrs kA gA wA hx1 hx2;have gTN:(HY.new (.cells false 158 4 (Cell.cs x))).get L.tb=some (.cells false 140 1 (aD L.ws)):=hN.fullT;have hgT:HA.get L.tb=some (.cells false 140 1 (aD L.ws)):=(kA.2 L.tb (by rw[ac,hYn];have:=k04.1;have:=k49.1;omega) (by rw[hwv];show L.tb∉[bw];simpa using e6)).trans gTN;rw[hwv,hHY,hcs] at eA;have eA:ev1 (.append 158 4 56) [.slice bw 0 L.rl[i].length L.rl[i].length exw,.slice (H9.n+1) 0 1 1 true] lo _=some (w.iv,HA):=eA
    have hM:({M with t:=M.t.set (ix o.b o.a) (st++[⟨o.y,L.yl[i].y.count⟩]),ys:=M.ys.set i (lu L.yl[i].y),rows:=M.rows.set i (M.rows.getD i []++[⟨o.b,L.yl[i].y.new,thr,L.yl[i].y.pend⟩])}:Mc)={M with t:=M.t.set (ix o.b o.a) (st++[⟨o.y,L.yl[i].y.count⟩]),ys:=M.ys.set i (lu L.yl[i].y),rows:=M.rows.set i ((L.rl[i]++[x]).map (·.p))}:=by
     have:M.rows.getD i []=L.rl[i].map (·.p):=by
      rw[←h.rm,ij,uo,ca hrs];rfl
     rw[this,pw,hx];rfl
    rw[hM] at hq;have hmbl:=h.lo _ h.om;have g9m:=h9.gm;have rM9:=af g9m;clear hY hN rg hu gbw how h9 hP hm h8 h4 sv8 o8 o7 o6 e8 hM gTN hx1 hx2 bd o4 gA wA;simp(disch:=omega) only[ak,↓aj,seval,FI,bv,r09,r39,r69,rP,rM,gMy,hfl,rT,e2,e3,e5,lj,ej,ff,hyb,↓eA,hgT,hflT,g9m,rM9,show ¬H9.n=mb by omega,show ¬H.n=mb by omega,show ¬mb=H.n by omega,show ¬L.yb=H.n by omega,show ¬mb=H4.n+1 by omega,show ¬L.yb=H4.n+1 by omega,show ¬H9.n=L.tb by omega,show ¬bw=H.n by omega,show ¬H.n=bw by omega,show ¬mb=bw by omega,↓FR,FW];refine hq.2 _ _ _ _ rfl (kHN.trans hR.1 fun x hx=>.inl hx) (fun x hx=>eH _ hx) (fun x hx=>?_) hR.2;rcases List.mem_cons.1 hx with rfl | hx
    ·right;rw[ac,hYn];have:=k04.1;have:=k49.1;omega
    ·exact .inl hx
theorem MQ.after{n0 mb:Nat}{H H1:Heap}{ow ow1:List Nat}{r:Except Int Mc}{Q:Out→Heap→Prop}(hq:MQ n0 mb H ow r Q)(k:KeepO ow H H1)(h1:∀x∈ow,x∈ow1)(h2:∀x∈ow1,x∈ow∨H.n≤x):MQ n0 mb H1 ow1 r Q:=by
 refine⟨fun e H' he k'=>hq.1 e H' he (k.trans k' h2),fun M' H' ow' L' he k' a b hM=>hq.2 M' H' ow' L' he (k.trans k' h2) (fun x hx=>a x (h1 x hx)) (fun x hx=>?_) hM⟩
 rcases b x hx with h | h
 ·exact h2 x h
 ·right;have:=k.1;omega
theorem Qm{s:Int}(h: -12≤s∧s≤178∧s.tmod 2=0):yq (s+1)=true∧yq (s - 1)=true:=by
 obtain⟨h1,h2,h3⟩:=h;unfold yq;have h4:=Gk h3;have a:(s+1).tmod 2≠0:=fun e=>by have:=Gk e;omega
 have b:(s - 1).tmod 2≠0:=fun e=>by have:=Gk e;omega
 simp[a,b];omega
theorem qa{M:Mc}(hr: -4≤M.rack∧M.rack≤4){o:Opn}(hne:av o.b o.a=0){p s:Int}(h:iT M o=.ok (p,s)):yq p=true:=by
 have hs:=Qm (BP hne hr);unfold iT at h;split at h
 ·cases h
 split at h
 ·split at h
  ·cases h
  ·injection h with h;injection h with h1 h2;rw[←h1];exact hs.1
 ·split at h
  ·cases h
  ·injection h with h;injection h with h1 h2;rw[←h1];exact hs.2
theorem i6{M M1:Mc}{y p e:Int}(h:mr M y p e=.ok M1):M1.rack=M.rack∧M1.t=M.t∧M1.rows=M.rows∧M1.cr=M.cr∧M1.fa=M.fa:=by
 unfold mr at h;split at h
 ·cases h
 split at h
 ·cases h
 ·injection h with h;subst h;exact⟨rfl,rfl,rfl,rfl,rfl⟩
def Ew(M:Mc)(o:Opn):Except Int Mc:=match iT M o with
 | .error e=>.error e
 | .ok ps=>match mr M o.y ps.1 ps.2 with
   | .error e=>.error e
   | .ok M1=>uA M1 o (zx M1 o) []
def DB(M:Mc)(o:Opn):Except Int Mc:=match iT M o with
 | .error e=>.error e
 | .ok ps=>match mr M o.y ps.1 ps.2 with
   | .error e=>.error e
   | .ok M1=>if (zx M1 o).length≥4 then .error 9 else uA M1 o [] (zx M1 o)
def El(M:Mc)(o:Opn):Except Int Mc:=match iT M o with
 | .error e=>.error e
 | .ok ps=>mr M o.y ps.1 ps.1
theorem iI{M:Mc}{o:Opn}{e:Int}(h:iT M o=.error e):e=12:=by
 unfold iT at h;split at h
 ·injection h with h;exact h.symm
 split at h
 ·split at h
  ·injection h with h;exact h.symm
  ·cases h
 ·split at h
  ·injection h with h;exact h.symm
  ·cases h
theorem lF{M:Mc}{y p s e:Int}(h:mr M y p s=.error e):¬e=0:=by
 unfold mr at h;split at h
 ·injection h with h;subst h;decide
 split at h
 ·injection h with h;subst h;decide
 ·cases h
theorem adM{n0 mb:Nat}{H:Heap}{ow:List Nat}{L:Ly}{M:Mc}(h:MI n0 mb H ow L M){o:Opn}(hd:o.d=0∨o.d=1)(hne:av o.b o.a=0)(hy:1≤o.y∧o.y≤6){lo:Nat}{Q:Out→Heap→Prop}(hlo:lo≤n0)(hn:n0≤H.n)
  (hq:MQ n0 mb H ow (El M o) Q):W E0 lo (.call 74 [.ptr mb 0,.agg [.int .u8 o.k,.int .u8 o.d,.int .u8 o.b,.int .i64 o.a,.int .u8 o.y,.int .i64 o.r]]) H Q:=by
 unfold El at hq;rw[c74];simp(disch:=omega) only[ak,↓aj,seval,B74,aq,↓FR,FW];have k1:Keep H.n H (H.new (.cells false 56 6 [.int .u8 o.k,.int .u8 o.d,.int .u8 o.b,.int .i64 o.a,.int .u8 o.y,.int .i64 o.r])):=.new _ _;refine tV (h.keep k1) hd hne hy (by rw[ac];omega) (fun e H2 k2 he=>?_) fun p s H2 k2 he=>?_
 ·rw[he] at hq;have hz:=iI he;subst hz;simp(disch:=omega) only[ak,↓aj,seval,B74,↓FR,FW];exact hq.1 _ _ rfl (KeepO.of (k1.trans (k2.lower (by rw[ac];omega))))
 ·rw[he] at hq;simp only at hq;have hn2:=k2.1;rw[ac] at hn2;have g0:=k2.2 H.n (by rw[ac];omega) (by rw[ac];omega);rw[al,if_pos rfl] at g0;have r0:=af g0;have kk:Keep H.n H H2:=k1.trans (k2.lower (by rw[ac];omega));clear k1 k2;simp(disch:=omega) only[ak,↓aj,seval,B74,r0,↓FR,FW];have hq2:=hq.after (KeepO.of kk) (fun _ hx=>hx) (fun _ hx=>.inl hx);refine zg (h.keep kk) (qa h.rk hne he) hy hlo (by omega) ⟨fun e H3 he3 k3=>?_,fun M3 H3 ow3 L3 he3 k3 ha hb hM=>?_⟩
  ·simp(disch:=omega) only[ak,↓aj,seval,B74,↓FR,FW]
   exact hq2.1 e _ he3 k3
  ·simp(disch:=omega) only[ak,↓aj,seval,B74,↓FR,FW]
   exact hq2.2 _ _ _ _ he3 k3 ha hb hM
theorem adS{n0 mb:Nat}{H:Heap}{ow:List Nat}{L:Ly}{M:Mc}(h:MI n0 mb H ow L M){o:Opn}(hd:o.d=0∨o.d=1)(hne:av o.b o.a=0)(hy:1≤o.y∧o.y≤6)(hrl:M.rows.flatten.length≤2048){lo:Nat}{Q:Out→Heap→Prop}(hlo:lo≤n0)(hn:n0≤H.n)
  (hq:MQ n0 mb H ow (Ew M o) Q):W E0 lo (.call 72 [.ptr mb 0,.agg [.int .u8 o.k,.int .u8 o.d,.int .u8 o.b,.int .i64 o.a,.int .u8 o.y,.int .i64 o.r]]) H Q:=by
 unfold Ew at hq;rw[c72];simp(disch:=omega) only[ak,↓aj,seval,B72,aq,↓FR,FW];have k1:Keep H.n H (H.new (.cells false 56 6 [.int .u8 o.k,.int .u8 o.d,.int .u8 o.b,.int .i64 o.a,.int .u8 o.y,.int .i64 o.r])):=.new _ _;refine tV (h.keep k1) hd hne hy (by rw[ac];omega) (fun e H2 k2 he=>?_) fun p s H2 k2 he=>?_
 ·rw[he] at hq;have hz:=iI he;subst hz;simp(disch:=omega) only[ak,↓aj,seval,B72,↓FR,FW];exact hq.1 _ _ rfl (KeepO.of (k1.trans (k2.lower (by rw[ac];omega))))
 ·rw[he] at hq;simp only at hq;have hn2:=k2.1;rw[ac] at hn2;have g0:=k2.2 H.n (by rw[ac];omega) (by rw[ac];omega);rw[al,if_pos rfl] at g0;have r0:=af g0;have kk:Keep H.n H H2:=k1.trans (k2.lower (by rw[ac];omega));clear k1 k2;simp(disch:=omega) only[ak,↓aj,seval,B72,r0,↓FR,FW];have hq2:=hq.after (KeepO.of kk) (fun _ hx=>hx) (fun _ hx=>.inl hx);refine zg (h.keep kk) (qa h.rk hne he) hy hlo (by omega) ⟨fun e H3 he3 k3=>?_,fun M3 H3 ow3 L3 he3 k3 ha hb hM=>?_⟩
  ·rw[he3] at hq2;have hz:=lF he3;simp(disch:=omega) only[ak,↓aj,seval,B72,↓FR,FW];exact hq2.1 e _ rfl k3
  ·rw[he3] at hq2;simp only at hq2;obtain⟨q1,q2,q3,q4,q5⟩:=i6 he3;have hq3:=hq2.after k3 ha hb;have hx:H.n∉ow:=fun hx=>by have:=(h.lo _ hx).2;omega
   have g3:=(k3.2 H.n (by omega) hx).trans g0;have r3:=af g3;have rm:=af hM.gm;have hn3:=k3.1;have h6:=hM.bv.len6;clear hq hq2 r0 g0;simp(disch:=omega) only[ak,↓aj,seval,B72,r3,rm,aq,↓FR,FW];refine uR o.b o.a hM.bf.unoff hM.bb.unoff h6.1 h6.2 (by omega) fun H4 v k4 f4=>?_;rw[jd M3.t hne] at f4;have f4:Fresh _ H4 138 v (zx M3 o):=f4;have h4:=hM.keep k4;have hn4:=k4.1;have sv:=f4.sl;simp(disch:=omega) only[ak,↓aj,seval,B72,↓FR,FW]
   have hon:Sl (H4.off ow3) v (zx M3 o):=sv.onto fun hl hx=>by
    rcases f4 with⟨_,e⟩ | ⟨b,e,hb',_⟩
    ·exact hl e
    ·rw[e] at hx
     have:=(hM.lo _ hx).2
     have:b < H3.n:=this
     omega
   refine Er h4 hy (by rw[q3];exact hrl) hon (sv:=.nil) Sl.empty (by simp) hlo (by omega) ⟨fun e H5 he5 k5=>?_,fun M5 H5 ow5 L5 he5 k5 ha5 hb5 hM5=>?_⟩
   ·simp(disch:=omega) only[ak,↓aj,seval,B72,↓FR,FW]
    exact(hq3.after (KeepO.of k4) (fun _ hx=>hx) fun _ hx=>.inl hx).1 e _ he5 k5
   ·simp(disch:=omega) only[ak,↓aj,seval,B72,↓FR,FW]
    exact(hq3.after (KeepO.of k4) (fun _ hx=>hx) fun _ hx=>.inl hx).2 _ _ _ _ he5 k5 ha5 hb5 hM5
theorem ac9{n0 mb:Nat}{H:Heap}{ow:List Nat}{L:Ly}{M:Mc}(h:MI n0 mb H ow L M){o:Opn}(hd:o.d=0∨o.d=1)(hne:av o.b o.a=0)(hy:1≤o.y∧o.y≤6)(hrl:M.rows.flatten.length≤2048){lo:Nat}{Q:Out→Heap→Prop}(hlo:lo≤n0)(hn:n0≤H.n)
  (hq:MQ n0 mb H ow (DB M o) Q):W E0 lo (.call 73 [.ptr mb 0,.agg [.int .u8 o.k,.int .u8 o.d,.int .u8 o.b,.int .i64 o.a,.int .u8 o.y,.int .i64 o.r]]) H Q:=by
 unfold DB at hq;rw[c73];simp(disch:=omega) only[ak,↓aj,seval,B73,aq,↓FR,FW];have k1:Keep H.n H (H.new (.cells false 56 6 [.int .u8 o.k,.int .u8 o.d,.int .u8 o.b,.int .i64 o.a,.int .u8 o.y,.int .i64 o.r])):=.new _ _;refine tV (h.keep k1) hd hne hy (by rw[ac];omega) (fun e H2 k2 he=>?_) fun p s H2 k2 he=>?_
 ·rw[he] at hq;have hz:=iI he;subst hz;simp(disch:=omega) only[ak,↓aj,seval,B73,↓FR,FW];exact hq.1 _ _ rfl (KeepO.of (k1.trans (k2.lower (by rw[ac];omega))))
 ·rw[he] at hq;simp only at hq;have hn2:=k2.1;rw[ac] at hn2;have g0:=k2.2 H.n (by rw[ac];omega) (by rw[ac];omega);rw[al,if_pos rfl] at g0;have r0:=af g0;have kk:Keep H.n H H2:=k1.trans (k2.lower (by rw[ac];omega));clear k1 k2;simp(disch:=omega) only[ak,↓aj,seval,B73,r0,↓FR,FW];have hq2:=hq.after (KeepO.of kk) (fun _ hx=>hx) (fun _ hx=>.inl hx);refine zg (h.keep kk) (qa h.rk hne he) hy hlo (by omega) ⟨fun e H3 he3 k3=>?_,fun M3 H3 ow3 L3 he3 k3 ha hb hM=>?_⟩
  ·rw[he3] at hq2;have hz:=lF he3;simp(disch:=omega) only[ak,↓aj,seval,B73,↓FR,FW];exact hq2.1 e _ rfl k3
  ·rw[he3] at hq2;simp only at hq2;obtain⟨q1,q2,q3,q4,q5⟩:=i6 he3;have hq3:=hq2.after k3 ha hb;have hx:H.n∉ow:=fun hx=>by have:=(h.lo _ hx).2;omega
   have g3:=(k3.2 H.n (by omega) hx).trans g0;have r3:=af g3;have rm:=af hM.gm;have hn3:=k3.1;have h6:=hM.bv.len6;clear hq hq2 r0 g0;simp(disch:=omega) only[ak,↓aj,seval,B73,r3,rm,aq,↓FR,FW];refine uR o.b o.a hM.bf.unoff hM.bb.unoff h6.1 h6.2 (by omega) fun H4 v k4 f4=>?_;rw[jd M3.t hne] at f4;have f4:Fresh _ H4 138 v (zx M3 o):=f4;have h4:=hM.keep k4;have hn4:=k4.1;have sv:=f4.sl;have r4:=af ((k4.2 H.n (by omega) (by omega)).trans g3);have hq4:=hq3.after (KeepO.of k4) (fun _ hx=>hx) fun _ hx=>.inl hx;by_cases hf:(zx M3 o).length≥4
   ·rw[if_pos hf] at hq4;simp(disch:=omega) only[ak,↓aj,seval,B73,↓sv.ln,show(((zx M3 o).length:Nat):Int)≥4 by omega,↓FR,FW];exact hq4.1 _ _ rfl (KeepO.refl _ _)
   ·rw[if_neg hf] at hq4;simp(disch:=omega) only[ak,↓aj,seval,B73,↓sv.ln,r4,show ¬(((zx M3 o).length:Nat):Int)≥4 by omega,↓FR,FW];refine Er h4 hy (by rw[q3];exact hrl) (tv:=.nil) Sl.empty sv (by omega) hlo (by omega) ⟨fun e H5 he5 k5=>?_,fun M5 H5 ow5 L5 he5 k5 ha5 hb5 hM5=>?_⟩
    ·simp(disch:=omega) only[ak,↓aj,seval,B73,↓FR,FW]
     exact hq4.1 e _ he5 k5
    ·simp(disch:=omega) only[ak,↓aj,seval,B73,↓FR,FW]
     exact hq4.2 _ _ _ _ he5 k5 ha5 hb5 hM5
def va(b:Int):Int:=if b=1 then 0 else 1
def vb(b a r:Int):Int:=if b=1 then a+r else a - r
theorem am8{b a r:Int}(hne:av b a=0)(hr: -4≤r∧r≤4){H:Heap}{lo:Nat}{Q:Out→Heap→Prop}(hlo:lo≤H.n)
  (he:∀H',Keep H.n H H'→av (va b) (vb b a r)≠0→Q (.val (.tuple [.agg [.int .u8 0,.int .i64 0],.int .i64 11])) H')
  (h:∀H',Keep H.n H H'→av (va b) (vb b a r)=0→Q (.val (.tuple [.agg [.int .u8 (va b),.int .i64 (vb b a r)],.int .i64 0])) H'):
  W E0 lo (.call 99 [.agg [.int .u8 b,.int .i64 a],.int .i64 r]) H Q:=by
 refine W.pure bu hlo ?_;obtain⟨hb,h1,h2⟩:=eK hne;rw[c99];simp(disch:=omega) only[ak,↓aj,seval,B99,aq,↓FR,FW];generalize hH_H1:Heap.new _ _=H1;have hnH1:H1.n=H.n+2:=by rw[←hH_H1];rfl
 have g0:=congrArg (fun h0=>Heap.get h0 (H.n)) hH_H1.symm;simp(disch:=omega) only[ak,↓aj,seval] at g0;have g1:=congrArg (fun h0=>Heap.get h0 (H.n+1)) hH_H1.symm;simp(disch:=omega) only[ak,↓aj,seval] at g1
 have kH1:Keep H.n H H1:=⟨by omega,fun x hx _=>by
  have gx:=congrArg (fun h0=>Heap.get h0 x) hH_H1.symm;simp(disch:=omega) only[ak,↓aj,seval] at gx;exact gx⟩
 clear hH_H1;refine cn b a (by omega) fun H2 k2=>?_;have hn2:=k2.1;replace g0:=(k2.2 _ (by omega) (by omega)).trans g0;replace g1:=(k2.2 _ (by omega) (by omega)).trans g1;have r0:=af g0;simp(disch:=omega) only[ak,↓aj,seval,B99,hne,↓FR,FW];refine pU r ?_;have hrb:=rackB_iff.2 hr;rcases hb with rfl | rfl
 ·simp(disch:=omega) only[ak,↓aj,seval,B99,hrb,r0,aq,↓FR,FW]
  generalize hH_H3:Heap.put _ _ _=H3;have hnH3:H3.n=H2.n+1:=by rw[←hH_H3];rfl
  have g2:=congrArg (fun h0=>Heap.get h0 (H2.n)) hH_H3.symm;simp(disch:=omega) only[ak,↓aj,seval] at g2
  have kH3:Keep H2.n H2 H3:=⟨by omega,fun x hx _=>by
   have gx:=congrArg (fun h0=>Heap.get h0 x) hH_H3.symm;simp(disch:=omega) only[ak,↓aj,seval] at gx;exact gx⟩
  clear hH_H3;have g03:=(kH3.2 H.n (by omega) (by omega)).trans g0;have g13:=(kH3.2 (H.n+1) (by omega) (by omega)).trans g1;refine cn 1 (a - r) (by omega) fun H4 k4=>?_;have hn4:=k4.1;replace g2:=(k4.2 _ (by omega) (by omega)).trans g2;replace g03:=(k4.2 _ (by omega) (by omega)).trans g03;replace g13:=(k4.2 _ (by omega) (by omega)).trans g13;have r2:=af g2;have e1:va 0=1:=rfl;have e2:vb 0 a r=a - r:=rfl;rw[e1,e2] at he h;clear g0 r0;rcases ju 1 (a - r) with hv | hv
  ·simp(disch:=omega) only[ak,↓aj,seval,B99,hv,r2,g13,aq,↓FR,FW]
   exact fun k=>h _ k hv
  ·simp(disch:=omega) only[ak,↓aj,seval,B99,hv,r2,g13,aq,↓FR,FW]
   exact fun k=>he _ k (by omega)
 ·simp(disch:=omega) only[ak,↓aj,seval,B99,hrb,r0,aq,↓FR,FW]
  generalize hH_H3:Heap.put _ _ _=H3;have hnH3:H3.n=H2.n+1:=by rw[←hH_H3];rfl
  have g2:=congrArg (fun h0=>Heap.get h0 (H2.n)) hH_H3.symm;simp(disch:=omega) only[ak,↓aj,seval] at g2
  have kH3:Keep H2.n H2 H3:=⟨by omega,fun x hx _=>by
   have gx:=congrArg (fun h0=>Heap.get h0 x) hH_H3.symm;simp(disch:=omega) only[ak,↓aj,seval] at gx;exact gx⟩
  clear hH_H3;have g03:=(kH3.2 H.n (by omega) (by omega)).trans g0;have g13:=(kH3.2 (H.n+1) (by omega) (by omega)).trans g1;refine cn 0 (a+r) (by omega) fun H4 k4=>?_;have hn4:=k4.1;replace g2:=(k4.2 _ (by omega) (by omega)).trans g2;replace g03:=(k4.2 _ (by omega) (by omega)).trans g03;replace g13:=(k4.2 _ (by omega) (by omega)).trans g13;have r2:=af g2;have e1:va 1=0:=rfl;have e2:vb 1 a r=a+r:=rfl;rw[e1,e2] at he h;clear g0 r0;rcases ju 0 (a+r) with hv | hv
  ·simp(disch:=omega) only[ak,↓aj,seval,B99,hv,r2,g13,aq,↓FR,FW]
   exact fun k=>h _ k hv
  ·simp(disch:=omega) only[ak,↓aj,seval,B99,hv,r2,g13,aq,↓FR,FW]
   exact fun k=>he _ k (by omega)
def ap6(M:Mc)(o:Opn):Int:=(if aH (va o.b) (vb o.b o.a M.rack) M.rack < aH o.b o.a M.rack then aH (va o.b) (vb o.b o.a M.rack) M.rack else aH o.b o.a M.rack)+1
def Dv(M:Mc)(o:Opn):Except Int Mc:=
 if (zx M o).length=0 then .error 13
 else if av (va o.b) (vb o.b o.a M.rack)≠0 then .error 11
 else if M.ys.any (fun y=>y.inn&&y.place==ap6 M o)=true then .error 12
 else if gW (aQ M.t) (aI M.t) o.b o.a (va o.b) (vb o.b o.a M.rack)≠0 then .error (gW (aQ M.t) (aI M.t) o.b o.a (va o.b) (vb o.b o.a M.rack))
 else .ok {M with t:=nh M.t o.b (ix o.b o.a) (ix (va o.b) (vb o.b o.a M.rack))}
theorem anl{t:List (List Id)}(hV:Valid t){fb fa tb ta:Int}(h:gW (aQ t) (aI t) fb fa tb ta=0):Valid (nh t fb (ix fb fa) (ix tb ta))∧av fb fa=0∧av tb ta=0:=by
 rw[QS hV] at h;split at h
 ·omega
 split at h
 ·omega
 split at h
 ·omega
 ·rename_i c1 c2 c3;rw[not_or,not_or,Classical.not_not,Classical.not_not] at c1;exact⟨EC hV fb (NM c1.1).2.2 (NM c1.2.1).2.2 (apI c1.1 c1.2.1 c1.2.2) (by omega),c1.1,c1.2.1⟩
theorem ac1{n0 mb:Nat}{H:Heap}{ow:List Nat}{L:Ly}{M:Mc}(h:MI n0 mb H ow L M){o:Opn}(hne:av o.b o.a=0){lo:Nat}{Q:Out→Heap→Prop}(hlo:lo≤n0)(hn:n0≤H.n)
  (hq:MQ n0 mb H ow (Dv M o) Q):W E0 lo (.call 75 [.ptr mb 0,.agg [.int .u8 o.k,.int .u8 o.d,.int .u8 o.b,.int .i64 o.a,.int .u8 o.y,.int .i64 o.r]]) H Q:=by
 have hlt:=h.lo _ h.om;have rm:=af h.gm;obtain⟨h6,h6'⟩:=h.bv.len6;rw[c75];simp(disch:=omega) only[ak,↓aj,seval,B75,rm,aq,show ¬H.n=mb by omega,↓FR,FW];have k1:Keep H.n H (H.new (.cells false 56 6 [.int .u8 o.k,.int .u8 o.d,.int .u8 o.b,.int .i64 o.a,.int .u8 o.y,.int .i64 o.r])):=.new _ _;refine uR o.b o.a (h.bf.unoff.keep k1) (h.bb.unoff.keep k1) h6 h6' (by rw[ac];omega) fun H2 v k2 f2=>?_;rw[jd M.t hne] at f2;have f2:Fresh _ H2 138 v (zx M o):=f2;have kk:Keep H.n H H2:=k1.trans (k2.lower (by rw[ac];omega));have hn2:=k2.1;rw[ac] at hn2;have g0:=k2.2 H.n (by rw[ac];omega) (by rw[ac];omega);rw[al,if_pos rfl] at g0;have r0:=af g0;have h2:=h.keep kk;have rm2:=af h2.gm;have sv:=f2.sl;have ln:=sv.ln;clear f2 sv
 have h4:(zx M o).length≤4:=by
  have:=jt (aQ M.t) (aI M.t) o.b o.a 4 (fun l hl=>h.bv.four l (fl hl)) (fun l hl=>h.bv.four l (dw hl))
  rw[jd M.t hne] at this;exact this
 unfold Dv at hq;clear k1 k2 rm;by_cases hl:(zx M o).length=0
 ·rw[if_pos hl] at hq;simp(disch:=omega) only[ak,↓aj,seval,B75,↓ln,hl,↓FR,FW];exact hq.1 13 _ rfl (KeepO.of kk)
 rw[if_neg hl] at hq;simp(disch:=omega) only[ak,↓aj,seval,B75,↓ln,hl,r0,rm2,aq,↓FR,FW];refine am8 hne h.rk (by omega) (fun H3 k3 he=>?_) fun H3 k3 he=>?_
 ·rw[if_pos he] at hq;have hn3:=k3.1;simp(disch:=omega) only[ak,↓aj,seval,B75,↓FR,FW];exact hq.1 11 _ rfl (KeepO.of ((kk.trans (k3.lower (by omega))).trans (Keep.newPut.lower (by omega))))
 rw[if_neg (fun hx=>hx he)] at hq;have hn3:=k3.1;have g03:=(k3.2 H.n (by omega) (by omega)).trans g0;have k03:Keep H.n H H3:=kk.trans (k3.lower (by omega));have h3:=h.keep k03;have rm3:=af h3.gm;have r03:=af g03;have hs1:=BP hne h.rk;have hs2:=BP he h.rk;clear k3 kk r0 rm2 h2 g0 ln;unfold ap6 at hq;obtain⟨tb,htb⟩:∃tb,tb=va o.b:=⟨_,rfl⟩;obtain⟨ta,hta⟩:∃ta,ta=vb o.b o.a M.rack:=⟨_,rfl⟩;rw[←htb,←hta] at hq he hs2⊢;clear htb hta;simp(disch:=omega) only[ak,↓aj,seval,B75,r03,rm3,aq,show ¬H3.n=mb by omega,show ¬H3.n=H.n by omega,show ¬mb=H3.n by omega,show ¬H.n=H3.n by omega,↓FR,FW];generalize hH_H4:Heap.put _ _ _=H4;have hnH4:H4.n=H3.n+1:=by rw[←hH_H4];rfl
 have g5:=congrArg (fun h0=>Heap.get h0 (H3.n)) hH_H4.symm;simp(disch:=omega) only[ak,↓aj,seval] at g5
 have kH4:Keep H3.n H3 H4:=⟨by omega,fun x hx _=>by
  have gx:=congrArg (fun h0=>Heap.get h0 x) hH_H4.symm;simp(disch:=omega) only[ak,↓aj,seval] at gx;exact gx⟩
 clear hH_H4;refine oL o.b o.a M.rack (by omega) fun H5 k5=>?_;have hn5:=k5.1;replace g5:=(k5.2 _ (by omega) (by omega)).trans g5;have k35:Keep H3.n H3 H5:=kH4.trans (k5.lower (by omega));have g05:=(k35.2 H.n (by omega) (by omega)).trans g03;have h5:=h3.keep k35;have r5:=af g5;have rm5:=af h5.gm;obtain⟨s1,e1⟩:∃s1,aH o.b o.a M.rack=s1:=⟨_,rfl⟩;rw[e1] at hq hs1⊢;clear r03 rm3 k5 kH4 g03 e1;simp(disch:=omega) only[ak,↓aj,seval,B75,r5,rm5,aq,↓FR,FW];refine oL tb ta M.rack (by omega) fun H6 k6=>?_;have hn6:=k6.1;replace g5:=(k6.2 _ (by omega) (by omega)).trans g5;replace g05:=(k6.2 _ (by omega) (by omega)).trans g05;have h6m:=h5.keep k6;have k06:Keep H.n H H6:=k03.trans ((k35.trans (k6.lower (by omega))).lower (by omega));obtain⟨s2,e2⟩:∃s2,aH tb ta M.rack=s2:=⟨_,rfl⟩;rw[e2] at hq hs2⊢;obtain⟨mn,hmn⟩:∃mn,(if s2 < s1 then s2 else s1)=mn:=⟨_,rfl⟩;rw[hmn] at hq;have hmb: -12≤mn∧mn≤178:=by rw[←hmn];split<;>omega
 have rm6:=af h6m.gm;clear r5 rm5 k6 e2 h5 k35 h3 k03;simp(disch:=omega) only[ak,↓aj,seval,B75,hmn,rm6,aq,↓FR,FW];obtain⟨bt,hbt⟩:∃bt,mn+1=bt:=⟨_,rfl⟩;obtain⟨x5,hx5⟩:∃x5,H3.n=x5:=⟨_,rfl⟩;rw[hbt] at hq⊢;rw[hx5] at g5 hnH4⊢;clear hmn hmb hs1 hs2 hbt;refine aO (fun k fr H'=>∃i,i+k=6∧Keep H6.n H6 H'∧(∀(j:Nat) (hj:j < L.yl.length),j < i→(L.yl[j].y.inn&&L.yl[j].y.place==bt)=false)∧fr.marks=[]∧fr.tm.length=84∧fr.tm.getD 0 IV.undef=.ptr mb 0∧fr.tm.getD 3 IV.undef=.ptr H.n 0∧fr.tm.getD 5 IV.undef=.ptr x5 0∧fr.tm.getD 7 IV.undef=.int .i64 bt∧fr.tm.getD 51 IV.undef=.slice L.yb 0 6 6 true∧fr.tm.getD 52 IV.undef=.int .i64 6∧fr.tm.getD 53 IV.undef=.int .i64 i) ?_ 6 ⟨0,by omega,Keep.refl _ _,fun j hj h0=>absurd h0 (by omega),rfl,rfl,rfl,rfl,rfl,rfl,rfl,rfl,rfl⟩;rintro k ⟨tm,mk⟩ H' ⟨i,hik,hk,hno,rfl,htm,t0,t3,t5,t7,t51,t52,t53⟩ L1 hN hJ;have hn':=hk.1;have h7:=h6m.keep hk;rw[nr tm htm,t0,t3,t5,t7,t51,t52,t53];by_cases hi:i < 6
 ·have hyl:i < L.yl.length:=by rw[h.yn];exact hi
  have ry:=h7.readY hyl;rw[uH] at ry;by_cases hp:(L.yl[i].y.inn&&L.yl[i].y.place==bt)=true
  ·have hany:M.ys.any (fun y=>y.inn&&y.place==bt)=true:=by
    rw[List.any_eq_true];have hys:i < M.ys.length:=by rw[h.ysn];exact hi
    exact⟨M.ys[i],bm _,by rw[←h.ysI hyl hys];exact hp⟩
   rw[if_pos hany] at hq;obtain⟨hp1,hp2⟩:=Bool.and_eq_true_iff.1 hp;have hp3:L.yl[i].y.place=bt:=by simpa using hp2
   simp(disch:=omega) only[ak,↓aj,seval,afF,ry,aq,hp1,hp3,hJ,↓FR,FW]
   exact hq.1 12 _ rfl (KeepO.of (k06.trans ((hk.trans (Keep.newPut.lower (by omega))).lower (by omega))))
  ·have hp:(L.yl[i].y.inn&&L.yl[i].y.place==bt)=false:=by simpa using hp
   have kn:∀o1 o2,Keep H6.n H6 ((H'.new o1).put H'.n o2):=fun o1 o2=>hk.trans (Keep.newPut.lower (by omega))
   have hno':∀(j:Nat) (hj:j < L.yl.length),j < i+1→(L.yl[j].y.inn&&L.yl[j].y.place==bt)=false:=fun j hj h1=>by
    rcases gP j i with h2 | h2
    ·exact hno j hj h2
    ·have:j=i:=by omega
     subst this;exact hp
   cases hp1:L.yl[i].y.inn with
   | false=>
     simp(disch:=omega) only[ak,↓aj,seval,afF,ry,aq,hp1,↓FR,FW]
     exact hN (k - 1) _ _ (by omega) ⟨i+1,by omega,kn _ _,hno',rfl,rfl,rfl,rfl,rfl,rfl,rfl,rfl,rfl⟩
   | true=>
     rw[hp1,tB] at hp;have hp3:¬L.yl[i].y.place=bt:=by simpa using hp
     simp(disch:=omega) only[ak,↓aj,seval,afF,ry,aq,hp1,hp3,↓FR,FW]
     exact hN (k - 1) _ _ (by omega) ⟨i+1,by omega,kn _ _,hno',rfl,rfl,rfl,rfl,rfl,rfl,rfl,rfl,rfl⟩
 ·have hany:¬M.ys.any (fun y=>y.inn&&y.place==bt)=true:=by
   rw[List.any_eq_true];rintro⟨y,hy,hp⟩;obtain⟨j,hj,rfl⟩:=List.mem_iff_getElem.1 hy;have hyl:j < L.yl.length:=by rw[h.yn];rw[h.ysn] at hj;exact hj
   rw[←h.ysI hyl hj] at hp;have hj6:j < 6:=by rw[h.ysn] at hj;exact hj
   rw[hno j hyl (by omega)] at hp;cases hp
  rw[if_neg hany] at hq;have g57:=(hk.2 x5 (by omega) (by omega)).trans g5;have g07:=(hk.2 H.n (by omega) (by omega)).trans g05;have r57:=af g57;have r07:=af g07;have rm7:=af h7.gm;have hF:=jO M.t;have hB:=hZ h.bv.len;have k07:Keep H.n H H':=k06.trans (hk.lower (by omega));have hi6:i=6:=by omega
  clear hno h6m rm6 g5 g05 hk k06;simp(disch:=omega) only[ak,↓aj,seval,afF,hJ,hi6,r57,r07,rm7,aq,↓FR,FW];refine ad0 o.b o.a tb ta h7.bf.unoff h7.bb.unoff (by omega) (by omega) h6 h6' (au _) (fun H8 k8 he8=>?_) fun H8 f' b' k8 he8 bd=>?_
  ·rw[if_pos he8] at hq;have hn8:=k8.1;generalize gW (aQ M.t) (aI M.t) o.b o.a tb ta=e at he8 hq;simp(disch:=omega) only[ak,↓aj,seval,B75,bv,he8,↓FR,FW];exact hq.1 e _ rfl (KeepO.of (k07.trans ((k8.trans (Keep.newPut.lower (by omega))).lower (by omega))))
  ·rw[if_neg (by rw[he8];decide)] at hq;have hn8:=k8.1;obtain⟨hv8,_,hv9⟩:=anl h.bv he8;obtain⟨eF,eB⟩:=NX h.bv hne hv9;rw[eF,eB] at bd;have k08:Keep H.n H H8:=k07.trans (k8.lower (by omega));have ho:∀x∈ow,x < H'.n:=fun x hx=>by have:=(h7.lo x hx).2;omega
   have k9:Keep H8.n H8 ((H8.new (.cells false 26 2 [.nilSlice,.nilSlice])).put H8.n (.cells false 26 2 [f'.iv,b'.iv])):=Keep.newPut;have k0P:=k08.trans (k9.lower (by have:=k08.1;omega));have h9:=h.keep k0P;have h10:=h9.setM h.rk (Sl2F.onto (bd.1.keep k9) ho) (Sl2F.onto (bd.2.1.keep k9) ho) hv8;have gm8:=(h.keep k08).gm;have rm8:=af gm8;clear bd eF eB r57 r07 rm7;simp(disch:=omega) only[ak,↓aj,seval,B75,bv,gm8,rm8,show ¬H8.n=mb by omega,show ¬mb=H8.n by omega,↓FR,FW];exact hq.2 _ _ ow _ rfl ((KeepO.of k0P).trans (KeepO.put h.om) fun x hx=>.inl hx) (fun _ hx=>hx) (fun _ hx=>.inl hx) h10
end Go.Iso.Gen
end
