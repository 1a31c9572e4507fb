/-
  machines.
-/
import Derived.Test.YtpnbiapmndbhgaaGreatDoorFnT
import Derived.Test.YtpnbiapmndbhgaaGreatDoorIsoP7
import Derived.Test.YtpnbiapmndbhgaaGreatDoorFnS
set_option linter.unusedSimpArgs false
set_option linter.unusedVariables false
set_option maxHeartbeats 4000000
set_option maxRecDepth 10000
set_option linter.defProp false
section
namespace Go.Iso.Gen
open Go.Iso
structure Yn where
 inn:Bool
 place:Int
 count:Int
 new:Bool
 pend:List Ps
 deriving Inhabited
def mI(y:Yn)(v:SV):List IV:=[.bool y.inn,.int .i64 y.place,.int .i64 y.count,.bool y.new,v.iv]
def rF(d:Int):Bool:=d==0||d==1
def vH(x:Int):Bool:=(x.tmod 2 !=0)&&(decide (x≥ -13)&&decide (x≤179))
def Rz(p:Ps):Prop:=bx p.id=true∧(p.dir=0∨p.dir=1)
def Red(l:List Ps):Prop:=∀i (h:i+1 < l.length),kh l[i] l[i+1]=false
structure OkY(y:Yn):Prop where
 c0:0≤y.count
 c1:y.count≤2048
 out:y.inn=false→y.place=0∧y.new=false∧y.pend=[]
 pl:y.inn=true→vH y.place=true
 len:y.pend.length≤4096
 ok:∀p∈y.pend,Rz p
 red:Red y.pend
theorem qj(d:Int){lo:Nat}{H:Heap}{Q:Out→Heap→Prop}:W E0 lo (.call 145 [.int .u8 d]) H Q=Q (.val (.bool (rF d))) H:=by
 rw[SQ];unfold rF
 cases e0:(d==0)<;>cases e1:(d==1)<;>simp(disch:=omega) only[ai,↓ah,seval,Tx,e0,e1,Bool.or_true,Bool.or_false]
theorem vY(p:Int){lo:Nat}{H:Heap}{Q:Out→Heap→Prop}:W E0 lo (.call 113 [.int .i64 p]) H Q=Q (.val (.bool (vH p))) H:=by
 rw[Ya];unfold vH
 cases e0:(p.tmod 2 !=0)<;>cases e1:decide (p≥ -13)<;>cases e2:decide (p≤179)<;>simp(disch:=omega) only[ai,↓ah,seval,YV,e0,e1,e2,Bool.and_true,Bool.and_false]
theorem AU{p:Ps}(hp:Rz p){H:Heap}{lo:Nat}{Q:Out→Heap→Prop}(hlo:lo≤H.n)(h:∀H',Keep H.n H H'→Q (.val (.bool true)) H'):W E0 lo (.call 114 [.agg [.int .u8 p.id.y,.int .i64 p.id.n,.bool p.front,.int .u8 p.dir]]) H Q:=by
 refine gu _ hlo h fun R hR=>?_;have hd:rF p.dir=true:=by unfold rF;rcases hp.2 with h | h<;>simp[h]
 rw[X9];simp(disch:=omega) only[ai,↓ah,seval,TB];refine vL p.id (by rw[ac];omega) fun H2 k2=>?_;have g2:H2.get H.n=some (.cells false 196 4 [.int .u8 p.id.y,.int .i64 p.id.n,.bool p.front,.int .u8 p.dir]):=by rw[k2.2 _ (by rw[ac];omega) (by rw[ac];omega),aj,if_pos rfl]
 have rg:=ae g2;simp(disch:=omega) only[ai,↓ah,seval,TB,hp.1,rg,qj,hd];exact hR _
def QW(tm:List IV)(h:tm.length=65):=(bL tm 65 h).trans (by simp only[List.range,List.range.loop,List.map_cons,List.map_nil];exact rfl)
theorem q9{y:Yn}(hy:OkY y){v:SV}{H:Heap}{lo:Nat}{Q:Out→Heap→Prop}(hv:Sl H v y.pend)(hlo:lo≤H.n)
  (h:∀H',Keep H.n H H'→Q (.val (.int .i64 0)) H'):W E0 lo (.call 61 [.agg (mI y v)]) H Q:=by
 refine gu _ hlo h fun R hR=>?_;have h0:=hy.c0;have h1:=hy.c1;have hpl:=hy.len;rw[Zh];by_cases hi:y.inn=false
 ·obtain⟨p0,n0,l0⟩:=hy.out hi;have hl0:y.pend.length=0:=by rw[l0];rfl
  simp(disch:=omega) only[ai,↓ah,seval,Yu,mI,hi,p0,n0,↓hv.ln,hl0,show ¬y.count < 0 by omega,show ¬y.count>2048 by omega]
  exact hR _
 ·have hi:y.inn=true:=by simpa using hi
  have hp:=hy.pl hi;simp(disch:=omega) only[ai,↓ah,seval,Yu,mI,hi,vY,hp,↓hv.ln,show ¬y.count < 0 by omega,show ¬y.count>2048 by omega,show ¬(y.pend.length:Int)>4096 by omega];generalize hH_H1:Heap.new _ _=H1;have hnH1:H1.n=H.n+1:=by rw[←hH_H1];rfl
  have g0:=congrArg (fun h0=>Heap.get h0 (H.n)) hH_H1.symm;simp(disch:=omega) only[ai,↓ah,seval] at g0
  have kH1:Keep H.n H H1:=⟨by omega,fun x hx _=>by
   have gx:=congrArg (fun h0=>Heap.get h0 x) hH_H1.symm;simp(disch:=omega) only[ai,↓ah,seval] at gx;exact gx⟩
  clear hH_H1;have hv1:=hv.keep kH1;refine aM (fun k fr H'=>∃i,i+k=y.pend.length∧Keep H1.n H1 H'∧fr.marks=[]∧fr.tm.length=65∧fr.tm.getD 1 IV.undef=.ptr H.n 0∧fr.tm.getD 40 IV.undef=v.iv∧fr.tm.getD 41 IV.undef=.int .i64 y.pend.length∧fr.tm.getD 42 IV.undef=.int .i64 i) ?_ y.pend.length ⟨0,by omega,Keep.refl _ _,rfl,rfl,rfl,rfl,rfl,rfl⟩;rintro k ⟨tm,mk⟩ H' ⟨i,hik,hk,rfl,htm,t1,t40,t41,t42⟩ L hN hJ;have hn:=hk.1;have hv':=hv1.keep hk;have g0':=(hk.2 H.n (by omega) (by omega)).trans g0;rw[QW tm htm,t1,t40,t41,t42];by_cases hil:i < y.pend.length
  ·have r1:=hv'.read mE i hil;have hok:=hy.ok _ (List.getElem_mem hil);have rd:=hy.red;simp(disch:=omega) only[ai,↓ah,seval,Hz,↓hv'.idx,r1,wy,↓FR,FW];refine AU hok (by rw[af,ac];omega) fun H2 k2=>?_;have hn2:=k2.1;have g2:H2.get H'.n=some (.cells false 196 4 [.int .u8 y.pend[i].id.y,.int .i64 y.pend[i].id.n,.bool y.pend[i].front,.int .u8 y.pend[i].dir]):=by rw[k2.2 _ (by rw[af,ac];omega) (by rw[af,ac];omega),aa,if_pos rfl]
   have k3:Keep H'.n H' H2:=(Keep.newPut).trans (k2.lower (by rw[af,ac];omega));rw[af,ac] at hn2;clear k2;have rg2:=ae g2;by_cases hi0:i=0
   ·subst hi0;simp(disch:=omega) only[ai,↓ah,seval,Hz,↓FR,FW];exact hN (k - 1) _ _ (by omega) ⟨1,by omega,hk.trans (k3.lower hn),rfl,rfl,rfl,rfl,rfl,rfl⟩
   ·have hv2:=hv'.keep k3;have r2:=hv2.read mE (i - 1) (by omega);have g02:=(k3.2 H.n (by omega) (by omega)).trans g0';have rg0:=ae g02;have ec:=hy.red (i - 1) (by omega);rw[getElem_congr (rfl:y.pend=y.pend) (show i - 1+1=i by omega)] at ec;have ei:(i:Int) - 1=((i - 1:Nat):Int):=by omega
    simp(disch:=omega) only[ai,↓ah,seval,Hz,show(i:Int)>0 by omega,ei,rg0,rg2,↓hv2.idx,r2,wy,Int.toNat_natCast,↓FR,FW]
    refine yh y.pend[i - 1] y.pend[i] (hy.ok _ (List.getElem_mem _)).2 hok.2 (by omega) fun H3 k4=>?_;have k5:=k3.trans (k4.lower (by omega));simp(disch:=omega) only[ai,↓ah,seval,Hz,ec,↓FR,FW];exact hN (k - 1) _ _ (by omega) ⟨i+1,by omega,hk.trans (k5.lower hn),rfl,rfl,rfl,rfl,rfl,rfl⟩
  ·simp(disch:=omega) only[ai,↓ah,seval,Hz,hJ]
   exact hR _
def oh:Yn:=⟨false,0,0,false,[]⟩
def nF(y:Yn)(side:Int):Yn:=⟨true,if side=1 then 179 else -13,y.count,true,[]⟩
theorem KE{y:Yn}(hy:OkY y){v:SV}{side:Int}(hs:side=0∨side=1){H:Heap}{lo:Nat}{Q:Out→Heap→Prop}(hv:Sl H v y.pend)(hlo:lo≤H.n)
  (h:∀H',Keep H.n H H'→Q (.val (if y.inn=true then .tuple [.agg (mI oh .nil),.int .i64 12] else .tuple [.agg (mI (nF y side) .nil),.int .i64 0])) H'):W E0 lo (.call 122 [.agg (mI y v),.int .u8 side]) H Q:=by
 refine gu _ hlo h fun R hR=>?_;rw[X1];simp(disch:=omega) only[ai,↓ah,seval,Ph,mI];generalize hH_H1:Heap.new _ _=H1;have hnH1:H1.n=H.n+2:=by rw[←hH_H1];rfl
 have g0:=congrArg (fun h0=>Heap.get h0 (H.n)) hH_H1.symm;simp(disch:=omega) only[ai,↓ah,seval] at g0;have g1:=congrArg (fun h0=>Heap.get h0 (H.n+1)) hH_H1.symm;simp(disch:=omega) only[ai,↓ah,seval] at g1
 have kH1:Keep H.n H H1:=⟨by omega,fun x hx _=>by
  have gx:=congrArg (fun h0=>Heap.get h0 x) hH_H1.symm;simp(disch:=omega) only[ai,↓ah,seval] at gx;exact gx⟩
 clear hH_H1;refine q9 hy (hv.keep kH1) (by omega) fun H2 k2=>?_;have hn2:=k2.1;have g02:=(k2.2 H.n (by omega) (by omega)).trans g0;have g12:=(k2.2 (H.n+1) (by omega) (by omega)).trans g1;have r02:=ae g02;have r12:=ae g12;have hsd:rF side=true:=by unfold rF;rcases hs with rfl | rfl<;>rfl
 by_cases hi:y.inn=true
 ·rw[if_pos hi] at hR;simp(disch:=omega) only[ai,↓ah,seval,Ph,qj,hsd,g02,g12,r02,r12,hi,bD];exact hR _
 ·rw[if_neg hi] at hR;have hi:y.inn=false:=by simpa using hi
  rcases hs with rfl | rfl
  ·simp(disch:=omega) only[ai,↓ah,seval,Ph,qj,hsd,g02,g12,r02,r12,hi,bD]
   exact hR _
  ·simp(disch:=omega) only[ai,↓ah,seval,Ph,qj,hsd,g02,g12,r02,r12,hi,bD]
   exact hR _
def nm(y:Yn):Yn:=⟨false,0,y.count,false,[]⟩
theorem J3{y:Yn}(hy:OkY y){v:SV}{H:Heap}{lo:Nat}{Q:Out→Heap→Prop}(hv:Sl H v y.pend)(hlo:lo≤H.n)
  (h:∀H',Keep H.n H H'→Q (.val (if y.inn=true then .tuple [.agg (mI (nm y) .nil),.int .i64 0] else .tuple [.agg (mI oh .nil),.int .i64 12])) H'):W E0 lo (.call 123 [.agg (mI y v)]) H Q:=by
 refine gu _ hlo h fun R hR=>?_;rw[X0];simp(disch:=omega) only[ai,↓ah,seval,RN,mI];generalize hH_H1:Heap.new _ _=H1;have hnH1:H1.n=H.n+2:=by rw[←hH_H1];rfl
 have g0:=congrArg (fun h0=>Heap.get h0 (H.n)) hH_H1.symm;simp(disch:=omega) only[ai,↓ah,seval] at g0;have g1:=congrArg (fun h0=>Heap.get h0 (H.n+1)) hH_H1.symm;simp(disch:=omega) only[ai,↓ah,seval] at g1
 have kH1:Keep H.n H H1:=⟨by omega,fun x hx _=>by
  have gx:=congrArg (fun h0=>Heap.get h0 x) hH_H1.symm;simp(disch:=omega) only[ai,↓ah,seval] at gx;exact gx⟩
 clear hH_H1;refine q9 hy (hv.keep kH1) (by omega) fun H2 k2=>?_;have hn2:=k2.1;have g02:=(k2.2 H.n (by omega) (by omega)).trans g0;have g12:=(k2.2 (H.n+1) (by omega) (by omega)).trans g1;have r02:=ae g02;have r12:=ae g12;by_cases hi:y.inn=true
 ·rw[if_pos hi] at hR;simp(disch:=omega) only[ai,↓ah,seval,RN,g02,g12,r02,r12,hi,bD];exact hR _
 ·rw[if_neg hi] at hR;have hi:y.inn=false:=by simpa using hi
  simp(disch:=omega) only[ai,↓ah,seval,RN,g02,g12,r02,r12,hi,bD]
  exact hR _
def la(y:Yn):Yn:=⟨true,y.place,y.count+1,false,[]⟩
theorem Nf{y:Yn}(hy:OkY y){v:SV}{H:Heap}{lo:Nat}{Q:Out→Heap→Prop}(hv:Sl H v y.pend)(hlo:lo≤H.n)
  (h:∀H' e,Keep H.n H H'→(y.inn=false∧e=12∨y.inn=true∧y.count=2048∧e=3)→Q (.val (.tuple [.agg (mI oh .nil),.agg [.int .i64 0,.bool false,.nilSlice],.int .i64 e])) H')
  (hok:∀H' b,Keep H.n H H'→y.inn=true→y.count < 2048→H.n≤b→Own H' b 196 y.pend.length y.pend→Q (.val (.tuple [.agg (mI (la y) .nil),.agg [.int .i64 y.count,.bool y.new,(SV.sl b 0 y.pend.length y.pend.length true).iv],.int .i64 0])) H'):
  W E0 lo (.call 160 [.agg (mI y v)]) H Q:=by
 refine W.pure aX hlo ?_;rw[XC];simp(disch:=omega) only[ai,↓ah,seval,LO,mI];generalize hH_H1:Heap.new _ _=H1;have hnH1:H1.n=H.n+3:=by rw[←hH_H1];rfl
 have g0:=congrArg (fun h0=>Heap.get h0 (H.n)) hH_H1.symm;simp(disch:=omega) only[ai,↓ah,seval] at g0;have g1:=congrArg (fun h0=>Heap.get h0 (H.n+1)) hH_H1.symm;simp(disch:=omega) only[ai,↓ah,seval] at g1;have g2:=congrArg (fun h0=>Heap.get h0 (H.n+2)) hH_H1.symm;simp(disch:=omega) only[ai,↓ah,seval] at g2
 have kH1:Keep H.n H H1:=⟨by omega,fun x hx _=>by
  have gx:=congrArg (fun h0=>Heap.get h0 x) hH_H1.symm;simp(disch:=omega) only[ai,↓ah,seval] at gx;exact gx⟩
 clear hH_H1;have hpl:=hy.len;have hc1:=hy.c1;have hc0:=hy.c0;refine q9 hy (hv.keep kH1) (by omega) fun H2 k2=>?_;have hn2:=k2.1;have hv2:=(hv.keep kH1).keep k2;have g02:=(k2.2 H.n (by omega) (by omega)).trans g0;have g12:=(k2.2 (H.n+1) (by omega) (by omega)).trans g1;have g22:=(k2.2 (H.n+2) (by omega) (by omega)).trans g2;have r02:=ae g02;have r12:=ae g12;have r22:=ae g22;by_cases hi:y.inn=true
 ·by_cases hc:y.count=2048
  ·simp(disch:=omega) only[ai,↓ah,seval,LO,g02,g12,g22,r02,r12,r22,hi,hc,bD]
   exact fun hk=>h _ _ hk (.inr ⟨hi,hc,rfl⟩)
  ·have ec:(y.count==2048)=false:=by simpa using hc
   simp(disch:=omega) only[ai,↓ah,seval,LO,g02,g12,g22,r02,r12,r22,hi,ec,bD,↓FR,FW]
   refine wz hv2 (by omega) (Nat.le_refl _) fun H3 b k3 hb o3=>?_;have hn3:=k3.1;have g03:=(k3.2 H.n (by omega) (by omega)).trans g02;have g13:=(k3.2 (H.n+1) (by omega) (by omega)).trans g12;have g23:=(k3.2 (H.n+2) (by omega) (by omega)).trans g22;have r03:=ae g03;have r13:=ae g13;have r23:=ae g23;clear g0 g1 g2 g02 g12 g22 r02 r12 r22;simp(disch:=omega) only[ai,↓ah,seval,LO,g03,g13,g23,r03,r13,r23,bD,↓FR,FW];refine fun hk=>hok _ b hk hi (by omega) (by omega) (o3.same (by simp only[af,ac];omega) ?_);have hb3:=o3.2.1;rw[aa,if_neg (by omega),aa,if_neg (by omega),aa,if_neg (by omega),aj,if_neg (by omega)]
 ·have hi:y.inn=false:=by simpa using hi
  simp(disch:=omega) only[ai,↓ah,seval,LO,g02,g12,g22,r02,r12,r22,hi,bD]
  exact fun hk=>h _ _ hk (.inl ⟨hi,rfl⟩)
theorem JA{n0 b cap:Nat}{u:SV}{l st0:List Ps}{H:Heap}{lo:Nat}{Q:Out→Heap→Prop}(hlo:lo≤n0)(hn0:n0≤b)(hb:b < H.n)(hu:∀H',Keep n0 H H'→Sl H' u l)(ho:Own H b 196 cap st0)(hcap:st0.length+l.length≤cap)(hcap2:cap≤1000000)(hd:∀p∈l,p.dir=0∨p.dir=1)(hd0:∀p∈st0,p.dir=0∨p.dir=1)
  (h:∀H',Keep n0 H H'→Own H' b 196 cap (l.foldl d5 st0)→Q (.val (.slice b 0 (l.foldl d5 st0).length cap true)) H'):W E0 lo (.call 195 [.slice b 0 st0.length cap true,u.iv]) H Q:=by
 have hu0:=hu H (Keep.refl _ _);rw[Xo];simp(disch:=omega) only[ai,↓ah,seval,Tt,↓hu0.ln];refine aM (fun k fr H'=>∃i st,i+k=l.length∧st=(l.take i).foldl d5 st0∧Keep n0 H H'∧Own H' b 196 cap st∧fr.marks=[]∧fr.tm.length=39∧fr.tm.getD 0 IV.undef=.slice b 0 st.length cap true∧fr.tm.getD 8 IV.undef=u.iv∧fr.tm.getD 9 IV.undef=.int .i64 l.length∧fr.tm.getD 10 IV.undef=.int .i64 i) ?_ l.length ⟨0,st0,by omega,rfl,Keep.refl _ _,ho,rfl,rfl,rfl,rfl,rfl,rfl⟩;rintro k ⟨tm,mk⟩ H' ⟨i,st,hik,hst,hk,ho,rfl,htm,t0,t8,t9,t10⟩ L hN hJ;have hn:=hk.1;have hu':=hu H' hk;rw[Ab tm htm,t0,t8,t9,t10];by_cases hi:i < l.length
 ·have r1:=hu'.read mE i hi;have e2:(l.take (i+1)).foldl d5 st0=d5 st l[i]:=by rw[hst];rw[List.take_succ_eq_append_getElem hi,List.foldl_append];rfl
  have hsl:st.length≤st0.length+i:=by
   rw[hst]
   have:=Bk (l.take i) st0
   rw[List.length_take] at this;omega
  have hdi:=hd _ (List.getElem_mem hi)
  have hds:∀q∈st,q.dir=0∨q.dir=1:=fun q hq=>by
   rw[hst] at hq;rcases Bj _ _ _ hq with h | h
   ·exact hd0 _ h
   ·exact hd _ (List.mem_of_mem_take h)
  rcases List.eq_nil_or_concat st with rfl | ⟨s,q,hsq⟩
  ·have ho1:=ho.keep (Keep.newPut (o:=.cells false 196 4 [.int .u8 0,.int .i64 0,.bool false,.int .u8 0]) (o':=.cells false 196 4 [.int .u8 l[i].id.y,.int .i64 l[i].id.n,.bool l[i].front,.int .u8 l[i].dir]));obtain⟨H4,e4,k4,o4⟩:=Bq (lo:=lo) ho1 l[i] (by rw[List.length_nil];omega) (by omega);rw[af,ac] at e4;rw[wy,List.length_nil] at e4;simp(disch:=omega) only[ai,↓ah,seval,CM,↓hu'.idx,r1,wy,↓e4];exact hN (k - 1) _ _ (by omega) ⟨i+1,[l[i]],by omega,by rw[e2,oK],(hk.trans (Keep.newPut.lower (by omega))).trans (k4 n0 hn0),o4,rfl,rfl,rfl,rfl,rfl,rfl⟩
  ·rw[List.concat_eq_append] at hsq;subst hsq;have ho1:=ho.keep (Keep.newPut (o:=.cells false 196 4 [.int .u8 0,.int .i64 0,.bool false,.int .u8 0]) (o':=.cells false 196 4 [.int .u8 l[i].id.y,.int .i64 l[i].id.n,.bool l[i].front,.int .u8 l[i].dir]));have e6:(s++[q])[s.length]'(by simp)=q:=by simp
   have e5:(s++[q]).length=s.length+1:=by simp
   have r2:H'.read b (s.length*4) 4=some (Cell.cs q):=by
    have:=(ho.sl true).read mE s.length (by simp)
    rw[e6] at this;simpa [SV.blk,SV.off] using this
   have d1:((s.length+1:Nat):Int)>0:=by omega
   have ej:((s.length+1:Nat):Int) - 1=(s.length:Int):=by omega
   rw[e5] at hsl;have hq:=hds q (by simp);simp(disch:=omega) only[ai,↓ah,seval,CM,↓hu'.idx,r1,wy,e5,d1,ej,r2,Int.toNat_natCast];refine yh q l[i] hq hdi (by rw[af,ac];omega) fun H2 k2=>?_;have hn2:=k2.1;have g2:H2.get H'.n=some (.cells false 196 4 [.int .u8 l[i].id.y,.int .i64 l[i].id.n,.bool l[i].front,.int .u8 l[i].dir]):=by rw[k2.2 _ (by rw[af,ac];omega) (by rw[af,ac];omega),aa,if_pos rfl]
   rw[af,ac] at hn2;have ho2:=ho1.keep k2;have kk:Keep n0 H H2:=(hk.trans (Keep.newPut.lower (by omega))).trans (k2.lower (by rw[af,ac];omega));have rg:=ae g2;clear k2;by_cases hc:kh q l[i]=true
   ·rw[kZ,if_pos hc] at e2;have hle:=ho2.1;rw[e5] at hle
    have bb:aI (s.length+1) cap false true true [IV.int .i64 (s.length:Int),IV.int .i64 (cap:Int)]=some (0,s.length,some cap):=by
     simp only[aI,bk];rw[if_pos ⟨by omega,by omega⟩];simp only[Option.bind_some,Int.toNat_natCast];rw[if_pos ⟨by omega,by omega⟩];rfl
    simp(disch:=omega) only[ai,↓ah,seval,CM,hc,e5,d1,ej,bb]
    exact hN (k - 1) _ _ (by omega) ⟨i+1,s,by omega,e2.symm,kk,N2 ho2,rfl,rfl,rfl,rfl,rfl,rfl⟩
   ·rw[kZ,if_neg hc] at e2;have hc:kh q l[i]=false:=by simpa using hc
    obtain⟨H4,e4,k4,o4⟩:=Bq (lo:=lo) ho2 l[i] (by rw[e5];omega) (by omega);rw[wy,e5] at e4;simp(disch:=omega) only[ai,↓ah,seval,CM,hc,e5,d1,ej,rg,↓e4];refine hN (k - 1) _ _ (by omega) ⟨i+1,s++[q]++[l[i]],by omega,e2.symm,kk.trans (k4 n0 hn0),o4,rfl,rfl,?_⟩;exact⟨by rw[List.length_append,e5];rfl,rfl,rfl,rfl⟩
 ·rw[List.take_of_length_le (by omega)] at hst;subst hst;simp(disch:=omega) only[ai,↓ah,seval,CM,hJ];exact h H' hk ho
def nu(y:Yn)(to:Int)(l:List Ps):Yn:=⟨y.inn,to,y.count,y.new,l.foldl d5 y.pend⟩
def QY(tm:List IV)(h:tm.length=60):=(bL tm 60 h).trans (by simp only[List.range,List.range.loop,List.map_cons,List.map_nil];exact rfl)
theorem Pu{y:Yn}(hy:OkY y){v u:SV}{l:List Ps}{to:Int}(hto:vH to=true){H:Heap}{lo:Nat}{Q:Out→Heap→Prop}(hv:Sl H v y.pend)(hu:Sl H u l)(hl:l.length≤100000)(hp:∀p∈l,Rz p)(hlo:lo≤H.n)
  (h:∀H' e,Keep H.n H H'→(y.inn=false∧e=12∨y.inn=true∧4096 < (nu y to l).pend.length∧e=3)→Q (.val (.tuple [.agg (mI oh .nil),.int .i64 e])) H')
  (hok:∀H' b,Keep H.n H H'→y.inn=true→(nu y to l).pend.length≤4096→H.n≤b→Own H' b 196 (nu y to l).pend.length (nu y to l).pend→Q (.val (.tuple [.agg (mI (nu y to l) (SV.sl b 0 (nu y to l).pend.length (nu y to l).pend.length true)),.int .i64 0])) H'):
  W E0 lo (.call 156 [.agg (mI y v),.int .i64 to,u.iv]) H Q:=by
 refine W.pure aX hlo ?_;rw[XG];simp(disch:=omega) only[ai,↓ah,seval,CT,mI];generalize hH_H1:Heap.new _ _=H1;have hnH1:H1.n=H.n+2:=by rw[←hH_H1];rfl
 have g0:=congrArg (fun h0=>Heap.get h0 (H.n)) hH_H1.symm;simp(disch:=omega) only[ai,↓ah,seval] at g0;have g1:=congrArg (fun h0=>Heap.get h0 (H.n+1)) hH_H1.symm;simp(disch:=omega) only[ai,↓ah,seval] at g1
 have kH1:Keep H.n H H1:=⟨by omega,fun x hx _=>by
  have gx:=congrArg (fun h0=>Heap.get h0 x) hH_H1.symm;simp(disch:=omega) only[ai,↓ah,seval] at gx;exact gx⟩
 clear hH_H1;have hpl:=hy.len;refine q9 hy (hv.keep kH1) (by omega) fun H2 k2=>?_;have hn2:=k2.1;have hv2:=(hv.keep kH1).keep k2;have hu2:=(hu.keep kH1).keep k2;have g02:=(k2.2 H.n (by omega) (by omega)).trans g0;have g12:=(k2.2 (H.n+1) (by omega) (by omega)).trans g1;clear g0 g1;simp(disch:=omega) only[ai,↓ah,seval,CT,vY,hto,↓hu2.ln];refine aM (fun k fr H'=>∃i,i+k=l.length∧Keep H2.n H2 H'∧fr.marks=[]∧fr.tm.length=60∧fr.tm.getD 1 IV.undef=.int .i64 to∧fr.tm.getD 2 IV.undef=u.iv∧fr.tm.getD 3 IV.undef=.ptr H.n 0∧fr.tm.getD 6 IV.undef=.ptr (H.n+1) 0∧fr.tm.getD 22 IV.undef=u.iv∧fr.tm.getD 23 IV.undef=.int .i64 l.length∧fr.tm.getD 24 IV.undef=.int .i64 i) ?_ l.length ⟨0,by omega,Keep.refl _ _,rfl,rfl,rfl,rfl,rfl,rfl,rfl,rfl,rfl⟩;rintro k ⟨tm,mk⟩ H3 ⟨i,hik,hk,rfl,htm,t1,t2,t3,t6,t22,t23,t24⟩ L hN hJ;have hn:=hk.1;have hv3:=hv2.keep hk;have hu3:=hu2.keep hk;have g03:=(hk.2 H.n (by omega) (by omega)).trans g02;have g13:=(hk.2 (H.n+1) (by omega) (by omega)).trans g12;rw[QY tm htm,t1,t2,t3,t6,t22,t23,t24];by_cases hil:i < l.length
 ·have r1:=hu3.read mE i hil;simp(disch:=omega) only[ai,↓ah,seval,FL,↓hu3.idx,r1,wy];refine AU (hp _ (List.getElem_mem hil)) (by rw[af,ac];omega) fun H4 k4=>?_;have k3:Keep H3.n H3 H4:=(Keep.newPut).trans (k4.lower (by rw[af,ac];omega));simp(disch:=omega) only[ai,↓ah,seval,FL];exact hN (k - 1) _ _ (by omega) ⟨i+1,by omega,hk.trans (k3.lower hn),rfl,rfl,rfl,rfl,rfl,rfl,rfl,rfl,rfl⟩
 ·clear hN;have r03:=ae g03;have r13:=ae g13;by_cases hi:y.inn=true
  ·obtain⟨cap,hcap⟩:∃c:Nat,c=y.pend.length+l.length:=⟨_,rfl⟩
   have hw:IntKind.i64.wrap ((y.pend.length:Int)+(l.length:Int))=(cap:Int):=by rw[IntWalk.i64_in _ (by omega)];omega
   have hcI:(0≤(cap:Int)∧(cap:Int)*25≤1099511627776)=True:=by simp;omega
   have o4:Own (H3.new (.cells false 196 4 (iU cap [IV.int .u8 0,.int .i64 0,.bool false,.int .u8 0]))) H3.n 196 cap ([]:List Ps):=yu mE (by simp[gX]);obtain⟨H5,e5,n5,k5,o5⟩:=ca (ex:=true) o4 (hv3.keep (.new _ _)) mE 24 H.n (by simp;omega) (by omega);rw[List.length_nil,Nat.zero_add] at e5;rw[List.nil_append] at o5;have hkk:Keep H3.n H3 H5:=⟨by rw[n5,ac];omega,fun x hx hx'=>by rw[k5 x (by omega),aj,if_neg (by omega)]⟩;simp(disch:=omega) only[ai,↓ah,seval,FL,hJ];simp(disch:=omega) only[ai,↓ah,seval,CT,hJ,↓e5,g03,g13,r03,r13,hi,bD,↓hv3.ln,↓hu3.ln,hw,hcI,Int.toNat_natCast];have hd:∀p∈l,p.dir=0∨p.dir=1:=fun p h=>(hp p h).2;have hd0:∀p∈y.pend,p.dir=0∨p.dir=1:=fun p h=>(hy.ok p h).2;refine JA (n0:=H3.n) (b:=H3.n) (cap:=cap) (by omega) (Nat.le_refl _) (by have:=o5.2.1;omega) (fun H' kx=>hu3.same (by have:=kx.1;have:=hkk.1;omega) fun hne=>?_) o5 (by omega) (by omega) hd hd0 fun H6 k6 o6=>?_
   ·have hb:=hu3.blk_lt hne;have hk1:=hkk.1;rw[kx.2 _ hb (by omega),hkk.2 _ hb hb]
   have k36:=hkk.trans k6;have hn6:=k36.1;have g06:=(k36.2 H.n (by omega) (by omega)).trans g03;have g16:=(k36.2 (H.n+1) (by omega) (by omega)).trans g13;clear e5 n5 k5 o5 o4 hkk k6 r03 r13 hcI hw hv2 hu2 hu hv hd hd0;have hrl:=Bk l y.pend;have r06:=ae g06;have r16:=ae g16;have hln:=(o6.sl true).ln;by_cases h4:4096 < (l.foldl d5 y.pend).length
   ·simp(disch:=omega) only[ai,↓ah,seval,CT,g06,g16,r06,r16,hi,bD]
    exact fun hk=>h _ _ hk (.inr ⟨hi,h4,rfl⟩)
   ·simp(disch:=omega) only[ai,↓ah,seval,CT,g06,g16,r06,r16,hi,bD]
    clear g03 g13 r06 r16;generalize hob:IObj.cells false 133 5 [IV.bool true,IV.int IntKind.i64 to,IV.int IntKind.i64 y.count,IV.bool y.new,v.iv]=ob;have o7:Own (H6.put H.n ob) H3.n 196 cap (l.foldl d5 y.pend):=o6.same (by rw[af];omega) (by rw[aa,if_neg (by omega)]);refine wz (o7.sl true) (by omega) (by rw[af];omega) fun H8 b8 k8 hb8 o8=>?_;rw[af] at hb8;have hn8:=k8.1;rw[af] at hn8;have g08:=k8.2 H.n (by rw[af];omega) (by rw[af];omega);have g18:=k8.2 (H.n+1) (by rw[af];omega) (by rw[af];omega);rw[aa,if_pos rfl,←hob] at g08;rw[aa,if_neg (by omega),g16] at g18;clear k8 o6 o7 g06 g16 hob;have r08:=ae g08;have r18:=ae g18;simp(disch:=omega) only[ai,↓ah,seval,CT,g08,g18,r08,r18,bD];refine fun hk=>?_;have hb9:=o8.2.1
    have he:mI (nu y to l) (SV.sl b8 0 (nu y to l).pend.length (nu y to l).pend.length true)=[IV.bool true,IV.int IntKind.i64 to,IV.int IntKind.i64 y.count,IV.bool y.new,IV.slice b8 0 (l.foldl d5 y.pend).length (l.foldl d5 y.pend).length true]:=by
     unfold mI nu;rw[hi];rfl
    have hq:=hok _ b8 hk hi (by show(l.foldl d5 y.pend).length≤4096;omega) (by omega) (o8.same (by simp only[af];omega) (by rw[aa,if_neg (by omega),aa,if_neg (by omega)]));rw[he] at hq;exact hq
  ·have hi:y.inn=false:=by simpa using hi
   simp(disch:=omega) only[ai,↓ah,seval,FL,hJ]
   simp(disch:=omega) only[ai,↓ah,seval,CT,hJ,g03,g13,r03,r13,hi,bD]
   exact fun hk=>h _ _ hk (.inl ⟨hi,rfl⟩)
theorem Red.nil:Red []:=fun i h=>by simp at h
theorem Red.init{s:List Ps}{q:Ps}(h:Red (s++[q])):Red s:=fun i hi=>by
 have:=h i (by simp;omega)
 rw[List.getElem_append_left (by omega),List.getElem_append_left (by omega)] at this;exact this
theorem Red.snoc{s:List Ps}{q p:Ps}(h:Red (s++[q]))(hc:kh q p=false):Red (s++[q]++[p]):=fun i hi=>by
 simp only[List.length_append,List.length_cons,List.length_nil] at hi;by_cases h1:i+1 < (s++[q]).length
 ·rw[List.getElem_append_left (by omega),List.getElem_append_left h1];exact h i h1
 ·have e:i=s.length:=by simp at h1;omega
  subst e;rw[List.getElem_append_left (by simp),List.getElem_append_right (by simp),List.getElem_append_right (by simp)];simpa using hc
theorem Red.push{st:List Ps}(h:Red st)(p:Ps):Red (d5 st p):=by
 rcases List.eq_nil_or_concat st with rfl | ⟨s,x,rfl⟩
 ·rw[oK];exact fun i hi=>by simp at hi
 ·rw[List.concat_eq_append] at h⊢;rw[kZ];by_cases hc:kh x p=true
  ·rw[if_pos hc];exact h.init
  ·rw[if_neg hc];exact h.snoc (by simpa using hc)
theorem Red.foldl(l:List Ps):∀{st:List Ps},Red st→Red (l.foldl d5 st):=by
 induction l with
 | nil=>exact fun h=>h
 | cons a l ih=>exact fun h=>ih (h.push a)
theorem JJ:OkY oh:=⟨by decide,by decide,fun _=>⟨rfl,rfl,rfl⟩,fun h=>(by cases h),by decide,fun p h=>(by cases h),Red.nil⟩
theorem GJ{y:Yn}(hy:OkY y)(s:Int):OkY (nF y s):=⟨hy.c0,hy.c1,fun h=>(by cases h),fun _=>(by show vH (if s=1 then 179 else -13)=true;split<;>decide),by show(0:Nat)≤4096;omega,fun p h=>(by cases h),Red.nil⟩
theorem GI{y:Yn}(hy:OkY y):OkY (nm y):=⟨hy.c0,hy.c1,fun _=>⟨rfl,rfl,rfl⟩,fun h=>(by cases h),by show(0:Nat)≤4096;omega,fun p h=>(by cases h),Red.nil⟩
theorem JK{y:Yn}(hy:OkY y)(hi:y.inn=true)(hc:y.count < 2048):OkY (la y):=⟨by have:=hy.c0;show 0≤y.count+1;omega,by show y.count+1≤2048;omega,fun h=>(by cases h),fun _=>hy.pl hi,by show(0:Nat)≤4096;omega,fun p h=>(by cases h),Red.nil⟩
theorem JL{y:Yn}(hy:OkY y){to:Int}(hto:vH to=true)(hi:y.inn=true){l:List Ps}(hp:∀p∈l,Rz p)(hl:(nu y to l).pend.length≤4096):OkY (nu y to l):=
 ⟨hy.c0,hy.c1,fun h=>absurd (hi.symm.trans h) (by decide),fun _=>hto,hl,fun p h=>by
  rcases Bj l y.pend p h with h | h
  ·exact hy.ok p h
  ·exact hp p h,hy.red.foldl l⟩
def zj(a b c d:Bool):IV:=.agg [.bool a,.bool b,.bool c,.bool d]
def EV:List (IV×IV×Nat):=[(.int .u8 1,zj true false true false,0),(.int .u8 2,zj false false true false,1),(.int .u8 3,zj false false false true,2),(.int .u8 4,zj true true true false,3),
 (.int .u8 5,zj true true true false,4),(.int .u8 6,zj true true true false,5),(.int .u8 7,zj false true false false,6),(.int .u8 8,zj false true false false,7)]
theorem Mn{H:Heap}{lo:Nat}{Q:Out→Heap→Prop}(hlo:lo≤H.n)(h:∀H',Keep H.n H H'→H'.get H.n=some (.map EV 8)→H.n < H'.n→Q (.val (.map H.n)) H'):W E0 lo (.call 164 []) H Q:=by
 refine W.pure aX hlo ?_;rw[Xz];simp(disch:=omega) only[ai,↓ah,seval,YJ,az,aF,dU,bS,aT,IV.cells,bD,qB,Ns];refine fun hk=>h _ hk ?_ ?_
 ·simp only[aa,aj,if_true];rfl
 ·simp only[af,ac];omega
structure Opn where
 k:Int
 d:Int
 b:Int
 a:Int
 y:Int
 r:Int
 deriving Inhabited,DecidableEq
instance:Cell Opn where
 z:=6
 cs o:=[.int .u8 o.k,.int .u8 o.d,.int .u8 o.b,.int .i64 o.a,.int .u8 o.y,.int .i64 o.r]
 len _:=rfl
 one _:=rfl
 pos:=by omega
theorem An(o:Opn):Cell.cs o=[.int .u8 o.k,.int .u8 o.d,.int .u8 o.b,.int .i64 o.a,.int .u8 o.y,.int .i64 o.r]:=rfl
theorem jP:Cell.z Opn=6:=rfl
def tk(k:Int):Option (Bool×Bool×Bool×Bool):=
 if k=1 then some (true,false,true,false) else if k=2 then some (false,false,true,false) else if k=3 then some (false,false,false,true)
 else if k=4∨k=5∨k=6 then some (true,true,true,false) else if k=7∨k=8 then some (false,true,false,false) else none
def ay(o:Opn):Bool:=match tk o.k with
 | none=>false
 | some (d,n,y,r)=>(if d then decide (o.d=0∨o.d=1) else decide (o.d=0))&&((if n then decide (an o.b o.a=0) else decide (o.b=0∧o.a=0))&&((if y then decide (1≤o.y∧o.y≤6) else decide (o.y=0))&&(r||decide (o.r=0))))
def zH(o:Opn):Int:=if ay o=false then 1 else if o.r < -4∨o.r>4 then 11 else 0
theorem vc(k:Int):tk k=none∨tk k=some (true,false,true,false)∨tk k=some (false,false,true,false)∨tk k=some (false,false,false,true)∨tk k=some (true,true,true,false)∨tk k=some (false,true,false,false):=by
 unfold tk
 repeat' split
 all_goals simp
theorem Ip{H:Heap}{b:Nat}(hg:H.get b=some (.map EV 8))(k:Int)(t lo:Nat):ev1 (.lookup t (false,[.int]) (.agg [.bool false,.bool false,.bool false,.bool false]) true) [.map b,.int .u8 k] lo H=
  some (match tk k with | some (d,n,y,r)=>.tuple [.agg [.bool d,.bool n,.bool y,.bool r],.bool true] | none=>.tuple [.agg [.bool false,.bool false,.bool false,.bool false],.bool false],H):=by
 simp only[ev1,az,hg,Option.map_some,bS,aT,qB,Ns,IV.cells,Bool.not_false,Bool.and_self,if_true];by_cases h1:k=1
 ·subst h1;rfl
 by_cases h2:k=2
 ·subst h2;rfl
 by_cases h3:k=3
 ·subst h3;rfl
 by_cases h4:k=4
 ·subst h4;rfl
 by_cases h5:k=5
 ·subst h5;rfl
 by_cases h6:k=6
 ·subst h6;rfl
 by_cases h7:k=7
 ·subst h7;rfl
 by_cases h8:k=8
 ·subst h8;rfl
 have e:tk k=none:=by unfold tk;rw[if_neg h1,if_neg h2,if_neg h3,if_neg (by omega),if_neg (by omega)]
 have f:aF (false,[Pk.int]) (.int .u8 k) EV 0=some none:=by
  simp only[EV,zj,aF,dU,aT,IV.cells,hU,G8,Bool.not_false,Bool.and_self,if_true,beq_eq_false_iff_ne.2 h1,beq_eq_false_iff_ne.2 h2,beq_eq_false_iff_ne.2 h3,beq_eq_false_iff_ne.2 h4,beq_eq_false_iff_ne.2 h5,beq_eq_false_iff_ne.2 h6,beq_eq_false_iff_ne.2 h7,beq_eq_false_iff_ne.2 h8,Bool.false_and]
 rw[e,f]
theorem JB(o:Opn){H:Heap}{lo:Nat}{Q:Out→Heap→Prop}(hlo:lo≤H.n)(h:∀H',Keep H.n H H'→Q (.val (.bool (ay o))) H'):W E0 lo (.call 131 [.agg [.int .u8 o.k,.int .u8 o.d,.int .u8 o.b,.int .i64 o.a,.int .u8 o.y,.int .i64 o.r]]) H Q:=by
 refine gu _ hlo h fun R hR=>?_;rw[XS];simp(disch:=omega) only[ai,↓ah,seval,bK,↓FR,FW];refine Mn (by rw[ac];omega) fun H2 k2 g2 hn2=>?_;have g0:H2.get H.n=some (.cells false 56 6 [.int .u8 o.k,.int .u8 o.d,.int .u8 o.b,.int .i64 o.a,.int .u8 o.y,.int .i64 o.r]):=by rw[k2.2 _ (by rw[ac];omega) (by rw[ac];omega),aj,if_pos rfl]
 rw[ac] at hn2 g2⊢;clear k2;have r0:=ae g0;have hlk:=Ip g2 o.k;have hR:∀(b:Bool) H',b=ay o→R (.val (.bool b)) H':=fun b H' e=>e▸hR H';rcases vc o.k with hu | hu | hu | hu | hu | hu<;>rw[hu] at hlk
 ·simp(disch:=omega) only[ai,↓ah,seval,bK,↓hlk,r0,↓FR,FW]
  exact hR _ _ (by unfold ay;rw[hu])
 ·skip
  by_cases hd:o.d=0
  ·skip
   by_cases hb:o.b=0
   ·by_cases ha:o.a=0
    ·skip
     by_cases hy:1≤o.y∧o.y≤6
     ·have hy1:=hy.1;have hy2:=hy.2;by_cases hr:o.r=0
      ·simp(disch:=omega) only[ai,↓ah,seval,bK,↓hlk,r0,↓FR,FW]
       exact hR _ _ (by unfold ay;rw[hu];simp[hd,hb,ha,hy1,hy2,hr])
      ·simp(disch:=omega) only[ai,↓ah,seval,bK,↓hlk,r0,↓FR,FW]
       exact hR _ _ (by unfold ay;rw[hu];simp[hd,hb,ha,hy1,hy2,hr])
     ·by_cases hy1:o.y < 1
      ·simp(disch:=omega) only[ai,↓ah,seval,bK,↓hlk,r0,↓FR,FW]
       exact hR _ _ (by unfold ay;rw[hu];simp[hd,hb,ha,hy];try omega)
      ·simp(disch:=omega) only[ai,↓ah,seval,bK,↓hlk,r0,↓FR,FW]
       exact hR _ _ (by unfold ay;rw[hu];simp[hd,hb,ha,hy];try omega)
    ·simp(disch:=omega) only[ai,↓ah,seval,bK,↓hlk,r0,↓FR,FW]
     exact hR _ _ (by unfold ay;rw[hu];simp[hd,hb,ha])
   ·simp(disch:=omega) only[ai,↓ah,seval,bK,↓hlk,r0,↓FR,FW]
    exact hR _ _ (by unfold ay;rw[hu];simp[hd,hb])
  ·by_cases hd1:o.d=1
   ·skip
    by_cases hb:o.b=0
    ·by_cases ha:o.a=0
     ·skip
      by_cases hy:1≤o.y∧o.y≤6
      ·have hy1:=hy.1;have hy2:=hy.2;by_cases hr:o.r=0
       ·simp(disch:=omega) only[ai,↓ah,seval,bK,↓hlk,r0,↓FR,FW]
        exact hR _ _ (by unfold ay;rw[hu];simp[hd1,hb,ha,hy1,hy2,hr])
       ·simp(disch:=omega) only[ai,↓ah,seval,bK,↓hlk,r0,↓FR,FW]
        exact hR _ _ (by unfold ay;rw[hu];simp[hd1,hb,ha,hy1,hy2,hr])
      ·by_cases hy1:o.y < 1
       ·simp(disch:=omega) only[ai,↓ah,seval,bK,↓hlk,r0,↓FR,FW]
        exact hR _ _ (by unfold ay;rw[hu];simp[hd1,hb,ha,hy];try omega)
       ·simp(disch:=omega) only[ai,↓ah,seval,bK,↓hlk,r0,↓FR,FW]
        exact hR _ _ (by unfold ay;rw[hu];simp[hd1,hb,ha,hy];try omega)
     ·simp(disch:=omega) only[ai,↓ah,seval,bK,↓hlk,r0,↓FR,FW]
      exact hR _ _ (by unfold ay;rw[hu];simp[hd1,hb,ha])
    ·simp(disch:=omega) only[ai,↓ah,seval,bK,↓hlk,r0,↓FR,FW]
     exact hR _ _ (by unfold ay;rw[hu];simp[hd1,hb])
   ·simp(disch:=omega) only[ai,↓ah,seval,bK,↓hlk,r0,↓FR,FW]
    exact hR _ _ (by unfold ay;rw[hu];simp[hd,hd1])
 ·skip
  by_cases hd:o.d=0
  ·skip
   by_cases hb:o.b=0
   ·by_cases ha:o.a=0
    ·skip
     by_cases hy:1≤o.y∧o.y≤6
     ·have hy1:=hy.1;have hy2:=hy.2;by_cases hr:o.r=0
      ·simp(disch:=omega) only[ai,↓ah,seval,bK,↓hlk,r0,↓FR,FW]
       exact hR _ _ (by unfold ay;rw[hu];simp[hd,hb,ha,hy1,hy2,hr])
      ·simp(disch:=omega) only[ai,↓ah,seval,bK,↓hlk,r0,↓FR,FW]
       exact hR _ _ (by unfold ay;rw[hu];simp[hd,hb,ha,hy1,hy2,hr])
     ·by_cases hy1:o.y < 1
      ·simp(disch:=omega) only[ai,↓ah,seval,bK,↓hlk,r0,↓FR,FW]
       exact hR _ _ (by unfold ay;rw[hu];simp[hd,hb,ha,hy];try omega)
      ·simp(disch:=omega) only[ai,↓ah,seval,bK,↓hlk,r0,↓FR,FW]
       exact hR _ _ (by unfold ay;rw[hu];simp[hd,hb,ha,hy];try omega)
    ·simp(disch:=omega) only[ai,↓ah,seval,bK,↓hlk,r0,↓FR,FW]
     exact hR _ _ (by unfold ay;rw[hu];simp[hd,hb,ha])
   ·simp(disch:=omega) only[ai,↓ah,seval,bK,↓hlk,r0,↓FR,FW]
    exact hR _ _ (by unfold ay;rw[hu];simp[hd,hb])
  ·simp(disch:=omega) only[ai,↓ah,seval,bK,↓hlk,r0,↓FR,FW]
   exact hR _ _ (by unfold ay;rw[hu];simp[hd])
 ·skip
  by_cases hd:o.d=0
  ·skip
   by_cases hb:o.b=0
   ·by_cases ha:o.a=0
    ·skip
     by_cases hy:o.y=0
     ·skip
      simp(disch:=omega) only[ai,↓ah,seval,bK,↓hlk,r0,↓FR,FW]
      exact hR _ _ (by unfold ay;rw[hu];simp[hd,hb,ha,hy])
     ·simp(disch:=omega) only[ai,↓ah,seval,bK,↓hlk,r0,↓FR,FW]
      exact hR _ _ (by unfold ay;rw[hu];simp[hd,hb,ha,hy])
    ·simp(disch:=omega) only[ai,↓ah,seval,bK,↓hlk,r0,↓FR,FW]
     exact hR _ _ (by unfold ay;rw[hu];simp[hd,hb,ha])
   ·simp(disch:=omega) only[ai,↓ah,seval,bK,↓hlk,r0,↓FR,FW]
    exact hR _ _ (by unfold ay;rw[hu];simp[hd,hb])
  ·simp(disch:=omega) only[ai,↓ah,seval,bK,↓hlk,r0,↓FR,FW]
   exact hR _ _ (by unfold ay;rw[hu];simp[hd])
 ·skip
  by_cases hd:o.d=0
  ·skip
   simp(disch:=omega) only[ai,↓ah,seval,bK,↓hlk,r0,↓FR,FW]
   refine bU o.b o.a (by simp only[af,ac];omega) fun H3 k3=>?_;have g3:=k3.2 H.n (by simp only[af,ac];omega) (by simp only[af,ac];omega);have g4:=k3.2 H2.n (by simp only[af,ac];omega) (by simp only[af,ac];omega);rw[aa,if_neg (by omega),aj,if_neg (by omega),g0] at g3;rw[aa,if_pos rfl] at g4;clear k3 r0 hlk;have r0:=ae g3;have r1:=ae g4;by_cases hE:an o.b o.a=0
   ·skip
    by_cases hy:1≤o.y∧o.y≤6
    ·have hy1:=hy.1;have hy2:=hy.2;by_cases hr:o.r=0
     ·simp(disch:=omega) only[ai,↓ah,seval,bK,r0,r1,↓FR,FW]
      exact hR _ _ (by unfold ay;rw[hu];simp[hd,hE,hy1,hy2,hr])
     ·simp(disch:=omega) only[ai,↓ah,seval,bK,r0,r1,↓FR,FW]
      exact hR _ _ (by unfold ay;rw[hu];simp[hd,hE,hy1,hy2,hr])
    ·by_cases hy1:o.y < 1
     ·simp(disch:=omega) only[ai,↓ah,seval,bK,r0,r1,↓FR,FW]
      exact hR _ _ (by unfold ay;rw[hu];simp[hd,hE,hy];try omega)
     ·simp(disch:=omega) only[ai,↓ah,seval,bK,r0,r1,↓FR,FW]
      exact hR _ _ (by unfold ay;rw[hu];simp[hd,hE,hy];try omega)
   ·simp(disch:=omega) only[ai,↓ah,seval,bK,r0,r1,↓FR,FW]
    exact hR _ _ (by unfold ay;rw[hu];simp[hd,hE])
  ·by_cases hd1:o.d=1
   ·skip
    simp(disch:=omega) only[ai,↓ah,seval,bK,↓hlk,r0,↓FR,FW]
    refine bU o.b o.a (by simp only[af,ac];omega) fun H3 k3=>?_;have g3:=k3.2 H.n (by simp only[af,ac];omega) (by simp only[af,ac];omega);have g4:=k3.2 H2.n (by simp only[af,ac];omega) (by simp only[af,ac];omega);rw[aa,if_neg (by omega),aj,if_neg (by omega),g0] at g3;rw[aa,if_pos rfl] at g4;clear k3 r0 hlk;have r0:=ae g3;have r1:=ae g4;by_cases hE:an o.b o.a=0
    ·skip
     by_cases hy:1≤o.y∧o.y≤6
     ·have hy1:=hy.1;have hy2:=hy.2;by_cases hr:o.r=0
      ·simp(disch:=omega) only[ai,↓ah,seval,bK,r0,r1,↓FR,FW]
       exact hR _ _ (by unfold ay;rw[hu];simp[hd1,hE,hy1,hy2,hr])
      ·simp(disch:=omega) only[ai,↓ah,seval,bK,r0,r1,↓FR,FW]
       exact hR _ _ (by unfold ay;rw[hu];simp[hd1,hE,hy1,hy2,hr])
     ·by_cases hy1:o.y < 1
      ·simp(disch:=omega) only[ai,↓ah,seval,bK,r0,r1,↓FR,FW]
       exact hR _ _ (by unfold ay;rw[hu];simp[hd1,hE,hy];try omega)
      ·simp(disch:=omega) only[ai,↓ah,seval,bK,r0,r1,↓FR,FW]
       exact hR _ _ (by unfold ay;rw[hu];simp[hd1,hE,hy];try omega)
    ·simp(disch:=omega) only[ai,↓ah,seval,bK,r0,r1,↓FR,FW]
     exact hR _ _ (by unfold ay;rw[hu];simp[hd1,hE])
   ·simp(disch:=omega) only[ai,↓ah,seval,bK,↓hlk,r0,↓FR,FW]
    exact hR _ _ (by unfold ay;rw[hu];simp[hd,hd1])
 ·skip
  by_cases hd:o.d=0
  ·skip
   simp(disch:=omega) only[ai,↓ah,seval,bK,↓hlk,r0,↓FR,FW]
   refine bU o.b o.a (by simp only[af,ac];omega) fun H3 k3=>?_;have g3:=k3.2 H.n (by simp only[af,ac];omega) (by simp only[af,ac];omega);have g4:=k3.2 H2.n (by simp only[af,ac];omega) (by simp only[af,ac];omega);rw[aa,if_neg (by omega),aj,if_neg (by omega),g0] at g3;rw[aa,if_pos rfl] at g4;clear k3 r0 hlk;have r0:=ae g3;have r1:=ae g4;by_cases hE:an o.b o.a=0
   ·skip
    by_cases hy:o.y=0
    ·skip
     by_cases hr:o.r=0
     ·simp(disch:=omega) only[ai,↓ah,seval,bK,r0,r1,↓FR,FW]
      exact hR _ _ (by unfold ay;rw[hu];simp[hd,hE,hy,hr])
     ·simp(disch:=omega) only[ai,↓ah,seval,bK,r0,r1,↓FR,FW]
      exact hR _ _ (by unfold ay;rw[hu];simp[hd,hE,hy,hr])
    ·simp(disch:=omega) only[ai,↓ah,seval,bK,r0,r1,↓FR,FW]
     exact hR _ _ (by unfold ay;rw[hu];simp[hd,hE,hy])
   ·simp(disch:=omega) only[ai,↓ah,seval,bK,r0,r1,↓FR,FW]
    exact hR _ _ (by unfold ay;rw[hu];simp[hd,hE])
  ·simp(disch:=omega) only[ai,↓ah,seval,bK,↓hlk,r0,↓FR,FW]
   exact hR _ _ (by unfold ay;rw[hu];simp[hd])
theorem Dy(o:Opn){H:Heap}{lo:Nat}{Q:Out→Heap→Prop}(hlo:lo≤H.n)(h:∀H',Keep H.n H H'→Q (.val (.int .i64 (zH o))) H'):W E0 lo (.call 77 [.agg [.int .u8 o.k,.int .u8 o.d,.int .u8 o.b,.int .i64 o.a,.int .u8 o.y,.int .i64 o.r]]) H Q:=by
 refine gu _ hlo h fun R hR=>?_;rw[c77];simp(disch:=omega) only[ai,↓ah,seval,Tl];refine JB o (by rw[ac];omega) fun H2 k2=>?_;have g0:H2.get H.n=some (.cells false 56 6 [.int .u8 o.k,.int .u8 o.d,.int .u8 o.b,.int .i64 o.a,.int .u8 o.y,.int .i64 o.r]):=by rw[k2.2 _ (by rw[ac];omega) (by rw[ac];omega),aj,if_pos rfl]
 have r0:=ae g0;unfold zH at hR
 cases hp:ay o
 ·rw[hp,if_pos rfl] at hR;simp(disch:=omega) only[ai,↓ah,seval,Tl];exact hR _
 ·rw[hp,if_neg (by decide)] at hR;by_cases h1:o.r < -4
  ·rw[if_pos (.inl h1)] at hR;simp(disch:=omega) only[ai,↓ah,seval,Tl,r0];exact hR _
  ·by_cases h2:o.r>4
   ·rw[if_pos (.inr h2)] at hR;simp(disch:=omega) only[ai,↓ah,seval,Tl,r0];exact hR _
   ·rw[if_neg (by omega)] at hR;simp(disch:=omega) only[ai,↓ah,seval,Tl,r0];exact hR _
theorem zG{o:Opn}(h:zH o=0): -4≤o.r∧o.r≤4∧1≤o.k∧o.k≤8∧
  (o.k=1→(o.d=0∨o.d=1)∧1≤o.y∧o.y≤6)∧(o.k=2→1≤o.y∧o.y≤6)∧(o.k=4∨o.k=5∨o.k=6→(o.d=0∨o.d=1)∧an o.b o.a=0∧1≤o.y∧o.y≤6)∧(o.k=7∨o.k=8→an o.b o.a=0):=by
 unfold zH at h
 have hp:ay o=true:=by
  cases e:ay o
  ·rw[e,if_pos rfl] at h;omega
  ·rfl
 rw[hp,if_neg (by decide)] at h;have hr:¬(o.r < -4∨o.r>4):=fun hr=>by rw[if_pos hr] at h;omega
 unfold ay tk at hp
 have hk:1≤o.k∧o.k≤8:=by
  refine Decidable.byContradiction fun hk=>?_;rw[if_neg (by omega),if_neg (by omega),if_neg (by omega),if_neg (by omega),if_neg (by omega)] at hp;cases hp
 refine⟨by omega,by omega,hk.1,hk.2,fun hk=>?_,fun hk=>?_,fun hk=>?_,fun hk=>?_⟩
 ·rw[if_pos hk] at hp;simp at hp;exact⟨hp.1,hp.2.2.1⟩
 ·rw[if_neg (by omega),if_pos hk] at hp;simp at hp;exact hp.2.2.1
 ·rw[if_neg (by omega),if_neg (by omega),if_neg (by omega),if_pos hk] at hp;simp at hp;exact⟨hp.1,hp.2.1,hp.2.2.1⟩
 ·rw[if_neg (by omega),if_neg (by omega),if_neg (by omega),if_neg (by omega),if_pos hk] at hp;simp at hp;exact hp.2.1
end Go.Iso.Gen
end
namespace Go.Iso
def Rb:IObj:=.map [] 0
def Heap.off(H:Heap):List Nat→Heap
 | []=>H
 | x::l=>(Heap.off H l).put x Rb
theorem il(H:Heap):∀l,(H.off l).n=H.n
 | []=>rfl
 | x::l=>by rw[Heap.off,af,il H l]
theorem gM(H:Heap)(b:Nat):∀l,(H.off l).get b=if b∈l then some Rb else H.get b
 | []=>by simp[Heap.off]
 | x::l=>by
   rw[Heap.off,aa,gM H b l];by_cases h:x=b
   ·rw[if_pos h,if_pos (by simp[h])]
   ·rw[if_neg h];have e:(b∈x::l)=(b∈l):=by simp[Ne.symm h]
    simp only[e]
theorem CL{H:Heap}{ow:List Nat}{b:Nat}{o:IObj}(h:(H.off ow).get b=some o)(ho:o≠Rb):b∉ow∧H.get b=some o:=by
 rw[gM] at h;by_cases hb:b∈ow
 ·rw[if_pos hb] at h;exact absurd (Option.some.inj h).symm ho
 ·rw[if_neg hb] at h;exact⟨hb,h⟩
def KeepO(ow:List Nat)(H H':Heap):Prop:=H.n≤H'.n∧∀x,x < H.n→x∉ow→H'.get x=H.get x
theorem KeepO.refl(ow:List Nat)(H:Heap):KeepO ow H H:=⟨Nat.le_refl _,fun _ _ _=>rfl⟩
theorem KeepO.of{ow:List Nat}{H H':Heap}(k:Keep H.n H H'):KeepO ow H H':=⟨k.1,fun x h _=>k.2 x h h⟩
theorem KeepO.trans{ow ow':List Nat}{a b c:Heap}(h:KeepO ow a b)(k:KeepO ow' b c)(ho:∀x∈ow',x∈ow∨a.n≤x):KeepO ow a c:=
 ⟨Nat.le_trans h.1 k.1,fun x h1 h2=>(k.2 x (Nat.lt_of_lt_of_le h1 h.1) fun hx=>by rcases ho x hx with h3 | h3<;>first | exact h2 h3 | omega).trans (h.2 x h1 h2)⟩
theorem KeepO.put{ow:List Nat}{H:Heap}{x:Nat}{o:IObj}(hx:x∈ow):KeepO ow H (H.put x o):=⟨Nat.le_refl _,fun y _ hy=>by rw[aa,if_neg (by rintro rfl;exact hy hx)]⟩
theorem KeepO.mono{ow ow':List Nat}{H H':Heap}(k:KeepO ow H H')(h:∀x∈ow,x∈ow'):KeepO ow' H H':=⟨k.1,fun x h1 h2=>k.2 x h1 fun hx=>h2 (h x hx)⟩
theorem KeepO.off{ow ow':List Nat}{H H':Heap}(k:KeepO ow H H')(h:∀x∈ow,x∈ow')(h':∀x∈ow',x∈ow∨H.n≤x):Keep (H.off ow).n (H.off ow) (H'.off ow'):=by
 refine⟨by rw[il,il];exact k.1,fun x hx _=>?_⟩
 rw[il] at hx;rw[gM,gM];by_cases h1:x∈ow
 ·rw[if_pos h1,if_pos (h x h1)]
 ·rw[if_neg h1,if_neg fun h2=>by rcases h' x h2 with h3 | h3<;>first | exact h1 h3 | omega];exact k.2 x hx h1
theorem KeepO.off'{ow:List Nat}{H H':Heap}(k:KeepO ow H H'):Keep (H.off ow).n (H.off ow) (H'.off ow):=k.off (fun _ h=>h) fun _ h=>.inl h
section
variable {α:Type}[Cell α]
theorem Sl.unoff{H:Heap}{ow:List Nat}{v:SV}{l:List α}(h:Sl (H.off ow) v l):Sl H v l:=by
 refine h.same (Nat.le_of_eq (il _ _)) fun hl=>?_;obtain⟨ro,e,ez,cs,hg⟩:=h.cellsAt hl;rw[hg];exact(CL hg (by intro e;cases e)).2
theorem Sl.onto{H:Heap}{ow:List Nat}{v:SV}{l:List α}(h:Sl H v l)(hb:l≠[]→v.blk∉ow):Sl (H.off ow) v l:=
 h.same (Nat.le_of_eq (il _ _).symm) fun hl=>by rw[gM,if_neg (hb hl)]
theorem Sl2.unoff{H:Heap}{ow:List Nat}{v:SV}{ls:List (List α)}(h:Sl2 (H.off ow) v ls):Sl2 H v ls:=by
 obtain⟨vs,h1,h2,h3⟩:=h;exact⟨vs,h1.unoff,h2,fun i a b=>(h3 i a b).unoff⟩
theorem Own.keepO{H H':Heap}{ow:List Nat}{b e cap:Nat}{l:List α}(h:Own H b e cap l)(k:KeepO ow H H')(hb:b∉ow):Own H' b e cap l:=h.same k.1 (k.2 b h.2.1 hb)
def Tg(n0:Nat)(H:Heap)(e:Nat)(v:SV)(l:List α):Prop:=∃b ex,v=.sl b 0 l.length l.length ex∧n0≤b∧Own H b e l.length l
theorem Tg.sl{n0:Nat}{H:Heap}{e:Nat}{v:SV}{l:List α}(h:Tg n0 H e v l):Sl H v l:=by
 obtain⟨b,ex,rfl,_,h⟩:=h;exact h.sl ex
theorem Tg.same{n0:Nat}{H H':Heap}{e:Nat}{v:SV}{l:List α}(h:Tg n0 H e v l)(hn:H.n≤H'.n)(hg:H'.get v.blk=H.get v.blk):Tg n0 H' e v l:=by
 obtain⟨b,ex,rfl,h1,h⟩:=h;exact⟨b,ex,rfl,h1,h.same hn hg⟩
theorem Tg.lt{n0:Nat}{H:Heap}{e:Nat}{v:SV}{l:List α}(h:Tg n0 H e v l):v.blk < H.n∧n0≤v.blk:=by
 obtain⟨b,ex,rfl,h1,h⟩:=h;exact⟨h.2.1,h1⟩
theorem Tg.keepO{n0:Nat}{H H':Heap}{ow:List Nat}{e:Nat}{v:SV}{l:List α}(h:Tg n0 H e v l)(k:KeepO ow H H')(hb:v.blk∉ow):Tg n0 H' e v l:=h.same k.1 (k.2 _ h.lt.1 hb)
theorem Tg.push{n0:Nat}{H:Heap}{e:Nat}{v:SV}{l m:List α}(h:Tg n0 H e v l){u:SV}(hu:Sl H u m)(hm:m≠[]){z:Nat}(hz:Cell.z α=z)(bytes lo:Nat)(hlo:lo≤n0)(hn:n0≤H.n)(hb:(l.length+m.length)*(bytes+1)≤2^40):
  ∃H2 w,ev1 (.append e z bytes) [v.iv,u.iv] lo H=some (SV.iv w,H2)∧KeepO [v.blk] H H2∧Tg n0 H2 e w (l++m)∧w.blk=H.n:=by
 have hml:0 < m.length:=List.length_pos_iff.2 hm;obtain⟨b,ex,rfl,h2,h4⟩:=h
 cases ex with
 | true=>
   obtain⟨H2,e1,e2,e3,e4⟩:=ki (e:=e) (h4.sl true) hu hz bytes lo hm (by omega) hb;refine⟨H2,.sl H.n 0 (l++m).length (l++m).length false,by rw[List.length_append];exact e1,KeepO.of e3,⟨H.n,false,rfl,hn,by rw[List.length_append];exact e4⟩,rfl⟩
 | false=>
   obtain⟨H2,e1,e2,e3,e4⟩:=nY (n:=l.length) h4 rfl hu hz bytes lo hm hb (by omega);exact⟨H2,.sl H.n 0 (l++m).length (l++m).length false,by rw[List.length_append];exact e1,⟨by omega,fun x h5 h6=>e3 x (fun e=>h6 (by rw[e];exact List.mem_singleton.2 rfl)) h5⟩,⟨H.n,false,rfl,hn,by rw[List.length_append];exact e4⟩,rfl⟩
end
end Go.Iso
section
namespace Go.Iso.Gen
open Go.Iso
structure Yv where
 y:Yn
 v:SV
 deriving Inhabited
instance:Cell Yv where
 z:=5
 cs x:=mI x.y x.v
 len _:=rfl
 one x:=by simp only[mI,List.all_cons,List.all_nil,oZ,rQ,vE,Bool.and_self]
 pos:=by omega
theorem sS(x:Yv):Cell.cs x=[.bool x.y.inn,.int .i64 x.y.place,.int .i64 x.y.count,.bool x.y.new,x.v.iv]:=rfl
theorem PS:Cell.z Yv=5:=rfl
structure Lp where
 bed:Int
 new:Bool
 thr:List Id
 past:List Ps
 deriving Inhabited,DecidableEq
structure Lv where
 p:Lp
 tv:SV
 pv:SV
 deriving Inhabited
instance:Cell Lv where
 z:=4
 cs x:=[.int .u8 x.p.bed,.bool x.p.new,x.tv.iv,x.pv.iv]
 len _:=rfl
 one x:=by simp only[List.all_cons,List.all_nil,oZ,rQ,vE,Bool.and_self]
 pos:=by omega
theorem AO:Cell.z Lv=4:=rfl
structure Mc where
 rack:Int
 t:List (List Id)
 ys:List Yn
 rows:List (List Lp)
 cr:List (Id×Id×Int)
 fa:List Id
 deriving Inhabited
structure Ly where
 yb:Nat
 tb:Nat
 cb:Nat
 f:SV
 b:SV
 yl:List Yv
 ws:List SV
 rl:List (List Lv)
 fv:SV
def Hk(a b:Id):IV:=.agg [.int .u8 a.y,.int .i64 a.n,.int .u8 b.y,.int .i64 b.n]
def BornOk(es:List (IV×IV×Nat))(c:Nat):Prop:=(∀s∈es.map (·.2.2),s < c)∧(es.map (·.2.2)).Nodup
def CrM(H:Heap)(cb:Nat)(cr:List (Id×Id×Int)):Prop:=∃es c,H.get cb=some (.map es c)∧(es.map (fun e=>(e.1,e.2.1))=cr.map fun k=>(Hk k.1 k.2.1,.int .i64 k.2.2))∧BornOk es c
structure MI(n0 mb:Nat)(H:Heap)(ow:List Nat)(L:Ly)(M:Mc):Prop where
 gm:H.get mb=some (.cells false 147 7 [.int .i64 M.rack,L.f.iv,L.b.iv,.slice L.yb 0 6 6 true,.slice L.tb 0 6 6 true,.map L.cb,L.fv.iv])
 rk: -4≤M.rack∧M.rack≤4
 gy:Own H L.yb 133 6 L.yl
 yn:L.yl.length=6
 ym:L.yl.map (·.y)=M.ys
 yd:∀x∈L.yl,Sl (H.off ow) x.v x.y.pend
 yo:∀y∈M.ys,OkY y
 bf:Sl2 (H.off ow) L.f (aN M.t)
 bb:Sl2 (H.off ow) L.b (aG M.t)
 bv:Valid M.t
 gt:Own H L.tb 140 6 L.ws
 wn:L.ws.length=6
 rn:L.rl.length=6
 rg:∀(i:Nat) (h:i < L.ws.length) (h':i < L.rl.length),Tg n0 H 158 L.ws[i] L.rl[i]
 rx:∀(i j:Nat) (h:i < L.ws.length) (h':j < L.ws.length),L.ws[i].blk=L.ws[j].blk→i=j
 rd:∀r∈L.rl,∀x∈r,Sl (H.off ow) x.tv x.p.thr∧Sl (H.off ow) x.pv x.p.past
 rm:L.rl.map (·.map (·.p))=M.rows
 gc:CrM H L.cb M.cr
 gf:Tg n0 H 138 L.fv M.fa
 om:mb∈ow
 oy:L.yb∈ow
 ot:L.tb∈ow
 oc:L.cb∈ow
 orw:∀w∈L.ws,w.blk∈ow
 of:L.fv.blk∈ow
 lo:∀x∈ow,n0≤x∧x < H.n
section
variable {n0 mb:Nat}{H:Heap}{ow:List Nat}{L:Ly}{M:Mc}
theorem MI.ysn(h:MI n0 mb H ow L M):M.ys.length=6:=by rw[←h.ym,List.length_map,h.yn]
theorem MI.keep(h:MI n0 mb H ow L M){H':Heap}(k:Keep H.n H H'):MI n0 mb H' ow L M:=by
 have kb:KeepO ow H H':=KeepO.of k;have ko:=kb.off';have hg:∀x,x < H.n→H'.get x=H.get x:=fun x hx=>k.2 x hx hx;obtain⟨es,c,h1,h2⟩:=h.gc
 exact{gm:=(hg _ (h.lo _ h.om).2).trans h.gm,rk:=h.rk,gy:=h.gy.keep k,yn:=h.yn,ym:=h.ym,yd:=fun x hx=>(h.yd x hx).keep ko,yo:=h.yo,bf:=h.bf.keep ko,bb:=h.bb.keep ko,bv:=h.bv,
       gt:=h.gt.keep k,wn:=h.wn,rn:=h.rn,rg:=fun i a b=>(h.rg i a b).same k.1 (hg _ (h.rg i a b).lt.1),rx:=h.rx,rd:=fun r hr x hx=>⟨(h.rd r hr x hx).1.keep ko,(h.rd r hr x hx).2.keep ko⟩,rm:=h.rm,
       gc:=⟨es,c,(hg _ (h.lo _ h.oc).2).trans h1,h2⟩,gf:=h.gf.same k.1 (hg _ h.gf.lt.1),om:=h.om,oy:=h.oy,ot:=h.ot,oc:=h.oc,orw:=h.orw,of:=h.of,lo:=fun x hx=>⟨(h.lo x hx).1,Nat.lt_of_lt_of_le (h.lo x hx).2 k.1⟩}
end
open Go.Iso
section
variable {n0 mb:Nat}{H:Heap}{ow:List Nat}{L:Ly}{M:Mc}
theorem MI.fullY(h:MI n0 mb H ow L M):H.get L.yb=some (.cells false 133 5 (aB L.yl)):=by
 have:=h.gy
 rw[←h.yn] at this;exact this.full
theorem MI.readY(h:MI n0 mb H ow L M){i:Nat}(hi:i < L.yl.length):H.read L.yb (i*5) 5=some (Cell.cs L.yl[i]):=by
 have:=(h.gy.sl true).read PS i hi
 simpa [SV.blk,SV.off] using this
theorem MI.ysI(h:MI n0 mb H ow L M){i:Nat}(hi:i < L.yl.length)(hi':i < M.ys.length):L.yl[i].y=M.ys[i]:=by
 have e:=h.ym
 have:(L.yl.map (·.y))[i]'(by rw[List.length_map];exact hi)=M.ys[i]:=by simp only[e]
 rw[List.getElem_map] at this;exact this
theorem MI.setY(h:MI n0 mb H ow L M){i:Nat}(hi:i < 6){y:Yn}{v:SV}(hy:OkY y)(hv:Sl (H.off ow) v y.pend):
  MI n0 mb (H.put L.yb (.cells false 133 5 (ar (aB L.yl) (i*5) [.bool y.inn,.int .i64 y.place,.int .i64 y.count,.bool y.new,v.iv]))) ow {L with yl:=L.yl.set i ⟨y,v⟩} {M with ys:=M.ys.set i y}:=by
 have hil:i < L.yl.length:=by rw[h.yn];exact hi
 have gy:=h.gy;rw[←h.yn] at gy;have g2:=Own.put gy PS i hil (⟨y,v⟩:Yv);generalize hob:IObj.cells false 133 5 (ar (aB L.yl) (i*5) [.bool y.inn,.int .i64 y.place,.int .i64 y.count,.bool y.new,v.iv])=ob;rw[sS,hob,h.yn] at g2;have kb:KeepO ow H (H.put L.yb ob):=KeepO.put h.oy;have ko:=kb.off';have hg:∀x,x≠L.yb→(H.put L.yb ob).get x=H.get x:=fun x hx=>by rw[aa,if_neg (Ne.symm hx)]
 have e1:mb≠L.yb:=fun e=>by have:=h.gm;rw[e,h.fullY] at this;cases this
 have e2:L.tb≠L.yb:=fun e=>by obtain⟨_,_,r,h3,_⟩:=h.gt;rw[e,h.fullY] at h3;cases h3
 have e3:L.fv.blk≠L.yb:=fun e=>by
  obtain⟨b,ex,h1,_,_,_,r,h3,_⟩:=h.gf;rw[h1] at e;have e:b=L.yb:=e;rw[e,h.fullY] at h3;cases h3
 obtain⟨es,c,h1,h2⟩:=h.gc;have e4:L.cb≠L.yb:=fun e=>by rw[e,h.fullY] at h1;cases h1
 have e5:∀(j:Nat) (h1:j < L.ws.length),L.ws[j].blk≠L.yb:=fun j h1 e=>by
  obtain⟨b,ex,h4,_,_,_,r,h3,_⟩:=h.rg j h1 (by rw[h.rn];rw[h.wn] at h1;exact h1);rw[h4] at e;have e:b=L.yb:=e;rw[e,h.fullY] at h3;cases h3
 exact{gm:=(hg _ e1).trans h.gm,rk:=h.rk,gy:=g2,yn:=by show(L.yl.set i _).length=6;rw[List.length_set,h.yn],
       ym:=by show(L.yl.set i _).map _=M.ys.set i y;rw[List.map_set,h.ym],
       yd:=fun x hx=>by
        rcases List.mem_or_eq_of_mem_set hx with hx | rfl
        ·exact(h.yd x hx).keep ko
        ·exact hv.keep ko
       yo:=fun x hx=>by
        rcases List.mem_or_eq_of_mem_set hx with hx | rfl
        ·exact h.yo x hx
        ·exact hy
       bf:=h.bf.keep ko,bb:=h.bb.keep ko,bv:=h.bv,
       gt:=h.gt.same (Nat.le_refl _) (hg _ e2),wn:=h.wn,rn:=h.rn,rg:=fun j a b=>(h.rg j a b).same (Nat.le_refl _) (hg _ (e5 j a)),rx:=h.rx,
       rd:=fun r hr x hx=>⟨(h.rd r hr x hx).1.keep ko,(h.rd r hr x hx).2.keep ko⟩,rm:=h.rm,
       gc:=⟨es,c,(hg _ e4).trans h1,h2⟩,gf:=h.gf.same (Nat.le_refl _) (hg _ e3),om:=h.om,oy:=h.oy,ot:=h.ot,oc:=h.oc,orw:=h.orw,of:=h.of,lo:=h.lo}
end
def MQ(n0 mb:Nat)(H:Heap)(ow:List Nat)(r:Except Int Mc)(Q:Out→Heap→Prop):Prop:=
 (∀e H',r=.error e→KeepO ow H H'→Q (.val (.int .i64 e)) H')∧
 ∀M' H' ow' L',r=.ok M'→KeepO ow H H'→(∀x∈ow,x∈ow')→(∀x∈ow',x∈ow∨H.n≤x)→MI n0 mb H' ow' L' M'→Q (.val (.int .i64 0)) H'
def RR(M:Mc)(o:Opn):Except Int Mc:=
 if (M.ys.getD (o.y - 1).toNat oh).inn=true then .error 12 else .ok {M with ys:=M.ys.set (o.y - 1).toNat (nF (M.ys.getD (o.y - 1).toNat oh) o.d)}
theorem Sx{n0 mb:Nat}{H:Heap}{ow:List Nat}{L:Ly}{M:Mc}(h:MI n0 mb H ow L M){o:Opn}(hd:o.d=0∨o.d=1)(hy:1≤o.y∧o.y≤6){lo:Nat}{Q:Out→Heap→Prop}(hlo:lo≤n0)(hn:n0≤H.n)
  (hq:MQ n0 mb H ow (RR M o) Q):W E0 lo (.call 69 [.ptr mb 0,.agg [.int .u8 o.k,.int .u8 o.d,.int .u8 o.b,.int .i64 o.a,.int .u8 o.y,.int .i64 o.r]]) H Q:=by
 obtain⟨i,hi⟩:∃i:Nat,o.y=(i:Int)+1:=⟨(o.y - 1).toNat,by omega⟩
 have hi6:i < 6:=by omega
 have hyl:i < L.yl.length:=by rw[h.yn];exact hi6
 have hys:i < M.ys.length:=by rw[h.ysn];exact hi6
 have ei:o.y - 1=(i:Int):=by omega
 have hlt:=h.lo _ h.om;rw[c69];have rm:=ae h.gm;have ry:=h.readY hyl;rw[sS] at ry
 have he:RR M o=if L.yl[i].y.inn=true then .error 12 else .ok {M with ys:=M.ys.set i (nF L.yl[i].y o.d)}:=by
  unfold RR;rw[show(o.y - 1).toNat=i by omega,List.getD_eq_getElem?_getD,List.getElem?_eq_getElem hys,Option.getD_some,h.ysI hyl hys]
 rw[he] at hq;clear he;have ej:(i:Int)+1 - 1=(i:Int):=by omega
 have hlty:=h.lo _ h.oy;simp(disch:=omega) only[ai,↓ah,seval,Yt,rm,ry,hi,ej,Int.toNat_natCast,show ¬H.n=L.yb by omega,show ¬H.n=mb by omega,↓FR,FW];have hmem:L.yl[i].y∈M.ys:=by rw[h.ysI hyl hys];exact List.getElem_mem _
 have hok:=h.yo _ hmem;have hv:=(h.yd _ (List.getElem_mem hyl)).unoff;have k1:Keep H.n H (H.new (.cells false 56 6 [.int .u8 o.k,.int .u8 o.d,.int .u8 o.b,.int .i64 o.a,.int .u8 ((i:Int)+1),.int .i64 o.r])):=.new _ _;refine KE hok hd (hv.keep k1) (by rw[ac];omega) fun H2 k2=>?_;have kk:Keep H.n H H2:=k1.trans (k2.lower (by rw[ac];omega));have hn2:=k2.1;rw[ac] at hn2;have g0:=k2.2 H.n (by rw[ac];omega) (by rw[ac];omega);rw[aj,if_pos rfl] at g0;have r0:=ae g0;have h2:=h.keep kk;have rm2:=ae h2.gm;clear rm ry k1 k2 hv;by_cases hin:L.yl[i].y.inn=true
 ·rw[if_pos hin] at hq;rw[if_pos hin];simp(disch:=omega) only[ai,↓ah,seval,Yt,rm2,r0,mI,↓FR,FW];exact hq.1 12 _ rfl (KeepO.of (kk.trans (Keep.newPut.lower (by omega))))
 ·rw[if_neg hin] at hq;rw[if_neg hin];have gy2:=h2.fullY;have hfl:(aB L.yl).length=30:=by rw[ao,h.yn];rfl
  simp(disch:=omega) only[ai,↓ah,seval,Yt,rm2,r0,gy2,hfl,mI,ej,Int.toNat_natCast,show ¬H.n=L.yb by omega,show ¬H.n=mb by omega,show ¬H2.n=L.yb by omega,show ¬H2.n=mb by omega,show ¬H2.n=H.n by omega,↓FR,FW]
  have h3:=h2.keep (Keep.newPut (o:=.cells false 133 5 [.bool false,.int .i64 0,.int .i64 0,.bool false,.nilSlice]) (o':=.cells false 133 5 [.bool (nF L.yl[i].y o.d).inn,.int .i64 (nF L.yl[i].y o.d).place,.int .i64 (nF L.yl[i].y o.d).count,.bool (nF L.yl[i].y o.d).new,.nilSlice]));have h4:=h3.setY hi6 (GJ hok o.d) (v:=.nil) (Sl.empty:Sl _ .nil ([]:List Ps));exact hq.2 _ _ ow _ rfl ((KeepO.of (kk.trans (Keep.newPut.lower (by omega)))).trans (KeepO.put h.oy) fun x hx=>.inl hx) (fun _ hx=>hx) (fun _ hx=>.inl hx) h4
open Go.Iso
def GG(M:Mc)(o:Opn):Except Int Mc:=
 if (M.ys.getD (o.y - 1).toNat oh).inn=true then .ok {M with ys:=M.ys.set (o.y - 1).toNat (nm (M.ys.getD (o.y - 1).toNat oh))} else .error 12
theorem Qv{n0 mb:Nat}{H:Heap}{ow:List Nat}{L:Ly}{M:Mc}(h:MI n0 mb H ow L M){o:Opn}(hy:1≤o.y∧o.y≤6){lo:Nat}{Q:Out→Heap→Prop}(hlo:lo≤n0)(hn:n0≤H.n)
  (hq:MQ n0 mb H ow (GG M o) Q):W E0 lo (.call 70 [.ptr mb 0,.agg [.int .u8 o.k,.int .u8 o.d,.int .u8 o.b,.int .i64 o.a,.int .u8 o.y,.int .i64 o.r]]) H Q:=by
 obtain⟨i,hi⟩:∃i:Nat,o.y=(i:Int)+1:=⟨(o.y - 1).toNat,by omega⟩
 have hi6:i < 6:=by omega
 have hyl:i < L.yl.length:=by rw[h.yn];exact hi6
 have hys:i < M.ys.length:=by rw[h.ysn];exact hi6
 have ei:o.y - 1=(i:Int):=by omega
 have hlt:=h.lo _ h.om;rw[c70];have rm:=ae h.gm;have ry:=h.readY hyl;rw[sS] at ry
 have he:GG M o=if L.yl[i].y.inn=true then .ok {M with ys:=M.ys.set i (nm L.yl[i].y)} else .error 12:=by
  unfold GG;rw[show(o.y - 1).toNat=i by omega,List.getD_eq_getElem?_getD,List.getElem?_eq_getElem hys,Option.getD_some,h.ysI hyl hys]
 rw[he] at hq;clear he;have ej:(i:Int)+1 - 1=(i:Int):=by omega
 have hlty:=h.lo _ h.oy;simp(disch:=omega) only[ai,↓ah,seval,Ys,rm,ry,hi,ej,Int.toNat_natCast,show ¬H.n=L.yb by omega,show ¬H.n=mb by omega,↓FR,FW];have hmem:L.yl[i].y∈M.ys:=by rw[h.ysI hyl hys];exact List.getElem_mem _
 have hok:=h.yo _ hmem;have hv:=(h.yd _ (List.getElem_mem hyl)).unoff;have k1:Keep H.n H (H.new (.cells false 56 6 [.int .u8 o.k,.int .u8 o.d,.int .u8 o.b,.int .i64 o.a,.int .u8 ((i:Int)+1),.int .i64 o.r])):=.new _ _;refine J3 hok (hv.keep k1) (by rw[ac];omega) fun H2 k2=>?_;have kk:Keep H.n H H2:=k1.trans (k2.lower (by rw[ac];omega));have hn2:=k2.1;rw[ac] at hn2;have g0:=k2.2 H.n (by rw[ac];omega) (by rw[ac];omega);rw[aj,if_pos rfl] at g0;have r0:=ae g0;have h2:=h.keep kk;have rm2:=ae h2.gm;clear rm ry k1 k2 hv;by_cases hin:L.yl[i].y.inn=true
 ·rw[if_pos hin] at hq;rw[if_pos hin];have gy2:=h2.fullY;have hfl:(aB L.yl).length=30:=by rw[ao,h.yn];rfl
  simp(disch:=omega) only[ai,↓ah,seval,Ys,rm2,r0,gy2,hfl,mI,ej,Int.toNat_natCast,show ¬H.n=L.yb by omega,show ¬H.n=mb by omega,show ¬H2.n=L.yb by omega,show ¬H2.n=mb by omega,show ¬H2.n=H.n by omega,↓FR,FW]
  have h3:=h2.keep (Keep.newPut (o:=.cells false 133 5 [.bool false,.int .i64 0,.int .i64 0,.bool false,.nilSlice]) (o':=.cells false 133 5 [.bool (nm L.yl[i].y).inn,.int .i64 (nm L.yl[i].y).place,.int .i64 (nm L.yl[i].y).count,.bool (nm L.yl[i].y).new,.nilSlice]));have h4:=h3.setY hi6 (GI hok) (v:=.nil) (Sl.empty:Sl _ .nil ([]:List Ps));exact hq.2 _ _ ow _ rfl ((KeepO.of (kk.trans (Keep.newPut.lower (by omega)))).trans (KeepO.put h.oy) fun x hx=>.inl hx) (fun _ hx=>hx) (fun _ hx=>.inl hx) h4
 ·rw[if_neg hin] at hq;rw[if_neg hin];simp(disch:=omega) only[ai,↓ah,seval,Ys,rm2,r0,mI,↓FR,FW];exact hq.1 12 _ rfl (KeepO.of (kk.trans (Keep.newPut.lower (by omega))))
theorem zo{b a r:Int}(hn:an b a=0)(hr: -4≤r∧r≤4): -12≤aD b a r∧aD b a r≤178∧(aD b a r).tmod 2=0:=by
 unfold an at hn;by_cases h1:(b=0∨b=1)∧1≤a∧a≤40
 ·unfold aD;split
  ·split<;>refine⟨by omega,by omega,?_⟩
   ·rw[show 4*a+2=2*(2*a+1) by omega,Int.mul_tmod_right]
   ·rw[show 4*(a+r)=2*(2*(a+r)) by omega,Int.mul_tmod_right]
  ·exact⟨by omega,by omega,by rfl⟩
 ·rw[if_neg h1] at hn;omega
def iB(M:Mc)(o:Opn):Except Int (Int×Int):=
 if (M.ys.getD (o.y - 1).toNat oh).inn=false then .error 12
 else if o.d=1 then(if (M.ys.getD (o.y - 1).toNat oh).place>aD o.b o.a M.rack then .error 12 else .ok (aD o.b o.a M.rack+1,aD o.b o.a M.rack))
 else if (M.ys.getD (o.y - 1).toNat oh).place < aD o.b o.a M.rack then .error 12 else .ok (aD o.b o.a M.rack - 1,aD o.b o.a M.rack)
theorem si{n0 mb:Nat}{H:Heap}{ow:List Nat}{L:Ly}{M:Mc}(h:MI n0 mb H ow L M){o:Opn}(hd:o.d=0∨o.d=1)(hne:an o.b o.a=0)(hy:1≤o.y∧o.y≤6){lo:Nat}{Q:Out→Heap→Prop}(hlo:lo≤H.n)
  (he:∀e H',Keep H.n H H'→iB M o=.error e→Q (.val (.tuple [.int .i64 0,.int .i64 0,.int .i64 e])) H')
  (hq:∀p s H',Keep H.n H H'→iB M o=.ok (p,s)→Q (.val (.tuple [.int .i64 p,.int .i64 s,.int .i64 0])) H'):
  W E0 lo (.call 125 [.ptr mb 0,.agg [.int .u8 o.k,.int .u8 o.d,.int .u8 o.b,.int .i64 o.a,.int .u8 o.y,.int .i64 o.r]]) H Q:=by
 refine W.pure aX hlo ?_;obtain⟨i,hi⟩:∃i:Nat,o.y=(i:Int)+1:=⟨(o.y - 1).toNat,by omega⟩;have hi6:i < 6:=by omega
 have hyl:i < L.yl.length:=by rw[h.yn];exact hi6
 have hys:i < M.ys.length:=by rw[h.ysn];exact hi6
 have hlt:=h.lo _ h.om;have rm:=ae h.gm;have ry:=h.readY hyl;rw[sS] at ry;obtain⟨s,hs⟩:∃s,aD o.b o.a M.rack=s:=⟨_,rfl⟩;have hsb:=zo hne h.rk;rw[hs] at hsb;unfold iB at he hq;rw[show(o.y - 1).toNat=i by omega,List.getD_eq_getElem?_getD,List.getElem?_eq_getElem hys,Option.getD_some,←h.ysI hyl hys,hs] at he hq;have ej:(i:Int)+1 - 1=(i:Int):=by omega
 have hlty:=h.lo _ h.oy;rw[XY];simp(disch:=omega) only[ai,↓ah,seval,HG,rm,ry,hi,ej,Int.toNat_natCast,show ¬H.n=L.yb by omega,show ¬H.n=mb by omega,↓FR,FW];have k1:Keep H.n H (H.new (.cells false 56 6 [.int .u8 o.k,.int .u8 o.d,.int .u8 o.b,.int .i64 o.a,.int .u8 ((i:Int)+1),.int .i64 o.r])):=.new _ _;refine lN o.b o.a M.rack (by rw[ac];omega) fun H2 k2=>?_;rw[hs];have hn2:=k2.1;rw[ac] at hn2;have g0:=k2.2 H.n (by rw[ac];omega) (by rw[ac];omega);rw[aj,if_pos rfl] at g0;have r0:=ae g0;clear rm ry k1 k2 hs hlty hlt;by_cases hin:L.yl[i].y.inn=true
 ·rw[if_neg (by rw[hin];decide)] at he hq;rcases hd with hd | hd
  ·rw[if_neg (by omega)] at he hq;by_cases hp:L.yl[i].y.place < s
   ·rw[if_pos hp] at he hq;simp(disch:=omega) only[ai,↓ah,seval,HG,r0,hin,hd,↓FR,FW];exact fun hk=>he 12 _ hk rfl
   ·rw[if_neg hp] at he hq;simp(disch:=omega) only[ai,↓ah,seval,HG,r0,hin,hd,↓FR,FW];exact fun hk=>hq _ _ _ hk rfl
  ·rw[if_pos hd] at he hq;by_cases hp:L.yl[i].y.place>s
   ·rw[if_pos hp] at he hq;simp(disch:=omega) only[ai,↓ah,seval,HG,r0,hin,hd,↓FR,FW];exact fun hk=>he 12 _ hk rfl
   ·rw[if_neg hp] at he hq;simp(disch:=omega) only[ai,↓ah,seval,HG,r0,hin,hd,↓FR,FW];exact fun hk=>hq _ _ _ hk rfl
 ·have hin:L.yl[i].y.inn=false:=by simpa using hin
  rw[if_pos hin] at he hq;simp(disch:=omega) only[ai,↓ah,seval,HG,r0,hin,↓FR,FW];exact fun hk=>he 12 _ hk rfl
def j7(M:Mc):List Hd:=bJ (aN M.t) (aG M.t) M.rack
theorem Valid.len6{t:List (List Id)}(h:Valid t):(∀l∈aN t,l.length≤1000000)∧(∀l∈aG t,l.length≤1000000):=
 ⟨fun l hl=>by have:=h.four l (eD hl);omega,fun l hl=>by have:=h.four l (cV hl);omega⟩
theorem JT{n0 mb:Nat}{H:Heap}{ow:List Nat}{L:Ly}{M:Mc}(h:MI n0 mb H ow L M){lo:Nat}{Q:Out→Heap→Prop}(hlo:lo≤H.n)
  (hq:∀H' v,Keep H.n H H'→Fresh H.n H' 204 v (j7 M)→(j7 M).length≤320→Q (.val (.tuple [v.iv,.int .i64 0])) H'):W E0 lo (.call 119 [bv L.f L.b,.int .i64 M.rack]) H Q:=by
 have hr:d0 M.rack=true:=rackB_iff.2 h.rk;have hc:=h.bv.check;have hF:=jI M.t;have hB:=gJ h.bv.len;obtain⟨h6,h6'⟩:=h.bv.len6;have ho:bB (aN M.t) (aG M.t) M.rack=0:=by unfold bB;rw[hc,hr];simp
 refine vG M.rack h.bf.unoff h.bb.unoff (by omega) (by omega) h6 h6' hlo (fun H' _ hne=>absurd ho hne) fun H' v l k _ hf hp hs=>?_;rw[qu hc hr hp hs] at hf;have h4:∀x∈aN M.t,x.length≤4:=fun l hl=>h.bv.four l (eD hl);have h4':∀x∈aG M.t,x.length≤4:=fun l hl=>h.bv.four l (cV hl);have hl:=hp.length_eq;have e1:=ld hF h4;have e2:=ld hB h4';rw[i9,qu hc hr hp hs] at hl;exact hq H' v k hf (by unfold j7;omega)
theorem Kq{M:Mc}(hv:Valid M.t)(hr:d0 M.rack=true):∀x∈j7 M,bx x.id=true:=by
 intro x hx;obtain⟨i,hi,hx⟩:=(sJ hr).1 hx;obtain⟨j,hj,rfl⟩:=stackH_mem.1 hx;have hm:=List.getElem_mem hj
 show bx (mC (aN M.t) (aG M.t) (nB i) (nA i))[j]=true
 generalize (mC (aN M.t) (aG M.t) (nB i) (nA i))[j]=a at hm⊢;by_cases hn:an (nB i) (nA i)=0
 ·rw[iR M.t hn] at hm;refine hv.named a (List.mem_flatten.2 ?_);rw[List.getD_eq_getElem?_getD] at hm;by_cases hk:ix (nB i) (nA i) < M.t.length
  ·rw[List.getElem?_eq_getElem hk,Option.getD_some] at hm;exact⟨_,List.getElem_mem hk,hm⟩
  ·rw[List.getElem?_eq_none (by omega),Option.getD_none] at hm;cases hm
 ·rw[K9 _ _ hn] at hm;cases hm
theorem Rj{M:Mc}(hv:Valid M.t)(hr:d0 M.rack=true)(a b:Int):∀p∈rc (j7 M) a b,Rz p:=by
 intro p hp;refine⟨?_,?_⟩
 ·have hb:∀low high d,p∈mr (j7 M) low high d→bx p.id=true:=fun low high d h=>by
   obtain⟨x,hx,rfl⟩:=List.mem_map.1 h;exact Kq hv hr x (List.mem_filter.1 hx).1
  unfold rc at hp;split at hp
  ·exact hb _ _ _ hp
  ·exact hb _ _ _ (List.mem_reverse.1 hp)
 ·have:=K0 _ _ _ p hp
  rw[this];split<;>simp
def mm(M:Mc)(yn p en:Int):Except Int Mc:=
 if (M.ys.getD (yn - 1).toNat oh).inn=false then .error 12
 else if 4096 < (nu (M.ys.getD (yn - 1).toNat oh) p (rc (j7 M) (M.ys.getD (yn - 1).toNat oh).place en)).pend.length then .error 3
 else .ok {M with ys:=M.ys.set (yn - 1).toNat (nu (M.ys.getD (yn - 1).toNat oh) p (rc (j7 M) (M.ys.getD (yn - 1).toNat oh).place en))}
theorem wE{n0 mb:Nat}{H:Heap}{ow:List Nat}{L:Ly}{M:Mc}(h:MI n0 mb H ow L M){yn p en:Int}(hp:vH p=true)(hy:1≤yn∧yn≤6){lo:Nat}{Q:Out→Heap→Prop}(hlo:lo≤n0)(hn:n0≤H.n)
  (hq:MQ n0 mb H ow (mm M yn p en) Q):W E0 lo (.call 126 [.ptr mb 0,.int .u8 yn,.int .i64 p,.int .i64 en]) H Q:=by
 obtain⟨i,rfl⟩:∃i:Nat,yn=(i:Int)+1:=⟨(yn - 1).toNat,by omega⟩
 have hi6:i < 6:=by omega
 have hyl:i < L.yl.length:=by rw[h.yn];exact hi6
 have hys:i < M.ys.length:=by rw[h.ysn];exact hi6
 have ej:(i:Int)+1 - 1=(i:Int):=by omega
 unfold mm at hq;rw[ej,Int.toNat_natCast,List.getD_eq_getElem?_getD,List.getElem?_eq_getElem hys,Option.getD_some,←h.ysI hyl hys] at hq;have hlt:=h.lo _ h.om;have rm:=ae h.gm;rw[XX];simp(disch:=omega) only[ai,↓ah,seval,LQ,rm,ak,↓FR,FW];refine JT h (by omega) fun H2 v k2 f2 hl2=>?_;have h2:=h.keep k2;have hn2:=k2.1;have rm2:=ae h2.gm;have ry2:=h2.readY hyl;rw[sS] at ry2;have hlty:=h.lo _ h.oy;clear rm;simp(disch:=omega) only[ai,↓ah,seval,LQ,rm2,ry2,ej,Int.toNat_natCast,↓FR,FW];have hmem:L.yl[i].y∈M.ys:=by rw[h.ysI hyl hys];exact List.getElem_mem _
 have hok:=h.yo _ hmem;have hr:d0 M.rack=true:=rackB_iff.2 h.rk;have k3:Keep H2.n H2 ((H2.new (.cells false 133 5 [.bool false,.int .i64 0,.int .i64 0,.bool false,.nilSlice])).put H2.n (.cells false 133 5 [.bool L.yl[i].y.inn,.int .i64 L.yl[i].y.place,.int .i64 L.yl[i].y.count,.bool L.yl[i].y.new,L.yl[i].v.iv])):=Keep.newPut;refine Ed L.yl[i].y.place en (f2.sl.keep k3) (by omega) (by rw[af,ac];omega) fun H3 w k4 f3=>?_;have g4:=k4.2 H2.n (by rw[af,ac];omega) (by rw[af,ac];omega);rw[aa,if_pos rfl] at g4;have hn3:=k4.1;rw[af,ac] at hn3;have k5:Keep H2.n H2 H3:=k3.trans (k4.lower (by rw[af,ac];omega));have k6:Keep H.n H H3:=k2.trans (k5.lower hn2);have h3:=h.keep k6;have hv3:=(h3.yd _ (List.getElem_mem hyl)).unoff;have hbl:=KZ (j7 M) L.yl[i].y.place en;have hbo:=Rj h.bv hr L.yl[i].y.place en;have su3:=f3.sl;generalize rc (j7 M) L.yl[i].y.place en=bl at *;clear k2 k3 k4 k5 rm2 ry2 f2 f3 h2;simp(disch:=omega) only[ai,↓ah,seval,LQ,↓FR,FW];refine Pu hok hp hv3 su3 (by omega) hbo (by omega) (fun H4 e k7 hc=>?_) fun H4 b4 k7 hin hle hb4 o4=>?_
 ·have hq':MQ n0 mb H ow (.error e) Q:=by
   rcases hc with⟨h1,rfl⟩ | ⟨h1,h2,rfl⟩
   ·rw[if_pos h1] at hq;exact hq
   ·rw[if_neg (by rw[h1];decide),if_pos h2] at hq;exact hq
  have hz:¬e=0:=by rcases hc with⟨_,rfl⟩ | ⟨_,_,rfl⟩<;>decide
  have hn4:=k7.1;clear hq hc h3 su3 hv3;simp(disch:=omega) only[ai,↓ah,seval,LQ,mI,↓FR,FW];exact hq'.1 e _ rfl (KeepO.of ((k6.trans (k7.lower (by omega))).trans (Keep.newPut.lower (by omega))))
 ·rw[if_neg (by rw[hin];decide),if_neg (by omega)] at hq;have h4:=h3.keep k7;have hn4:=k7.1;have k8:Keep H.n H H4:=k6.trans (k7.lower (by omega));have rm4:=ae h4.gm;have gy4:=h4.fullY;have hfl:(aB L.yl).length=30:=by rw[ao,h.yn];rfl
  have ho5:=JL hok hp hin hbo hle;have hb5:b4∉ow:=fun hx=>by have:=(h.lo _ hx).2;omega
  have h5:=h4.keep (Keep.newPut (o:=.cells false 133 5 [.bool false,.int .i64 0,.int .i64 0,.bool false,.nilSlice]) (o':=.cells false 133 5 [.bool (nu L.yl[i].y p bl).inn,.int .i64 (nu L.yl[i].y p bl).place,.int .i64 (nu L.yl[i].y p bl).count,.bool (nu L.yl[i].y p bl).new,.slice b4 0 (nu L.yl[i].y p bl).pend.length (nu L.yl[i].y p bl).pend.length true]));have h6:=h5.setY hi6 ho5 (v:=.sl b4 0 (nu L.yl[i].y p bl).pend.length (nu L.yl[i].y p bl).pend.length true) (((o4.keep Keep.newPut).sl true).onto fun _=>hb5);clear h3 su3 hv3 h5 o4;simp(disch:=omega) only[ai,↓ah,seval,LQ,rm4,gy4,hfl,mI,ej,Int.toNat_natCast,show ¬H4.n=L.yb by omega,show ¬H4.n=mb by omega,↓FR,FW];exact hq.2 _ _ ow _ rfl ((KeepO.of (k8.trans (Keep.newPut.lower (by omega)))).trans (KeepO.put h.oy) fun x hx=>.inl hx) (fun _ hx=>hx) (fun _ hx=>.inl hx) h6
theorem rA{α:Type}(ls:List (List α))(i:Nat)(hi:i < ls.length):(ls.take (i+1)).flatten.length=(ls.take i).flatten.length+ls[i].length:=by
 rw[List.take_succ_eq_append_getElem hi,List.flatten_append,List.length_append];simp
theorem lJ{α:Type}(ls:List (List α))(i:Nat):(ls.take i).flatten.length≤ls.flatten.length:=by
 have:=congrArg List.length (congrArg List.flatten (List.take_append_drop i ls))
 rw[List.flatten_append,List.length_append] at this;omega
def Q7(tm:List IV)(h:tm.length=18):=(bL tm 18 h).trans (by simp only[List.range,List.range.loop,List.map_cons,List.map_nil];exact rfl)
theorem GT{v:SV}{ls:List (List Lv)}{H:Heap}{lo:Nat}{Q:Out→Heap→Prop}(hv:Sl2 H v ls)(hn:ls.length≤1000)(hl:ls.flatten.length≤1000000)(hlo:lo≤H.n)
  (h:∀H',Keep H.n H H'→Q (.val (.int .i64 (ls.flatten.length:Nat))) H'):W E0 lo (.call 161 [v.iv]) H Q:=by
 refine gu _ hlo h fun R hR=>?_;rw[SP];simp(disch:=omega) only[ai,↓ah,seval,Tu,↓hv.ln];refine aM (fun k fr H'=>∃i,i+k=ls.length∧Keep H.n H H'∧fr.marks=[]∧fr.tm.length=18∧fr.tm.getD 3 IV.undef=.int .i64 ((ls.take i).flatten.length:Nat)∧fr.tm.getD 6 IV.undef=v.iv∧fr.tm.getD 7 IV.undef=.int .i64 ls.length∧fr.tm.getD 8 IV.undef=.int .i64 i) ?_ ls.length ⟨0,by omega,Keep.refl _ _,rfl,rfl,rfl,rfl,rfl,rfl⟩;rintro k ⟨tm,mk⟩ H' ⟨i,hik,hk,rfl,htm,t3,t6,t7,t8⟩ L hN hJ;have hv':=hv.keep hk;rw[Q7 tm htm,t3,t6,t7,t8];by_cases hi:i < ls.length
 ·obtain⟨w,hw,hs,_⟩:=hv'.elem i hi;have e1:=rA ls i hi;have e2:=lJ ls (i+1);simp only[Nat.mul_one] at hw;simp(disch:=omega) only[ai,↓ah,seval,LH,↓hv'.idx,hw,↓hs.ln,Nat.mul_one];exact hN (k - 1) _ _ (by omega) ⟨i+1,by omega,hk,rfl,rfl,by rw[e1];rfl,rfl,rfl,rfl⟩
 ·rw[List.take_of_length_le (by omega)];simp(disch:=omega) only[ai,↓ah,seval,LH,hJ];exact hR _
def AM(a b:Id):Int:=if iL a.y b.y≠0 then iL a.y b.y else iL a.n b.n
theorem zP(a:Int){lo:Nat}{H:Heap}{Q:Out→Heap→Prop}:W E0 lo (.call 175 [.int .u8 a]) H Q=Q (.val (.bool false)) H:=by
 rw[Xy];simp(disch:=omega) only[ai,↓ah,seval,YI]
theorem DH(a:Int){lo:Nat}{H:Heap}{Q:Out→Heap→Prop}:W E0 lo (.call 140 [.int .i64 a]) H Q=Q (.val (.bool false)) H:=by
 rw[Ho];simp(disch:=omega) only[ai,↓ah,seval,HE]
theorem KU(a b:Int){lo:Nat}{H:Heap}{Q:Out→Heap→Prop}:W E0 lo (.call 135 [.int .u8 a,.int .u8 b]) H Q=Q (.val (.int .i64 (iL a b))) H:=by
 rw[XQ];unfold iL;by_cases c1:a < b
 ·rw[if_pos c1];simp(disch:=omega) only[ai,↓ah,seval,RL,zP,c1]
 ·rw[if_neg c1];by_cases c2:a>b
  ·rw[if_pos c2];simp(disch:=omega) only[ai,↓ah,seval,RL,zP,c1,c2]
  ·rw[if_neg c2];simp(disch:=omega) only[ai,↓ah,seval,RL,zP,c1,c2]
theorem NS(a b:Int){lo:Nat}{H:Heap}{Q:Out→Heap→Prop}:W E0 lo (.call 136 [.int .i64 a,.int .i64 b]) H Q=Q (.val (.int .i64 (iL a b))) H:=by
 rw[SS];unfold iL;by_cases c1:a < b
 ·rw[if_pos c1];simp(disch:=omega) only[ai,↓ah,seval,HF,DH,c1]
 ·rw[if_neg c1];by_cases c2:a>b
  ·rw[if_pos c2];simp(disch:=omega) only[ai,↓ah,seval,HF,DH,c1,c2]
  ·rw[if_neg c2];simp(disch:=omega) only[ai,↓ah,seval,HF,DH,c1,c2]
theorem Qw{a b:Int}{x e:Nat}{H:Heap}(hg:H.get x=some (.cells false e 1 [.int .i64 a,.int .i64 b])){lo:Nat}{Q:Out→Heap→Prop}:W E0 lo (.call 134 [.slice x 0 2 2 true]) H Q=Q (.val (.int .i64 (if a≠0 then a else b))) H:=by
 rw[XR];have r:=ae hg;simp(disch:=omega) only[ai,↓ah,seval,TA];rw[ij];by_cases ha:a=0
 ·rw[if_neg (by omega)];simp(disch:=omega) only[ai,↓ah,seval,CO,r,ha];rw[ij];by_cases hb:b=0
  ·simp(disch:=omega) only[ai,↓ah,seval,CO,r,hb]
   rw[ij];simp(disch:=omega) only[ai,↓ah,seval,CO]
  ·simp(disch:=omega) only[ai,↓ah,seval,CO,r,hb]
 ·rw[if_pos ha];simp(disch:=omega) only[ai,↓ah,seval,CO,r,ha]
theorem uh(a b:Id){H:Heap}{lo:Nat}{Q:Out→Heap→Prop}(hlo:lo≤H.n)(h:∀H',Keep H.n H H'→Q (.val (.int .i64 (AM a b))) H'):W E0 lo (.call 80 [.agg [.int .u8 a.y,.int .i64 a.n],.agg [.int .u8 b.y,.int .i64 b.n]]) H Q:=by
 refine gu _ hlo h fun R hR=>?_;rw[c80];simp(disch:=omega) only[ai,↓ah,seval,Zp,KU,NS,↓FR,FW];rw[Qw (a:=iL a.y b.y) (b:=iL a.n b.n) (e:=3) (by rw[aj,if_pos (by simp only[ac])])];simp(disch:=omega) only[ai,↓ah,seval,Zp];exact hR _
def tt(a b:Id):List (Id×Id×Int)→Nat→Option (Nat×Int)
 | [],_=>none
 | (c,d,n)::l,i=>if a=c∧b=d then some (i,n) else tt a b l (i+1)
def NI(e:IV×IV×Nat):IV×IV:=(e.1,e.2.1)
def Ra(k:Id×Id×Int):IV×IV:=(Hk k.1 k.2.1,.int .i64 k.2.2)
theorem Rf(a b c d:Id):dU (true,[.int,.int,.int,.int]) (Hk a b) (Hk c d)=some (decide (a=c∧b=d)):=by
 simp only[dU,Hk,aT,Bool.and_self,if_true,IV.cells,hU,G8]
 cases a with | mk y n=>cases b with | mk y' n'=>cases c with | mk u m=>cases d with | mk u' m'=>
 congr 1;by_cases h1:y=u<;>by_cases h2:n=m<;>by_cases h3:y'=u'<;>by_cases h4:n'=m'<;>simp[h1,h2,h3,h4]
theorem Ao(a b:Id):∀(cr:List (Id×Id×Int)) (es:List (IV×IV×Nat)) (i:Nat),es.map NI=cr.map Ra→
  aF (true,[.int,.int,.int,.int]) (Hk a b) es i=some ((tt a b cr i).map fun r=>(r.1,.int .i64 r.2)):=by
 intro cr
 induction cr with
 | nil=>
   intro es i h
   have:es=[]:=by simpa using h
   subst this;rfl
 | cons k cr ih=>
   intro es i h
   match es,h with
   | [],h=>simp at h
   | (k',v,s)::es,h=>
     obtain⟨c,d,n⟩:=k;rw[List.map_cons,List.map_cons] at h;injection h with h1 h2;unfold NI Ra at h1;injection h1 with h1 h3;have h1:k'=Hk c d:=h1;have h3:v=.int .i64 n:=h3;subst h1 h3;simp only[aF,Rf,tt];by_cases hk:a=c∧b=d
     ·rw[if_pos hk,decide_eq_true hk];rfl
     ·rw[if_neg hk,decide_eq_false hk];exact ih es (i+1) h2
theorem vq(k v:IV):∀(es:List (IV×IV×Nat)) (i:Nat),(bP k v es i).map NI=(es.map NI).set i (k,v)
 | [],_=>rfl
 | (k',v',s)::es,0=>rfl
 | x::es,i+1=>by
   rw[bP,List.map_cons,List.map_cons,List.set_cons_succ,vq k v es i]
theorem nD{α β:Type}(f:α→β):∀(es:List α) (i:Nat),(dX es i).map f=dX (es.map f) i
 | [],_=>rfl
 | _::_,0=>rfl
 | x::es,i+1=>by
   rw[dX,List.map_cons,List.map_cons,dX,nD f es i]
def ll(cr:List (Id×Id×Int))(a b:Id):Int:=((tt a b cr 0).map (·.2)).getD 0
def qX(cr:List (Id×Id×Int))(a b:Id)(n:Int):List (Id×Id×Int):=match tt a b cr 0 with
 | some (i,_)=>cr.set i (a,b,n)
 | none=>cr++[(a,b,n)]
def qY(cr:List (Id×Id×Int))(a b:Id):List (Id×Id×Int):=match tt a b cr 0 with
 | some (i,_)=>dX cr i
 | none=>cr
theorem sC(k v:IV):∀(es:List (IV×IV×Nat)) (i:Nat),(bP k v es i).map (·.2.2)=es.map (·.2.2)
 | [],_=>rfl
 | (k',v',s)::es,0=>rfl
 | x::es,i+1=>by
   rw[bP,List.map_cons,List.map_cons,sC k v es i]
theorem iI{α:Type}:∀(es:List α) (i:Nat),(dX es i).Sublist es
 | [],_=>.slnil
 | x::es,0=>.cons x (List.Sublist.refl es)
 | x::es,i+1=>.cons_cons x (iI es i)
theorem BornOk.set{es:List (IV×IV×Nat)}{c:Nat}(h:BornOk es c)(k v:IV)(i:Nat):BornOk (bP k v es i) c:=by
 unfold BornOk;rw[sC];exact h
theorem BornOk.add{es:List (IV×IV×Nat)}{c:Nat}(h:BornOk es c)(k v:IV):BornOk (es++[(k,v,c)]) (c+1):=by
 unfold BornOk;rw[List.map_append];refine⟨fun s hs=>?_,?_⟩
 ·rcases List.mem_append.1 hs with hs | hs
  ·have:=h.1 s hs;omega
  ·rw[List.mem_singleton.1 hs];exact Nat.lt_succ_self _
 ·rw[List.nodup_append];refine⟨h.2,by simp,fun a ha b hb e=>?_⟩
  have:=h.1 a ha
  rw[e,List.mem_singleton.1 hb] at this;exact Nat.lt_irrefl _ this
theorem BornOk.del{es:List (IV×IV×Nat)}{c:Nat}(h:BornOk es c)(i:Nat):BornOk (dX es i) c:=by
 have hs:=(iI es i).map (·.2.2)
 exact⟨fun s hs'=>h.1 s (hs.subset hs'),h.2.sublist hs⟩
theorem D3(a b:Id):bS (true,[.int,.int,.int,.int]) (Hk a b)=true:=rfl
theorem CrM.look{H:Heap}{cb:Nat}{cr:List (Id×Id×Int)}(h:CrM H cb cr)(a b:Id)(t lo:Nat):
  ev1 (.lookup t (true,[.int,.int,.int,.int]) (.int .i64 0) false) [.map cb,.agg [.int .u8 a.y,.int .i64 a.n,.int .u8 b.y,.int .i64 b.n]] lo H=some (.int .i64 (ll cr a b),H):=by
 obtain⟨es,c,hg,hm,hbo⟩:=h;have hf:=Ao a b cr es 0 hm;have hk:=D3 a b;unfold Hk at hf hk;simp only[ev1,az,hg,Option.map_some,hk,if_true,hf];unfold ll
 cases tt a b cr 0<;>rfl
theorem CrM.upd{H:Heap}{cb:Nat}{cr:List (Id×Id×Int)}(h:CrM H cb cr)(a b:Id)(n:Int)(lo:Nat)(hlo:lo≤cb):
  ∃ob,ev1 (.mapUpd (true,[.int,.int,.int,.int])) [.map cb,.agg [.int .u8 a.y,.int .i64 a.n,.int .u8 b.y,.int .i64 b.n],.int .i64 n] lo H=some (IV.undef,H.put cb ob)∧CrM (H.put cb ob) cb (qX cr a b n):=by
 obtain⟨es,c,hg,hm,hbo⟩:=h;have hf:=Ao a b cr es 0 hm;have hk:=D3 a b;have hm':es.map NI=cr.map Ra:=hm;unfold Hk at hf hk;simp only[ev1,az,hg,hk,hlo,and_self,if_true,hf];unfold qX
 cases e:tt a b cr 0 with
 | none=>exact⟨_,rfl,_,_,by rw[aa,if_pos rfl],by show List.map NI _=List.map Ra _;rw[List.map_append,List.map_append,hm'];rfl,hbo.add _ _⟩
 | some r=>exact⟨_,rfl,_,_,by rw[aa,if_pos rfl],by show List.map NI _=List.map Ra _;rw[vq,List.map_set,hm'];rfl,hbo.set _ _ _⟩
theorem CrM.del{H:Heap}{cb:Nat}{cr:List (Id×Id×Int)}(h:CrM H cb cr)(a b:Id)(lo:Nat)(hlo:lo≤cb):
  ∃H',ev1 (.delete (true,[.int,.int,.int,.int])) [.map cb,.agg [.int .u8 a.y,.int .i64 a.n,.int .u8 b.y,.int .i64 b.n]] lo H=some (IV.undef,H')∧(∃ob,H'=H.put cb ob∨H'=H)∧CrM H' cb (qY cr a b):=by
 obtain⟨es,c,hg,hm,hbo⟩:=h;have hf:=Ao a b cr es 0 hm;have hk:=D3 a b;have hm':es.map NI=cr.map Ra:=hm;unfold Hk at hf hk;simp only[ev1,az,hg,hk,hlo,and_self,if_true,hf];unfold qY
 cases e:tt a b cr 0 with
 | none=>exact⟨_,rfl,⟨.map [] 0,.inr rfl⟩,_,_,hg,hm,hbo⟩
 | some r=>exact⟨_,rfl,⟨_,.inl rfl⟩,_,_,by rw[aa,if_pos rfl],by show List.map NI _=List.map Ra _;rw[nD,hm',←nD],hbo.del _⟩
theorem MI.setC{n0 mb:Nat}{H:Heap}{ow:List Nat}{L:Ly}{M:Mc}(h:MI n0 mb H ow L M){H':Heap}{cr:List (Id×Id×Int)}(hn:H.n≤H'.n)(hg:∀x,x < H.n→x≠L.cb→H'.get x=H.get x)(hc:CrM H' L.cb cr):
  KeepO ow H H'∧MI n0 mb H' ow L {M with cr:=cr}:=by
 have kb:KeepO ow H H':=⟨hn,fun x hx hxo=>hg x hx (by rintro rfl;exact hxo h.oc)⟩;have ko:=kb.off';obtain⟨es,c,h1,h2⟩:=h.gc;have e1:mb≠L.cb:=fun e=>by have:=h.gm;rw[e,h1] at this;cases this
 have e2:L.tb≠L.cb:=fun e=>by obtain⟨_,_,r,h3,_⟩:=h.gt;rw[e,h1] at h3;cases h3
 have e0:L.yb≠L.cb:=fun e=>by obtain⟨_,_,r,h3,_⟩:=h.gy;rw[e,h1] at h3;cases h3
 have e3:L.fv.blk≠L.cb:=fun e=>by
  obtain⟨b,ex,h4,_,_,_,r,h3,_⟩:=h.gf;rw[h4] at e;have e:b=L.cb:=e;rw[e,h1] at h3;cases h3
 have e5:∀(j:Nat) (h1:j < L.ws.length),L.ws[j].blk≠L.cb:=fun j hj e=>by
  obtain⟨b,ex,h4,_,_,_,r,h3,_⟩:=h.rg j hj (by rw[h.rn];rw[h.wn] at hj;exact hj);rw[h4] at e;have e:b=L.cb:=e;rw[e,h1] at h3;cases h3
 refine⟨kb,?_⟩
 exact{gm:=(hg _ (h.lo _ h.om).2 e1).trans h.gm,rk:=h.rk,gy:=h.gy.same hn (hg _ h.gy.2.1 e0),yn:=h.yn,ym:=h.ym,yd:=fun x hx=>(h.yd x hx).keep ko,yo:=h.yo,
       bf:=h.bf.keep ko,bb:=h.bb.keep ko,bv:=h.bv,
       gt:=h.gt.same hn (hg _ h.gt.2.1 e2),wn:=h.wn,rn:=h.rn,rg:=fun j a b=>(h.rg j a b).same hn (hg _ (h.rg j a b).lt.1 (e5 j a)),rx:=h.rx,
       rd:=fun r hr x hx=>⟨(h.rd r hr x hx).1.keep ko,(h.rd r hr x hx).2.keep ko⟩,rm:=h.rm,
       gc:=hc,gf:=h.gf.same hn (hg _ h.gf.lt.1 e3),om:=h.om,oy:=h.oy,ot:=h.ot,oc:=h.oc,orw:=h.orw,of:=h.of,lo:=fun x hx=>⟨(h.lo x hx).1,Nat.lt_of_lt_of_le (h.lo x hx).2 hn⟩}
theorem iD{i t b:Nat}{ky:Bool×List Pk}{k:IV}{fc:bR}:ng ((i,.lk t ky b k)::fc)=false:=rfl
theorem dR{t b b' o n:Nat}{ky:Bool×List Pk}{k:IV}:bg (.lk t ky b k) (.rd b' o n)=true:=rfl
def HJ(c:Cr):Id:=if AM c.a c.b>0 then c.b else c.a
def HI(c:Cr):Id:=if AM c.a c.b>0 then c.a else c.b
def wK(M:Mc)(c:Cr):Except Int Mc:=
 if ll M.cr (HJ c) (HI c)+c.s < -1048576∨ll M.cr (HJ c) (HI c)+c.s>1048576 then .error 3
 else if ll M.cr (HJ c) (HI c)+c.s=0 then .ok {M with cr:=qY M.cr (HJ c) (HI c)}
 else .ok {M with cr:=qX M.cr (HJ c) (HI c) (ll M.cr (HJ c) (HI c)+c.s)}
theorem NV{n0 mb:Nat}{H:Heap}{ow:List Nat}{L:Ly}{M:Mc}(h:MI n0 mb H ow L M){c:Cr}(hs:c.s=1∨c.s= -1)(hb: -1048576≤ll M.cr (HJ c) (HI c)∧ll M.cr (HJ c) (HI c)≤1048576){lo:Nat}{Q:Out→Heap→Prop}(hlo:lo≤n0)(hn:n0≤H.n)
  (hq:MQ n0 mb H ow (wK M c) Q):W E0 lo (.call 158 [.ptr mb 0,.agg [.int .u8 c.a.y,.int .i64 c.a.n,.int .u8 c.b.y,.int .i64 c.b.n,.int .i64 c.s]]) H Q:=by
 have hlt:=h.lo _ h.om;rw[XE];simp(disch:=omega) only[ai,↓ah,seval,AI];generalize hH_H1:Heap.put _ _ _=H1;have hnH1:H1.n=H.n+2:=by rw[←hH_H1];rfl
 have g0:=congrArg (fun h0=>Heap.get h0 (H.n)) hH_H1.symm;simp(disch:=omega) only[ai,↓ah,seval] at g0;have g1:=congrArg (fun h0=>Heap.get h0 (H.n+1)) hH_H1.symm;simp(disch:=omega) only[ai,↓ah,seval] at g1
 have kH1:Keep H.n H H1:=⟨by omega,fun x hx _=>by
  have gx:=congrArg (fun h0=>Heap.get h0 x) hH_H1.symm;simp(disch:=omega) only[ai,↓ah,seval] at gx;exact gx⟩
 clear hH_H1;refine uh c.a c.b (by omega) fun H2 k2=>?_;have hn2:=k2.1;have g02:=(k2.2 H.n (by omega) (by omega)).trans g0;have g12:=(k2.2 (H.n+1) (by omega) (by omega)).trans g1;have h2:=h.keep (kH1.trans (k2.lower (by omega)));have k3:Keep H.n H H2:=kH1.trans (k2.lower (by omega));have r0:=ae g02;have r1:=ae g12;have rm2:=ae h2.gm;clear g0 g1 kH1 k2 h2;by_cases hc:AM c.a c.b>0
 ·have eA:HJ c=c.b:=by unfold HJ;rw[if_pos hc]
  have eB:HI c=c.a:=by unfold HI;rw[if_pos hc]
  rw[eA,eB] at hb;unfold wK at hq;rw[eA,eB] at hq;have k4:Keep H.n H (H2.put (H.n+1) (.cells false 150 4 [.int .u8 c.b.y,.int .i64 c.b.n,.int .u8 c.a.y,.int .i64 c.a.n])):=k3.trans (.put _ _ (by omega));have h3:=h.keep k4;have hlk:=h3.gc.look c.b c.a;have hu:=fun n=>h3.gc.upd c.b c.a n lo (by have:=h.lo _ h.oc;omega);have hd:=h3.gc.del c.b c.a lo (by have:=h.lo _ h.oc;omega);generalize ll M.cr c.b c.a=n at hb hq hlk;have rm3:=ae h3.gm;by_cases c1:n+c.s < -1048576∨n+c.s>1048576
  ·rw[if_pos c1] at hq;by_cases c2:n+c.s < -1048576
   ·simp(disch:=omega) only[ai,↓ah,seval,AI,hc,r0,r1,rm2,rm3,g02,g12,↓hlk,iD,dR,↓FR,FW]
    exact hq.1 3 _ rfl (KeepO.of k4)
   ·simp(disch:=omega) only[ai,↓ah,seval,AI,hc,r0,r1,rm2,rm3,g02,g12,↓hlk,iD,dR,↓FR,FW]
    exact hq.1 3 _ rfl (KeepO.of k4)
  ·rw[if_neg c1] at hq;by_cases c2:n+c.s=0
   ·rw[if_pos c2] at hq;obtain⟨H5,e5,hh5,cc5⟩:=hd;simp(disch:=omega) only[ai,↓ah,seval,AI,hc,r0,r1,rm2,rm3,g02,g12,↓hlk,↓e5,iD,dR,↓FR,FW];obtain⟨ob,hh5⟩:=hh5;have hm5:=h3.setC (cr:=qY M.cr c.b c.a) (H':=H5) (by rcases hh5 with rfl | rfl<;>exact Nat.le_refl _) (fun x _ hx=>by rcases hh5 with rfl | rfl<;>first | rfl | rw[aa,if_neg (Ne.symm hx)]) cc5;exact hq.2 _ _ ow _ rfl ((KeepO.of k4).trans hm5.1 fun x hx=>.inl hx) (fun _ hx=>hx) (fun _ hx=>.inl hx) hm5.2
   ·rw[if_neg c2] at hq;obtain⟨ob,e5,cc5⟩:=hu (n+c.s);simp(disch:=omega) only[ai,↓ah,seval,AI,hc,c2,r0,r1,rm2,rm3,g02,g12,↓hlk,↓e5,iD,dR,↓FR,FW];have hm5:=h3.setC (cr:=qX M.cr c.b c.a (n+c.s)) (by exact Nat.le_refl _) (fun x _ hx=>by rw[aa _ L.cb,if_neg (Ne.symm hx)]) cc5;exact hq.2 _ _ ow _ rfl ((KeepO.of k4).trans hm5.1 fun x hx=>.inl hx) (fun _ hx=>hx) (fun _ hx=>.inl hx) hm5.2
 ·have eA:HJ c=c.a:=by unfold HJ;rw[if_neg hc]
  have eB:HI c=c.b:=by unfold HI;rw[if_neg hc]
  rw[eA,eB] at hb;unfold wK at hq;rw[eA,eB] at hq;have k4:Keep H.n H H2:=k3;have h3:=h.keep k4;have hlk:=h3.gc.look c.a c.b;have hu:=fun n=>h3.gc.upd c.a c.b n lo (by have:=h.lo _ h.oc;omega);have hd:=h3.gc.del c.a c.b lo (by have:=h.lo _ h.oc;omega);generalize ll M.cr c.a c.b=n at hb hq hlk;have rm3:=ae h3.gm;by_cases c1:n+c.s < -1048576∨n+c.s>1048576
  ·rw[if_pos c1] at hq;by_cases c2:n+c.s < -1048576
   ·simp(disch:=omega) only[ai,↓ah,seval,AI,hc,r0,r1,rm2,rm3,g02,g12,↓hlk,iD,dR,↓FR,FW]
    exact hq.1 3 _ rfl (KeepO.of k4)
   ·simp(disch:=omega) only[ai,↓ah,seval,AI,hc,r0,r1,rm2,rm3,g02,g12,↓hlk,iD,dR,↓FR,FW]
    exact hq.1 3 _ rfl (KeepO.of k4)
  ·rw[if_neg c1] at hq;by_cases c2:n+c.s=0
   ·rw[if_pos c2] at hq;obtain⟨H5,e5,hh5,cc5⟩:=hd;simp(disch:=omega) only[ai,↓ah,seval,AI,hc,r0,r1,rm2,rm3,g02,g12,↓hlk,↓e5,iD,dR,↓FR,FW];obtain⟨ob,hh5⟩:=hh5;have hm5:=h3.setC (cr:=qY M.cr c.a c.b) (H':=H5) (by rcases hh5 with rfl | rfl<;>exact Nat.le_refl _) (fun x _ hx=>by rcases hh5 with rfl | rfl<;>first | rfl | rw[aa,if_neg (Ne.symm hx)]) cc5;exact hq.2 _ _ ow _ rfl ((KeepO.of k4).trans hm5.1 fun x hx=>.inl hx) (fun _ hx=>hx) (fun _ hx=>.inl hx) hm5.2
   ·rw[if_neg c2] at hq;obtain⟨ob,e5,cc5⟩:=hu (n+c.s);simp(disch:=omega) only[ai,↓ah,seval,AI,hc,c2,r0,r1,rm2,rm3,g02,g12,↓hlk,↓e5,iD,dR,↓FR,FW];have hm5:=h3.setC (cr:=qX M.cr c.a c.b (n+c.s)) (by exact Nat.le_refl _) (fun x _ hx=>by rw[aa _ L.cb,if_neg (Ne.symm hx)]) cc5;exact hq.2 _ _ ow _ rfl ((KeepO.of k4).trans hm5.1 fun x hx=>.inl hx) (fun _ hx=>hx) (fun _ hx=>.inl hx) hm5.2
theorem Sl2F.onto{α:Type}[Cell α]{n0:Nat}{H:Heap}{ow:List Nat}{v:SV}{ls:List (List α)}(h:Sl2F n0 H v ls)(ho:∀x∈ow,x < n0):Sl2 (H.off ow) v ls:=by
 obtain⟨vs,h1,h2,h3,h4⟩:=h;refine⟨vs,h1.onto fun hv hx=>?_,h2,fun i a b=>(h4 i a b).1.onto fun hl hx=>?_⟩
 ·have:=ho _ hx;have:=h3 hv;omega
 ·have:=ho _ hx;have:=(h4 i a b).2 hl;omega
theorem MI.setM{n0 mb:Nat}{H:Heap}{ow:List Nat}{L:Ly}{M:Mc}(h:MI n0 mb H ow L M){r:Int}{f b:SV}{t:List (List Id)}(hr: -4≤r∧r≤4)(hf:Sl2 (H.off ow) f (aN t))(hb:Sl2 (H.off ow) b (aG t))(hv:Valid t):
  MI n0 mb (H.put mb (.cells false 147 7 [.int .i64 r,f.iv,b.iv,.slice L.yb 0 6 6 true,.slice L.tb 0 6 6 true,.map L.cb,L.fv.iv])) ow {L with f:=f,b:=b} {M with rack:=r,t:=t}:=by
 generalize hob:IObj.cells false 147 7 [.int .i64 r,f.iv,b.iv,.slice L.yb 0 6 6 true,.slice L.tb 0 6 6 true,.map L.cb,L.fv.iv]=ob;have kb:KeepO ow H (H.put mb ob):=KeepO.put h.om;have ko:=kb.off';have hg:∀x,x≠mb→(H.put mb ob).get x=H.get x:=fun x hx=>by rw[aa,if_neg (Ne.symm hx)]
 have h0:=h.gm;have e0:L.yb≠mb:=fun e=>by obtain⟨_,_,r,h3,_⟩:=h.gy;rw[e,h0] at h3;cases h3
 have e2:L.tb≠mb:=fun e=>by obtain⟨_,_,r,h3,_⟩:=h.gt;rw[e,h0] at h3;cases h3
 have e3:L.fv.blk≠mb:=fun e=>by
  obtain⟨b,ex,h4,_,_,_,r,h3,_⟩:=h.gf;rw[h4] at e;have e:b=mb:=e;rw[e,h0] at h3;cases h3
 obtain⟨es,c,h1,h2⟩:=h.gc;have e4:L.cb≠mb:=fun e=>by rw[e,h0] at h1;cases h1
 have e5:∀(j:Nat) (h1:j < L.ws.length),L.ws[j].blk≠mb:=fun j hj e=>by
  obtain⟨b,ex,h4,_,_,_,r,h3,_⟩:=h.rg j hj (by rw[h.rn];rw[h.wn] at hj;exact hj);rw[h4] at e;have e:b=mb:=e;rw[e,h0] at h3;cases h3
 exact{gm:=by rw[aa,if_pos rfl,←hob],rk:=hr,gy:=h.gy.same (Nat.le_refl _) (hg _ e0),yn:=h.yn,ym:=h.ym,yd:=fun x hx=>(h.yd x hx).keep ko,yo:=h.yo,
       bf:=hf.keep ko,bb:=hb.keep ko,bv:=hv,
       gt:=h.gt.same (Nat.le_refl _) (hg _ e2),wn:=h.wn,rn:=h.rn,rg:=fun j a b=>(h.rg j a b).same (Nat.le_refl _) (hg _ (e5 j a)),rx:=h.rx,
       rd:=fun r hr x hx=>⟨(h.rd r hr x hx).1.keep ko,(h.rd r hr x hx).2.keep ko⟩,rm:=h.rm,
       gc:=⟨es,c,(hg _ e4).trans h1,h2⟩,gf:=h.gf.same (Nat.le_refl _) (hg _ e3),om:=h.om,oy:=h.oy,ot:=h.ot,oc:=h.oc,orw:=h.orw,of:=h.of,lo:=h.lo}
theorem Na{t:List (List Id)}{nb na:Int}{l:List Id}(h:jM t nb na l=0):an nb na=0∧l.all bx=true∧l.length≤4∧(∀a∈l,a∉(t.set (ix nb na) []).flatten)∧l.Nodup:=by
 unfold jM at h;split at h
 ·omega
 split at h
 ·omega
 split at h
 ·omega
 split at h
 ·rename_i c1 c2 c3 c4;exact⟨Classical.not_not.1 c1,by simpa using c2,by omega,c4⟩
 ·omega
theorem vM{t:List (List Id)}(hV:Valid t){nb na:Int}{l:List Id}(h:jM t nb na l=0):Valid (t.set (ix nb na) l):=by
 obtain⟨h1,h2,h3,h4,h5⟩:=Na h;have hq:ix nb na < t.length:=by rw[hV.len];exact(GN h1).2.2
 have hp:=rG hq l;have hs:=gY hq;have hnd:=(hs.nodup_iff).1 hV.nd;rw[List.nodup_append] at hnd;refine⟨by rw[List.length_set,hV.len],fun x hx=>?_,fun a ha=>?_,(hp.nodup_iff).2 ?_⟩
 ·rcases List.mem_or_eq_of_mem_set hx with hx | rfl
  ·exact hV.four x hx
  ·exact h3
 ·rcases List.mem_append.1 ((hp.mem_iff).1 ha) with ha | ha
  ·exact List.all_eq_true.1 h2 a ha
  ·exact hV.named a ((hs.mem_iff).2 (List.mem_append.2 (.inr ha)))
 ·rw[List.nodup_append];exact⟨h5,hnd.2.1,fun a ha b hb e=>h4 a ha (e▸hb)⟩
theorem MI.setF{n0 mb:Nat}{H H2:Heap}{ow:List Nat}{L:Ly}{M:Mc}(h:MI n0 mb H ow L M){w:SV}{l:List Id}(k:KeepO [L.fv.blk] H H2)(g:Tg n0 H2 138 w l)(hw:w.blk=H.n):
  KeepO ow H (H2.put mb (.cells false 147 7 [.int .i64 M.rack,L.f.iv,L.b.iv,.slice L.yb 0 6 6 true,.slice L.tb 0 6 6 true,.map L.cb,w.iv]))∧
  MI n0 mb (H2.put mb (.cells false 147 7 [.int .i64 M.rack,L.f.iv,L.b.iv,.slice L.yb 0 6 6 true,.slice L.tb 0 6 6 true,.map L.cb,w.iv])) (H.n::ow) {L with fv:=w} {M with fa:=l}:=by
 generalize hob:IObj.cells false 147 7 [.int .i64 M.rack,L.f.iv,L.b.iv,.slice L.yb 0 6 6 true,.slice L.tb 0 6 6 true,.map L.cb,w.iv]=ob;have h0:=h.gm;have hmb:=h.lo _ h.om;have hfb:=h.lo _ h.of;have hn:=k.1;have hlt:=g.lt
 have hg:∀x,x < H.n→x≠L.fv.blk→x≠mb→(H2.put mb ob).get x=H.get x:=fun x h1 h2 h3=>by
  rw[aa,if_neg (Ne.symm h3)];exact k.2 x h1 (by simpa using h2)
 have hn':H.n≤(H2.put mb ob).n:=by rw[af];exact hn
 have kb:KeepO ow H (H2.put mb ob):=⟨hn',fun x h1 h2=>hg x h1 (by rintro rfl;exact h2 h.of) (by rintro rfl;exact h2 h.om)⟩
 have ko:=kb.off (ow':=H.n::ow) (fun x hx=>List.mem_cons_of_mem _ hx) fun x hx=>by
  rcases List.mem_cons.1 hx with rfl | hx
  ·exact .inr (Nat.le_refl _)
  ·exact .inl hx
 obtain⟨fb,fx,hf1,_,_,_,fr,hf3,_⟩:=h.gf;have ef:L.fv.blk=fb:=by rw[hf1];rfl
 have e0:L.yb≠mb:=fun e=>by obtain⟨_,_,r,h3,_⟩:=h.gy;rw[e,h0] at h3;cases h3
 have e0':L.yb≠L.fv.blk:=fun e=>by obtain⟨_,_,r,h3,_⟩:=h.gy;rw[e,ef,hf3] at h3;cases h3
 have e2:L.tb≠mb:=fun e=>by obtain⟨_,_,r,h3,_⟩:=h.gt;rw[e,h0] at h3;cases h3
 have e2':L.tb≠L.fv.blk:=fun e=>by obtain⟨_,_,r,h3,_⟩:=h.gt;rw[e,ef,hf3] at h3;cases h3
 obtain⟨es,c,h1,h2⟩:=h.gc;have e4:L.cb≠mb:=fun e=>by rw[e,h0] at h1;cases h1
 have e4':L.cb≠L.fv.blk:=fun e=>by rw[e,ef,hf3] at h1;cases h1
 have e5:∀(j:Nat) (h1:j < L.ws.length),L.ws[j].blk≠mb∧L.ws[j].blk≠L.fv.blk:=fun j hj=>by
  obtain⟨b,ex,h4,_,_,_,r,h3,_⟩:=h.rg j hj (by rw[h.rn];rw[h.wn] at hj;exact hj);rw[h4];refine⟨fun e=>?_,fun e=>?_⟩
  ·have e:b=mb:=e;rw[e,h0] at h3;cases h3
  ·have e:b=L.fv.blk:=e;rw[e,ef,hf3] at h3;cases h3
 refine⟨kb,?_⟩
 exact{gm:=by rw[aa,if_pos rfl,←hob],rk:=h.rk,gy:=h.gy.same hn' (hg _ h.gy.2.1 e0' e0),yn:=h.yn,ym:=h.ym,yd:=fun x hx=>(h.yd x hx).keep ko,yo:=h.yo,
       bf:=h.bf.keep ko,bb:=h.bb.keep ko,bv:=h.bv,
       gt:=h.gt.same hn' (hg _ h.gt.2.1 e2' e2),wn:=h.wn,rn:=h.rn,rg:=fun j a b=>(h.rg j a b).same hn' (hg _ (h.rg j a b).lt.1 (e5 j a).2 (e5 j a).1),rx:=h.rx,
       rd:=fun r hr x hx=>⟨(h.rd r hr x hx).1.keep ko,(h.rd r hr x hx).2.keep ko⟩,rm:=h.rm,
       gc:=⟨es,c,(hg _ (h.lo _ h.oc).2 e4' e4).trans h1,h2⟩,gf:=g.same (by rw[af];omega) (by rw[aa,if_neg (by omega)]),
       om:=List.mem_cons_of_mem _ h.om,oy:=List.mem_cons_of_mem _ h.oy,ot:=List.mem_cons_of_mem _ h.ot,oc:=List.mem_cons_of_mem _ h.oc,orw:=fun w hw=>List.mem_cons_of_mem _ (h.orw w hw),
       of:=by show w.blk∈_;rw[hw];exact List.mem_cons_self,
       lo:=fun x hx=>by
        rcases List.mem_cons.1 hx with rfl | hx
        ·rw[←hw,af];exact⟨hlt.2,hlt.1⟩
        ·have:=h.lo x hx;rw[af];omega}
def wT(M:Mc)(o:Opn):List Id:=M.t.getD (ix o.b o.a) []
def Cc(M:Mc)(o:Opn):Except Int Mc:=
 if (wT M o).length=0 then .error 13
 else if jM M.t o.b o.a []≠0 then .error (jM M.t o.b o.a [])
 else .ok {M with t:=M.t.set (ix o.b o.a) [],fa:=M.fa++wT M o}
theorem NJ{n0 mb:Nat}{H:Heap}{ow:List Nat}{L:Ly}{M:Mc}(h:MI n0 mb H ow L M){o:Opn}(hne:an o.b o.a=0)(hfa:M.fa.length≤1000000){lo:Nat}{Q:Out→Heap→Prop}(hlo:lo≤n0)(hn:n0≤H.n)
  (hq:MQ n0 mb H ow (Cc M o) Q):W E0 lo (.call 76 [.ptr mb 0,.agg [.int .u8 o.k,.int .u8 o.d,.int .u8 o.b,.int .i64 o.a,.int .u8 o.y,.int .i64 o.r]]) H Q:=by
 have hlt:=h.lo _ h.om;have rm:=ae h.gm;obtain⟨h6,h6'⟩:=h.bv.len6;have hF:=jI M.t;have hB:=gJ h.bv.len;rw[c76];simp(disch:=omega) only[ai,↓ah,seval,Tm,rm,ak,show ¬H.n=mb by omega,↓FR,FW];have k1:Keep H.n H (H.new (.cells false 56 6 [.int .u8 o.k,.int .u8 o.d,.int .u8 o.b,.int .i64 o.a,.int .u8 o.y,.int .i64 o.r])):=.new _ _;refine td o.b o.a (h.bf.unoff.keep k1) (h.bb.unoff.keep k1) h6 h6' (by rw[ac];omega) fun H2 v k2 f2=>?_;rw[iR M.t hne] at f2;have f2:Fresh _ H2 138 v (wT M o):=f2;have kk:Keep H.n H H2:=k1.trans (k2.lower (by rw[ac];omega));have hn2:=k2.1;rw[ac] at hn2;have g0:=k2.2 H.n (by rw[ac];omega) (by rw[ac];omega);rw[aj,if_pos rfl] at g0;have r0:=ae g0;have h2:=h.keep kk;have rm2:=ae h2.gm;have sv:=f2.sl
 have h4:(wT M o).length≤4:=by
  have:=jc (aN M.t) (aG M.t) o.b o.a 4 (fun l hl=>h.bv.four l (eD hl)) (fun l hl=>h.bv.four l (cV hl))
  rw[iR M.t hne] at this;exact this
 unfold Cc at hq;clear k1 k2 rm;by_cases hl:(wT M o).length=0
 ·rw[if_pos hl] at hq;simp(disch:=omega) only[ai,↓ah,seval,Tm,↓sv.ln,hl,↓FR,FW];exact hq.1 13 _ rfl (KeepO.of kk)
 ·rw[if_neg hl] at hq;simp(disch:=omega) only[ai,↓ah,seval,Tm,↓sv.ln,hl,r0,rm2,ak,↓FR,FW]
  have hvb:∀ob (H':Heap),Keep H2.n H2 H'→Sl (H'.put mb ob) v (wT M o):=fun ob H' k=>by
   refine(sv.keep k).same (by rw[af];exact Nat.le_refl _) fun hv=>?_
   have:mb≠v.blk:=by
    rcases f2 with⟨_,e⟩ | ⟨b,e,hb,_⟩
    ·exact absurd e hv
    ·rw[e];rw[ac] at hb;show mb≠b;omega
   rw[aa,if_neg this]
  refine IT (v:=.nil) (l:=[]) o.b o.a h.bv h2.bf.unoff h2.bb.unoff Sl.empty (by simp) (Nat.le_refl _) (fun H3 k3 he=>?_) fun H3 f' b' k3 he bd=>?_
  ·rw[if_pos he] at hq;have hn3:=k3.1;generalize jM M.t o.b o.a []=e at he hq;simp(disch:=omega) only[ai,↓ah,seval,Tm,bv,he,↓FR,FW];exact hq.1 e _ rfl (KeepO.of ((kk.trans (k3.lower (by omega))).trans (Keep.newPut.lower (by omega))))
  ·rw[if_neg (by rw[he];decide)] at hq;have hn3:=k3.1;have k4:Keep H.n H H3:=kk.trans (k3.lower (by omega));have h3:=h.keep k4;have ho:∀x∈ow,x < H2.n:=fun x hx=>by have:=(h.lo x hx).2;omega
   have k5:Keep H3.n H3 ((H3.new (.cells false 26 2 [.nilSlice,.nilSlice])).put H3.n (.cells false 26 2 [f'.iv,b'.iv])):=Keep.newPut;have h4':=h.keep (k4.trans (k5.lower (by have:=k4.1;omega)));have h5:=h4'.setM h.rk (Sl2F.onto (bd.1.keep k5) ho) (Sl2F.onto (bd.2.1.keep k5) ho) (vM h.bv he);have hne':wT M o≠[]:=fun e=>hl (by rw[e];rfl);have gm4:=h4'.gm;have rm4:=ae gm4;have gm5:=h5.gm;have rm5:=ae gm5;have sv5:=hvb (.cells false 147 7 [.int .i64 M.rack,f'.iv,b'.iv,.slice L.yb 0 6 6 true,.slice L.tb 0 6 6 true,.map L.cb,L.fv.iv]) ((H3.new (.cells false 26 2 [.nilSlice,.nilSlice])).put H3.n (.cells false 26 2 [f'.iv,b'.iv])) (k3.trans (k5.lower hn3));obtain⟨H6,w,e6,k6,g6,w6⟩:=Tg.push h5.gf sv5 hne' kJ 16 lo hlo (by rw[af,af,ac];omega) (by show(M.fa.length+_)*_≤_;omega);have h6:=h5.setF k6 g6 w6
   have hmf:mb≠L.fv.blk:=fun e=>by
    obtain⟨b,ex,h4,_,_,_,r,h3,_⟩:=h5.gf;have h4:L.fv=_:=h4;rw[h4] at e;have e:mb=b:=e;rw[←e,gm5] at h3;cases h3
   have gm6:=(k6.2 mb (by rw[af,af,ac];omega) (by simpa using hmf)).trans gm5;simp(disch:=omega) only[ai,↓ah,seval,Tm,bv,gm4,rm4,rm5,↓e6,gm6,show ¬H3.n=mb by omega,↓FR,FW];have kf:=((KeepO.of (k4.trans (k5.lower (by have:=k4.1;omega)))).trans (KeepO.put h.om) fun x hx=>.inl hx).trans h6.1 fun x hx=>.inl hx;refine hq.2 _ _ _ _ rfl kf (fun x hx=>List.mem_cons_of_mem _ hx) (fun x hx=>?_) h6.2;rcases List.mem_cons.1 hx with rfl | hx
   ·right;rw[af,af,ac];omega
   ·exact .inl hx
theorem MI.fullT{n0 mb:Nat}{H:Heap}{ow:List Nat}{L:Ly}{M:Mc}(h:MI n0 mb H ow L M):H.get L.tb=some (.cells false 140 1 (aB L.ws)):=by
 have:=h.gt
 rw[←h.wn] at this;exact this.full
theorem MI.setR{n0 mb:Nat}{H H2:Heap}{ow:List Nat}{L:Ly}{M:Mc}(h:MI n0 mb H ow L M){i:Nat}(hi:i < 6)(hi':i < L.ws.length)(hi2:i < L.rl.length){w:SV}{x:Lv}(k:KeepO [L.ws[i].blk] H H2)(g:Tg n0 H2 158 w (L.rl[i]++[x]))(hw:w.blk=H.n)
  (hx1:Sl (H.off ow) x.tv x.p.thr) (hx2:Sl (H.off ow) x.pv x.p.past):
  KeepO ow H (H2.put L.tb (.cells false 140 1 (ar (aB L.ws) i [w.iv])))∧
  MI n0 mb (H2.put L.tb (.cells false 140 1 (ar (aB L.ws) i [w.iv]))) (H.n::ow) {L with ws:=L.ws.set i w,rl:=L.rl.set i (L.rl[i]++[x])} {M with rows:=M.rows.set i ((L.rl[i]++[x]).map (·.p))}:=by
 have htb:=h.lo _ h.ot;have h0:=h.fullT
 have hbl:∀(j:Nat) (h1:j < L.ws.length),L.ws[j].blk≠L.tb∧L.ws[j].blk≠mb∧L.ws[j].blk≠L.yb∧L.ws[j].blk≠L.cb∧L.ws[j].blk≠L.fv.blk:=fun j hj=>by
  obtain⟨b,ex,h4,_,_,_,r,h3,_⟩:=h.rg j hj (by rw[h.rn];rw[h.wn] at hj;exact hj);rw[h4]
  show b≠_∧b≠_∧b≠_∧b≠_∧b≠_
  refine⟨fun e=>?_,fun e=>?_,fun e=>?_,fun e=>?_,fun e=>?_⟩
  ·rw[e,h0] at h3;cases h3
  ·rw[e,h.gm] at h3;cases h3
  ·rw[e,h.fullY] at h3;cases h3
  ·obtain⟨es,c,h1,h2⟩:=h.gc;rw[e,h1] at h3;cases h3
  ·obtain⟨fb,fx,hf1,_,_,_,fr,hf3,_⟩:=h.gf;rw[hf1] at e;have e:b=fb:=e;rw[e,hf3] at h3;cases h3
 have ht:H2.get L.tb=H.get L.tb:=k.2 _ htb.2 (by simpa using Ne.symm (hbl i hi').1);have gt2:Own H2 L.tb 140 L.ws.length L.ws:=by have:=h.gt;rw[←h.wn] at this;exact this.same k.1 ht
 have gt3:=Own.put gt2 mD i hi' w;rw[qW,Nat.mul_one,h.wn] at gt3;generalize hob:IObj.cells false 140 1 (ar (aB L.ws) i [w.iv])=ob at gt3⊢;have hmb:=h.lo _ h.om;have hn:=k.1;have hlt:=g.lt
 have hg:∀x,x < H.n→x≠L.ws[i].blk→x≠L.tb→(H2.put L.tb ob).get x=H.get x:=fun x h1 h2 h3=>by
  rw[aa,if_neg (Ne.symm h3)];exact k.2 x h1 (by simpa using h2)
 have hn':H.n≤(H2.put L.tb ob).n:=by rw[af];exact hn
 have hwi:L.ws[i].blk∈ow:=h.orw _ (List.getElem_mem hi');have kb:KeepO ow H (H2.put L.tb ob):=⟨hn',fun x h1 h2=>hg x h1 (by rintro rfl;exact h2 hwi) (by rintro rfl;exact h2 h.ot)⟩
 have ko:=kb.off (ow':=H.n::ow) (fun x hx=>List.mem_cons_of_mem _ hx) fun x hx=>by
  rcases List.mem_cons.1 hx with rfl | hx
  ·exact .inr (Nat.le_refl _)
  ·exact .inl hx
 have e1:mb≠L.tb:=fun e=>by have:=h.gm;rw[e,h0] at this;cases this
 have e2:L.yb≠L.tb:=fun e=>by have:=h.fullY;rw[e,h0] at this;cases this
 obtain⟨es,c,h1,h2⟩:=h.gc;have e3:L.cb≠L.tb:=fun e=>by rw[e,h0] at h1;cases h1
 have e4:L.fv.blk≠L.tb:=fun e=>by
  obtain⟨fb,fx,hf1,_,_,_,fr,hf3,_⟩:=h.gf;rw[hf1] at e;have e:fb=L.tb:=e;rw[e,h0] at hf3;cases hf3
 have hb:=hbl i hi';refine⟨kb,?_⟩
 have rgn:∀(j:Nat) (a:j < (L.ws.set i w).length) (b:j < (L.rl.set i (L.rl[i]++[x])).length),Tg n0 (H2.put L.tb ob) 158 (L.ws.set i w)[j] (L.rl.set i (L.rl[i]++[x]))[j]:=fun j a b=>by
  rw[List.length_set] at a b;by_cases hj:i=j
  ·subst hj;rw[List.getElem_set_self,List.getElem_set_self];exact g.same (by rw[af];omega) (by rw[aa,if_neg (by omega)])
  ·rw[List.getElem_set_ne hj,List.getElem_set_ne hj];exact(h.rg j a b).same hn' (hg _ (h.rg j a b).lt.1 (fun e=>hj (h.rx _ _ hi' a e.symm)) (hbl j a).1)
 exact{gm:=(hg _ hmb.2 (Ne.symm hb.2.1) e1).trans h.gm,rk:=h.rk,gy:=h.gy.same hn' (hg _ h.gy.2.1 (Ne.symm hb.2.2.1) e2),yn:=h.yn,ym:=h.ym,yd:=fun x hx=>(h.yd x hx).keep ko,yo:=h.yo,
       bf:=h.bf.keep ko,bb:=h.bb.keep ko,bv:=h.bv,
       gt:=gt3,wn:=by show(L.ws.set i w).length=6;rw[List.length_set,h.wn],rn:=by show(L.rl.set i _).length=6;rw[List.length_set,h.rn],rg:=rgn,
       rx:=fun p q hp hq' he=>by
        have hp':p < L.ws.length:=by have:p < (L.ws.set i w).length:=hp;rwa [List.length_set] at this
        have hq2:q < L.ws.length:=by have:q < (L.ws.set i w).length:=hq';rwa [List.length_set] at this
        have he:(L.ws.set i w)[p].blk=(L.ws.set i w)[q].blk:=he;have hlp:=(h.rg p hp' (by rw[h.rn];rw[h.wn] at hp';exact hp')).lt.1;have hlq:=(h.rg q hq2 (by rw[h.rn];rw[h.wn] at hq2;exact hq2)).lt.1;by_cases hpi:i=p
        ·by_cases hqi:i=q
         ·omega
         ·subst hpi;rw[List.getElem_set_self,List.getElem_set_ne hqi] at he;omega
        ·by_cases hqi:i=q
         ·subst hqi;rw[List.getElem_set_self,List.getElem_set_ne hpi] at he;omega
         ·rw[List.getElem_set_ne hpi,List.getElem_set_ne hqi] at he;exact h.rx _ _ hp' hq2 he
       rd:=fun r hr y hy=>by
        rcases List.mem_or_eq_of_mem_set hr with hr | rfl
        ·exact⟨(h.rd r hr y hy).1.keep ko,(h.rd r hr y hy).2.keep ko⟩
        ·rcases List.mem_append.1 hy with hy | hy
         ·exact⟨(h.rd _ (List.getElem_mem hi2) y hy).1.keep ko,(h.rd _ (List.getElem_mem hi2) y hy).2.keep ko⟩
         ·rw[List.mem_singleton] at hy;subst hy;exact⟨hx1.keep ko,hx2.keep ko⟩
       rm:=by show(L.rl.set i _).map _=M.rows.set i _;rw[List.map_set,h.rm],
       gc:=⟨es,c,(hg _ (h.lo _ h.oc).2 (Ne.symm hb.2.2.2.1) e3).trans h1,h2⟩,gf:=h.gf.same hn' (hg _ h.gf.lt.1 (Ne.symm hb.2.2.2.2) e4),
       om:=List.mem_cons_of_mem _ h.om,oy:=List.mem_cons_of_mem _ h.oy,ot:=List.mem_cons_of_mem _ h.ot,oc:=List.mem_cons_of_mem _ h.oc,
       orw:=fun v hv=>by
        rcases List.mem_or_eq_of_mem_set hv with hv | rfl
        ·exact List.mem_cons_of_mem _ (h.orw v hv)
        ·rw[hw];exact List.mem_cons_self
       of:=List.mem_cons_of_mem _ h.of,
       lo:=fun x hx=>by
        rcases List.mem_cons.1 hx with rfl | hx
        ·rw[←hw,af];exact⟨hlt.2,hlt.1⟩
        ·have:=h.lo x hx;rw[af];omega}
theorem vO{v:SV}{l:List Id}{H:Heap}{lo:Nat}{Q:Out→Heap→Prop}(hv:Sl H v l)(hl:l.length≤1000000)(hlo:lo≤H.n)
  (h:∀H' b,Keep H.n H H'→H.n≤b→Own H' b 138 l.length l→Q (.val (SV.sl b 0 l.length l.length true).iv) H'):W E0 lo (.call 68 [v.iv]) H Q:=by
 refine W.pure aX hlo ?_;rw[Zf];obtain⟨H2,e1,e2,e3,e4⟩:=gI hv (z:=2) rfl 138 H.n [IV.int .u8 0,.int .i64 0] rfl (Nat.le_refl _);simp(disch:=omega) only[ai,↓ah,seval,Zr,↓hv.ln,↓e1,Int.reducePow];exact fun hk=>h _ _ hk (Nat.le_refl _) e4
def sI(M:Mc)(o:Opn)(thr st:List Id):Except Int Mc:=
 if (M.ys.getD (o.y - 1).toNat oh).inn=false then .error 12
 else if (M.ys.getD (o.y - 1).toNat oh).count=2048 then .error 3
 else if M.rows.flatten.length≥2048 then .error 3
 else if jM M.t o.b o.a (st++[⟨o.y,(M.ys.getD (o.y - 1).toNat oh).count⟩])≠0 then .error (jM M.t o.b o.a (st++[⟨o.y,(M.ys.getD (o.y - 1).toNat oh).count⟩]))
 else .ok {M with t:=M.t.set (ix o.b o.a) (st++[⟨o.y,(M.ys.getD (o.y - 1).toNat oh).count⟩]),ys:=M.ys.set (o.y - 1).toNat (la (M.ys.getD (o.y - 1).toNat oh)),
                  rows:=M.rows.set (o.y - 1).toNat (M.rows.getD (o.y - 1).toNat []++[⟨o.b,(M.ys.getD (o.y - 1).toNat oh).new,thr,(M.ys.getD (o.y - 1).toNat oh).pend⟩])}
theorem MI.tab2{n0 mb:Nat}{H:Heap}{ow:List Nat}{L:Ly}{M:Mc}(h:MI n0 mb H ow L M):Sl2 H (.sl L.tb 0 6 6 true) L.rl:=by
 have:=h.gt.sl true
 rw[h.wn] at this;exact⟨L.ws,this,by rw[h.wn,h.rn],fun i a b=>(h.rg i b a).sl⟩
theorem BI{n0 mb:Nat}{H:Heap}{ow:List Nat}{L:Ly}{M:Mc}(h:MI n0 mb H ow L M){o:Opn}(hy:1≤o.y∧o.y≤6)(hrl:M.rows.flatten.length≤2048){thr st:List Id}{tv sv:SV}(ht:Sl (H.off ow) tv thr)(hs:Sl H sv st)(hsl:st.length≤1000){lo:Nat}{Q:Out→Heap→Prop}(hlo:lo≤n0)(hn:n0≤H.n)
  (hq:MQ n0 mb H ow (sI M o thr st) Q):W E0 lo (.call 127 [.ptr mb 0,.agg [.int .u8 o.k,.int .u8 o.d,.int .u8 o.b,.int .i64 o.a,.int .u8 o.y,.int .i64 o.r],tv.iv,sv.iv]) H Q:=by
 obtain⟨i,hi⟩:∃i:Nat,o.y=(i:Int)+1:=⟨(o.y - 1).toNat,by omega⟩
 have hi6:i < 6:=by omega
 have hyl:i < L.yl.length:=by rw[h.yn];exact hi6
 have hys:i < M.ys.length:=by rw[h.ysn];exact hi6
 have ej:(i:Int)+1 - 1=(i:Int):=by omega
 unfold sI at hq;rw[show(o.y - 1).toNat=i by omega,List.getD_eq_getElem?_getD (l:=M.ys),List.getElem?_eq_getElem hys,Option.getD_some,←h.ysI hyl hys] at hq;have hlt:=h.lo _ h.om;have hlty:=h.lo _ h.oy;have rm:=ae h.gm;have ry:=h.readY hyl;rw[sS] at ry;rw[XW];simp(disch:=omega) only[ai,↓ah,seval,CV,rm,ry,hi,ej,Int.toNat_natCast,show ¬H.n=L.yb by omega,show ¬H.n=mb by omega,↓FR,FW];have hmem:L.yl[i].y∈M.ys:=by rw[h.ysI hyl hys];exact List.getElem_mem _
 have hok:=h.yo _ hmem;have hv:=(h.yd _ (List.getElem_mem hyl)).unoff;have k1:Keep H.n H (H.new (.cells false 56 6 [.int .u8 o.k,.int .u8 o.d,.int .u8 o.b,.int .i64 o.a,.int .u8 ((i:Int)+1),.int .i64 o.r])):=.new _ _;refine Nf hok (hv.keep k1) (by rw[ac];omega) (fun H2 e k2 hc=>?_) fun H2 b2 k2 hin hlt8 hb2 o2=>?_
 ·have hq':MQ n0 mb H ow (.error e) Q:=by
   rcases hc with⟨h1,rfl⟩ | ⟨h1,h2,rfl⟩
   ·rw[if_pos h1] at hq;exact hq
   ·rw[if_neg (by rw[h1];decide),if_pos h2] at hq;exact hq
  have hz:¬e=0:=by rcases hc with⟨_,rfl⟩ | ⟨_,_,rfl⟩<;>decide
  have hn2:=k2.1;rw[ac] at hn2;have kk:Keep H.n H H2:=k1.trans (k2.lower (by rw[ac];omega));clear hq hc;simp(disch:=omega) only[ai,↓ah,seval,CV,mI,↓FR,FW];generalize hH_H3:Heap.put _ _ _=H3;have hnH3:H3.n=H2.n+2:=by rw[←hH_H3];rfl
  have g3:=congrArg (fun h0=>Heap.get h0 (H2.n)) hH_H3.symm;simp(disch:=omega) only[ai,↓ah,seval] at g3
  have kH3:Keep H2.n H2 H3:=⟨by omega,fun x hx _=>by
   have gx:=congrArg (fun h0=>Heap.get h0 x) hH_H3.symm;simp(disch:=omega) only[ai,↓ah,seval] at gx;exact gx⟩
  clear hH_H3;exact hq'.1 e _ rfl (KeepO.of (kk.trans (kH3.lower (by omega))))
 ·rw[if_neg (by rw[hin];decide),if_neg (by omega)] at hq;have hn2:=k2.1;rw[ac] at hn2 hb2;have kk:Keep H.n H H2:=k1.trans (k2.lower (by rw[ac];omega));have g0:=k2.2 H.n (by rw[ac];omega) (by rw[ac];omega);rw[aj,if_pos rfl] at g0;have h2:=h.keep kk;have r0:=ae g0;have rm2:=ae h2.gm;have hb2':=o2.2.1;clear k1 k2 hv rm ry;simp(disch:=omega) only[ai,↓ah,seval,CV,mI,rm2,show ¬H2.n=mb by omega,show ¬H2.n+1=mb by omega,↓FR,FW];generalize hH_H3:Heap.put _ _ _=H3;have hnH3:H3.n=H2.n+2:=by rw[←hH_H3];rfl
  have g3:=congrArg (fun h0=>Heap.get h0 (H2.n)) hH_H3.symm;simp(disch:=omega) only[ai,↓ah,seval] at g3;have g4:=congrArg (fun h0=>Heap.get h0 (H2.n+1)) hH_H3.symm;simp(disch:=omega) only[ai,↓ah,seval] at g4
  have kH3:Keep H2.n H2 H3:=⟨by omega,fun x hx _=>by
   have gx:=congrArg (fun h0=>Heap.get h0 x) hH_H3.symm;simp(disch:=omega) only[ai,↓ah,seval] at gx;exact gx⟩
  clear hH_H3;have hrf:L.rl.flatten.length=M.rows.flatten.length:=by rw[←h.rm,←List.map_flatten,List.length_map]
  have h3:=h2.keep kH3;refine GT (v:=.sl L.tb 0 6 6 true) h3.tab2 (by rw[h.rn];omega) (by omega) (by omega) fun H4 k4=>?_;rw[hrf];have hn4:=k4.1;have g34:=(k4.2 H2.n (by omega) (by omega)).trans g3;have g44:=(k4.2 (H2.n+1) (by omega) (by omega)).trans g4;have g04:=(k4.2 H.n (by omega) (by omega)).trans ((kH3.2 H.n (by omega) (by omega)).trans g0);have k24:Keep H2.n H2 H4:=kH3.trans (k4.lower (by omega));have k04:Keep H.n H H4:=kk.trans (k24.lower (by omega));have h4:=h.keep k04;have o4:=o2.keep k24;have hb4:=o4.2.1;clear h3 k4 kH3 g3 g4 g0 r0 rm2 h2 o2 kk;by_cases hc:M.rows.flatten.length≥2048
  ·rw[if_pos hc] at hq;simp(disch:=omega) only[ai,↓ah,seval,CV,show((M.rows.flatten.length:Nat):Int)≥2048 by omega,↓FR,FW];exact hq.1 3 _ rfl (KeepO.of k04)
  ·rw[if_neg hc] at hq;have r04:=ae g04;have r34:=ae g34;have r44:=ae g44;have rm4:=ae h4.gm;have hs4:=hs.keep k04;simp(disch:=omega) only[ai,↓ah,seval,CV,show ¬((M.rows.flatten.length:Nat):Int)≥2048 by omega,r04,r34,r44,rm4,ak,↓FR,FW];generalize hH_H5:Heap.put _ _ _=H5;have hnH5:H5.n=H4.n+2:=by rw[←hH_H5];rfl
   have g5:=congrArg (fun h0=>Heap.get h0 (H4.n)) hH_H5.symm;simp(disch:=omega) only[ai,↓ah,seval] at g5;have g6:=congrArg (fun h0=>Heap.get h0 (H4.n+1)) hH_H5.symm;simp(disch:=omega) only[ai,↓ah,seval] at g6
   have kH5:Keep H4.n H4 H5:=⟨by omega,fun x hx _=>by
    have gx:=congrArg (fun h0=>Heap.get h0 x) hH_H5.symm;simp(disch:=omega) only[ai,↓ah,seval] at gx;exact gx⟩
   clear hH_H5;refine vO (hs4.keep kH5) (by omega) (by omega) fun H6 b6 k6 hb6 o6=>?_;have hn6:=k6.1;have k46:Keep H4.n H4 H6:=kH5.trans (k6.lower (by omega));have g56:=(k6.2 H4.n (by omega) (by omega)).trans g5;have g66:=(k6.2 (H4.n+1) (by omega) (by omega)).trans g6;have r56:=ae g56;have o7:=oN (H:=H6) (e:=138) kJ (⟨o.y,L.yl[i].y.count⟩:Id);obtain⟨H8,e8,n8,k8,o8⟩:=ki (e:=138) ((o6.keep (.new _ (.cells false 138 2 (Cell.cs (⟨o.y,L.yl[i].y.count⟩:Id))))).sl true) (o7.sl true) kJ 16 (H6.n+1) (by simp) (by simp) (by simp;omega);have e8:ev1 (.append 138 2 16) [.slice b6 0 st.length st.length true,.slice H6.n 0 1 1 true] (H6.n+1) (H6.new (.cells false 138 2 [.int .u8 ((i:Int)+1),.int .i64 L.yl[i].y.count]))=some (.slice (H6.n+1) 0 (st.length+1) (st.length+1) false,H8):=by rw[←hi];exact e8
   simp(disch:=omega) only[ai,↓ah,seval,CV,r56,↓e8,ak,↓FR,FW]
   have hn8:H8.n=H6.n+2:=by rw[n8,ac]
   have k68:Keep H6.n H6 H8:=(Keep.new _ _).trans (k8.lower (by rw[ac];omega));have k48:Keep H4.n H4 H8:=k46.trans (k68.lower (by omega));have h8:=h4.keep k48
   have sv8:Sl H8 (.sl (H6.n+1) 0 (st.length+1) (st.length+1) false) (st++[(⟨o.y,L.yl[i].y.count⟩:Id)]):=by
    have:=o8.sl false
    rw[List.length_append] at this;exact this
   refine IT (v:=.sl (H6.n+1) 0 (st.length+1) (st.length+1) false) (l:=st++[(⟨o.y,L.yl[i].y.count⟩:Id)]) o.b o.a h.bv h8.bf.unoff h8.bb.unoff sv8 (by simp;omega) (Nat.le_refl _) (fun H9 k9 he=>?_) fun H9 f' b' k9 he bd=>?_
   ·rw[if_pos he] at hq;have hn9:=k9.1;have k08:Keep H.n H H9:=k04.trans ((k48.trans (k9.lower (by omega))).lower (by omega));generalize jM M.t o.b o.a (st++[⟨o.y,L.yl[i].y.count⟩])=e at he hq;clear e8 o6 o7 o8 o4 h8 sv8 h4;simp(disch:=omega) only[ai,↓ah,seval,CV,bv,he,↓FR,FW];exact hq.1 e _ rfl (KeepO.of (k08.trans (Keep.newPut.lower (by omega))))
   ·rw[if_neg (by rw[he];decide)] at hq;have hn9:=k9.1;have ho:∀x∈ow,x < H8.n:=fun x hx=>by have:=(h.lo x hx).2;have:=k04.1;have:=k48.1;omega
    have k10:Keep H9.n H9 ((H9.new (.cells false 26 2 [.nilSlice,.nilSlice])).put H9.n (.cells false 26 2 [f'.iv,b'.iv])):=Keep.newPut;have k8P:Keep H8.n H8 ((H9.new (.cells false 26 2 [.nilSlice,.nilSlice])).put H9.n (.cells false 26 2 [f'.iv,b'.iv])):=k9.trans (k10.lower hn9);have kP:Keep H.n H ((H9.new (.cells false 26 2 [.nilSlice,.nilSlice])).put H9.n (.cells false 26 2 [f'.iv,b'.iv])):=k04.trans ((k48.trans (k8P.lower (by omega))).lower (by omega));have hP:=h.keep kP;have hm:=hP.setM h.rk (Sl2F.onto (bd.1.keep k10) ho) (Sl2F.onto (bd.2.1.keep k10) ho) (vM h.bv he);have hY:=hm.setY hi6 (JK hok hin hlt8) (v:=.nil) (Sl.empty:Sl _ .nil ([]:List Ps));have hws:i < L.ws.length:=by rw[h.wn];exact hi6
    have hrs:i < L.rl.length:=by rw[h.rn];exact hi6
    have k49:Keep H4.n H4 H9:=k48.trans (k9.lower (by omega));have g09:=(k49.2 H.n (by omega) (by omega)).trans g04;have g39:=(k49.2 H2.n (by omega) (by omega)).trans g34;have k69:Keep H6.n H6 H9:=k68.trans (k9.lower (by omega));have g69:=(k69.2 (H4.n+1) (by omega) (by omega)).trans g66;have r09:=ae g09;have r39:=ae g39;have r69:=ae g69;have rP:=ae hP.gm;have rM:=ae hm.gm;have gMy:=hm.fullY;have hfl:(aB L.yl).length=30:=by rw[ao,h.yn];rfl
    have hyb:¬L.yb=mb:=fun e=>by have h1:=h.fullY;have h2:=h.gm;rw[e,h2] at h1;cases h1
    have htb:=h.lo _ h.ot;have e2:¬L.yb=L.tb:=fun e=>by have h1:=h.fullY;have h2:=h.fullT;rw[e,h2] at h1;cases h1
    have e3:¬mb=L.tb:=fun e=>by have h1:=h.gm;have h2:=h.fullT;rw[e,h2] at h1;cases h1
    have h9:=h.keep (k04.trans ((k49.lower (by have:=k04.1;omega))));obtain⟨bw,exw,hwv,hbw,how⟩:=h.rg i hws hrs;have hbwo:bw∈ow:=by have:=h.orw _ (List.getElem_mem hws);rw[hwv] at this;exact this
    have hbwl:=h.lo _ hbwo;have gbw:=how.full;have e5:¬bw=mb:=fun e=>by have h2:=h.gm;rw[e,h2] at gbw;cases gbw
    have e6:¬L.tb=bw:=fun e=>by have h2:=h.fullT;rw[e,gbw] at h2;cases h2
    have hlen:L.rl[i].length≤2048:=by
     have h1:=rA L.rl i hrs;have h2:=lJ L.rl (i+1);omega
    have gT:=h9.fullT;have hflT:(aB L.ws).length=6:=by rw[ao,h.wn];rfl
    have rT:H9.read L.tb i 1=some [.slice bw 0 L.rl[i].length L.rl[i].length exw]:=by
     have:=(h9.gt.sl true).read mD i hws
     rw[qW,hwv] at this;simpa [SV.blk,SV.off,SV.iv] using this
    obtain⟨x,hx⟩:∃x:Lv,x=⟨⟨o.b,L.yl[i].y.new,thr,L.yl[i].y.pend⟩,tv,.sl b2 0 L.yl[i].y.pend.length L.yl[i].y.pend.length true⟩:=⟨_,rfl⟩;have hcs:Cell.cs x=[.int .u8 o.b,.bool L.yl[i].y.new,tv.iv,.slice b2 0 L.yl[i].y.pend.length L.yl[i].y.pend.length true]:=by rw[hx];rfl
    obtain⟨HY,hHY⟩:∃HY,HY=((((H9.new (.cells false 26 2 [.nilSlice,.nilSlice])).put H9.n (.cells false 26 2 [f'.iv,b'.iv])).put mb (.cells false 147 7 [.int .i64 M.rack,f'.iv,b'.iv,.slice L.yb 0 6 6 true,.slice L.tb 0 6 6 true,.map L.cb,L.fv.iv])).put L.yb (.cells false 133 5 (ar (aB L.yl) (i*5) [.bool (la L.yl[i].y).inn,.int .i64 (la L.yl[i].y).place,.int .i64 (la L.yl[i].y).count,.bool (la L.yl[i].y).new,.nilSlice]))):=⟨_,rfl⟩
    have hYn:HY.n=H9.n+1:=by rw[hHY];rfl
    have hN:=(hHY▸hY).keep (Keep.new HY (.cells false 158 4 (Cell.cs x)))
    have k4N:KeepO ow H4 (HY.new (.cells false 158 4 (Cell.cs x))):=by
     have a:=((KeepO.of (ow:=ow) (k48.trans (k8P.lower (by have:=k48.1;omega)))).trans (KeepO.put (ow:=ow) (o:=.cells false 147 7 [.int .i64 M.rack,f'.iv,b'.iv,.slice L.yb 0 6 6 true,.slice L.tb 0 6 6 true,.map L.cb,L.fv.iv]) h.om) fun x hx=>.inl hx).trans (KeepO.put (ow:=ow) (o:=.cells false 133 5 (ar (aB L.yl) (i*5) [.bool (la L.yl[i].y).inn,.int .i64 (la L.yl[i].y).place,.int .i64 (la L.yl[i].y).count,.bool (la L.yl[i].y).new,.nilSlice])) h.oy) fun x hx=>.inl hx;rw[←hHY] at a;exact a.trans (KeepO.of (Keep.new HY _)) fun x hx=>.inl hx
    have kHN:=(KeepO.of (ow:=ow) k04).trans k4N fun x hx=>.inl hx
    have hu:Sl (HY.new (.cells false 158 4 (Cell.cs x))) (.sl (H9.n+1) 0 1 1 true) [x]:=by
     have:=(oN (H:=HY) (e:=158) AO x).sl true
     rw[hYn] at this;exact this
    have rg:Tg n0 (HY.new (.cells false 158 4 (Cell.cs x))) 158 L.ws[i] L.rl[i]:=hN.rg i hws hrs;obtain⟨HA,w,eA,kA,gA,wA⟩:=Tg.push rg hu (by simp) AO 56 lo hlo (by rw[ac,hYn];have:=k04.1;have:=k49.1;omega) (by simp;omega);have hx1:Sl ((HY.new (.cells false 158 4 (Cell.cs x))).off ow) x.tv x.p.thr:=by rw[show x.tv=tv by rw[hx],show x.p.thr=thr by rw[hx]];exact ht.keep kHN.off'
    have hx2:Sl ((HY.new (.cells false 158 4 (Cell.cs x))).off ow) x.pv x.p.past:=by
     have hb2o:b2∉ow:=fun hx=>by have:=(h.lo _ hx).2;omega
     rw[show x.pv=.sl b2 0 L.yl[i].y.pend.length L.yl[i].y.pend.length true by rw[hx],show x.p.past=L.yl[i].y.pend by rw[hx]];exact((o4.keepO k4N hb2o).sl true).onto fun _=>hb2o
    have hR:=hN.setR hi6 hws hrs kA gA wA hx1 hx2;have gTN:(HY.new (.cells false 158 4 (Cell.cs x))).get L.tb=some (.cells false 140 1 (aB L.ws)):=hN.fullT;have hgT:HA.get L.tb=some (.cells false 140 1 (aB L.ws)):=(kA.2 L.tb (by rw[ac,hYn];have:=k04.1;have:=k49.1;omega) (by rw[hwv];show L.tb∉[bw];simpa using e6)).trans gTN;rw[hwv,hHY,hcs] at eA;have eA:ev1 (.append 158 4 56) [.slice bw 0 L.rl[i].length L.rl[i].length exw,.slice (H9.n+1) 0 1 1 true] lo _=some (w.iv,HA):=eA
    have hM:({M with t:=M.t.set (ix o.b o.a) (st++[⟨o.y,L.yl[i].y.count⟩]),ys:=M.ys.set i (la L.yl[i].y),rows:=M.rows.set i (M.rows.getD i []++[⟨o.b,L.yl[i].y.new,thr,L.yl[i].y.pend⟩])}:Mc)={M with t:=M.t.set (ix o.b o.a) (st++[⟨o.y,L.yl[i].y.count⟩]),ys:=M.ys.set i (la L.yl[i].y),rows:=M.rows.set i ((L.rl[i]++[x]).map (·.p))}:=by
     have:M.rows.getD i []=L.rl[i].map (·.p):=by
      rw[←h.rm,List.getD_eq_getElem?_getD,List.getElem?_map,List.getElem?_eq_getElem hrs];rfl
     rw[this,List.map_append,hx];rfl
    rw[hM] at hq;have hmbl:=h.lo _ h.om;have g9m:=h9.gm;have rM9:=ae g9m;clear hY hN rg hu gbw how h9 hP hm h8 h4 sv8 o8 o7 o6 e8 hM gTN hx1 hx2 bd o4 gA wA;simp(disch:=omega) only[ai,↓ah,seval,CV,bv,r09,r39,r69,rP,rM,gMy,hfl,rT,e2,e3,e5,Nat.mul_one,ej,Int.toNat_natCast,hyb,↓eA,hgT,hflT,g9m,rM9,show ¬H9.n=mb by omega,show ¬H.n=mb by omega,show ¬mb=H.n by omega,show ¬L.yb=H.n by omega,show ¬mb=H4.n+1 by omega,show ¬L.yb=H4.n+1 by omega,show ¬H9.n=L.tb by omega,show ¬bw=H.n by omega,show ¬H.n=bw by omega,show ¬mb=bw by omega,↓FR,FW];refine hq.2 _ _ _ _ rfl (kHN.trans hR.1 fun x hx=>.inl hx) (fun x hx=>List.mem_cons_of_mem _ hx) (fun x hx=>?_) hR.2;rcases List.mem_cons.1 hx with rfl | hx
    ·right;rw[ac,hYn];have:=k04.1;have:=k49.1;omega
    ·exact .inl hx
theorem MQ.after{n0 mb:Nat}{H H1:Heap}{ow ow1:List Nat}{r:Except Int Mc}{Q:Out→Heap→Prop}(hq:MQ n0 mb H ow r Q)(k:KeepO ow H H1)(h1:∀x∈ow,x∈ow1)(h2:∀x∈ow1,x∈ow∨H.n≤x):MQ n0 mb H1 ow1 r Q:=by
 refine⟨fun e H' he k'=>hq.1 e H' he (k.trans k' h2),fun M' H' ow' L' he k' a b hM=>hq.2 M' H' ow' L' he (k.trans k' h2) (fun x hx=>a x (h1 x hx)) (fun x hx=>?_) hM⟩
 rcases b x hx with h | h
 ·exact h2 x h
 ·right;have:=k.1;omega
theorem JM{s:Int}(h: -12≤s∧s≤178∧s.tmod 2=0):vH (s+1)=true∧vH (s - 1)=true:=by
 obtain⟨h1,h2,h3⟩:=h;unfold vH;have h4:=Int.dvd_of_tmod_eq_zero h3;have a:(s+1).tmod 2≠0:=fun e=>by have:=Int.dvd_of_tmod_eq_zero e;omega
 have b:(s - 1).tmod 2≠0:=fun e=>by have:=Int.dvd_of_tmod_eq_zero e;omega
 simp[a,b];omega
theorem pN{M:Mc}(hr: -4≤M.rack∧M.rack≤4){o:Opn}(hne:an o.b o.a=0){p s:Int}(h:iB M o=.ok (p,s)):vH p=true:=by
 have hs:=JM (zo hne hr);unfold iB at h;split at h
 ·cases h
 split at h
 ·split at h
  ·cases h
  ·injection h with h;injection h with h1 h2;rw[←h1];exact hs.1
 ·split at h
  ·cases h
  ·injection h with h;injection h with h1 h2;rw[←h1];exact hs.2
theorem iM{M M1:Mc}{y p e:Int}(h:mm M y p e=.ok M1):M1.rack=M.rack∧M1.t=M.t∧M1.rows=M.rows∧M1.cr=M.cr∧M1.fa=M.fa:=by
 unfold mm at h;split at h
 ·cases h
 split at h
 ·cases h
 ·injection h with h;subst h;exact⟨rfl,rfl,rfl,rfl,rfl⟩
def BN(M:Mc)(o:Opn):Except Int Mc:=match iB M o with
 | .error e=>.error e
 | .ok ps=>match mm M o.y ps.1 ps.2 with
   | .error e=>.error e
   | .ok M1=>sI M1 o (wT M1 o) []
def AW(M:Mc)(o:Opn):Except Int Mc:=match iB M o with
 | .error e=>.error e
 | .ok ps=>match mm M o.y ps.1 ps.2 with
   | .error e=>.error e
   | .ok M1=>if (wT M1 o).length≥4 then .error 9 else sI M1 o [] (wT M1 o)
def BE(M:Mc)(o:Opn):Except Int Mc:=match iB M o with
 | .error e=>.error e
 | .ok ps=>mm M o.y ps.1 ps.1
theorem ie{M:Mc}{o:Opn}{e:Int}(h:iB M o=.error e):e=12:=by
 unfold iB at h;split at h
 ·injection h with h;exact h.symm
 split at h
 ·split at h
  ·injection h with h;exact h.symm
  ·cases h
 ·split at h
  ·injection h with h;exact h.symm
  ·cases h
theorem lq{M:Mc}{y p s e:Int}(h:mm M y p s=.error e):¬e=0:=by
 unfold mm at h;split at h
 ·injection h with h;subst h;decide
 split at h
 ·injection h with h;subst h;decide
 ·cases h
theorem Nb{n0 mb:Nat}{H:Heap}{ow:List Nat}{L:Ly}{M:Mc}(h:MI n0 mb H ow L M){o:Opn}(hd:o.d=0∨o.d=1)(hne:an o.b o.a=0)(hy:1≤o.y∧o.y≤6){lo:Nat}{Q:Out→Heap→Prop}(hlo:lo≤n0)(hn:n0≤H.n)
  (hq:MQ n0 mb H ow (BE M o) Q):W E0 lo (.call 74 [.ptr mb 0,.agg [.int .u8 o.k,.int .u8 o.d,.int .u8 o.b,.int .i64 o.a,.int .u8 o.y,.int .i64 o.r]]) H Q:=by
 unfold BE at hq;rw[c74];simp(disch:=omega) only[ai,↓ah,seval,Tn,ak,↓FR,FW];have k1:Keep H.n H (H.new (.cells false 56 6 [.int .u8 o.k,.int .u8 o.d,.int .u8 o.b,.int .i64 o.a,.int .u8 o.y,.int .i64 o.r])):=.new _ _;refine si (h.keep k1) hd hne hy (by rw[ac];omega) (fun e H2 k2 he=>?_) fun p s H2 k2 he=>?_
 ·rw[he] at hq;have hz:=ie he;subst hz;simp(disch:=omega) only[ai,↓ah,seval,Tn,↓FR,FW];exact hq.1 _ _ rfl (KeepO.of (k1.trans (k2.lower (by rw[ac];omega))))
 ·rw[he] at hq;simp only at hq;have hn2:=k2.1;rw[ac] at hn2;have g0:=k2.2 H.n (by rw[ac];omega) (by rw[ac];omega);rw[aj,if_pos rfl] at g0;have r0:=ae g0;have kk:Keep H.n H H2:=k1.trans (k2.lower (by rw[ac];omega));clear k1 k2;simp(disch:=omega) only[ai,↓ah,seval,Tn,r0,↓FR,FW];have hq2:=hq.after (KeepO.of kk) (fun _ hx=>hx) (fun _ hx=>.inl hx);refine wE (h.keep kk) (pN h.rk hne he) hy hlo (by omega) ⟨fun e H3 he3 k3=>?_,fun M3 H3 ow3 L3 he3 k3 ha hb hM=>?_⟩
  ·simp(disch:=omega) only[ai,↓ah,seval,Tn,↓FR,FW]
   exact hq2.1 e _ he3 k3
  ·simp(disch:=omega) only[ai,↓ah,seval,Tn,↓FR,FW]
   exact hq2.2 _ _ _ _ he3 k3 ha hb hM
theorem Ni{n0 mb:Nat}{H:Heap}{ow:List Nat}{L:Ly}{M:Mc}(h:MI n0 mb H ow L M){o:Opn}(hd:o.d=0∨o.d=1)(hne:an o.b o.a=0)(hy:1≤o.y∧o.y≤6)(hrl:M.rows.flatten.length≤2048){lo:Nat}{Q:Out→Heap→Prop}(hlo:lo≤n0)(hn:n0≤H.n)
  (hq:MQ n0 mb H ow (BN M o) Q):W E0 lo (.call 72 [.ptr mb 0,.agg [.int .u8 o.k,.int .u8 o.d,.int .u8 o.b,.int .i64 o.a,.int .u8 o.y,.int .i64 o.r]]) H Q:=by
 unfold BN at hq;rw[c72];simp(disch:=omega) only[ai,↓ah,seval,PR,ak,↓FR,FW];have k1:Keep H.n H (H.new (.cells false 56 6 [.int .u8 o.k,.int .u8 o.d,.int .u8 o.b,.int .i64 o.a,.int .u8 o.y,.int .i64 o.r])):=.new _ _;refine si (h.keep k1) hd hne hy (by rw[ac];omega) (fun e H2 k2 he=>?_) fun p s H2 k2 he=>?_
 ·rw[he] at hq;have hz:=ie he;subst hz;simp(disch:=omega) only[ai,↓ah,seval,PR,↓FR,FW];exact hq.1 _ _ rfl (KeepO.of (k1.trans (k2.lower (by rw[ac];omega))))
 ·rw[he] at hq;simp only at hq;have hn2:=k2.1;rw[ac] at hn2;have g0:=k2.2 H.n (by rw[ac];omega) (by rw[ac];omega);rw[aj,if_pos rfl] at g0;have r0:=ae g0;have kk:Keep H.n H H2:=k1.trans (k2.lower (by rw[ac];omega));clear k1 k2;simp(disch:=omega) only[ai,↓ah,seval,PR,r0,↓FR,FW];have hq2:=hq.after (KeepO.of kk) (fun _ hx=>hx) (fun _ hx=>.inl hx);refine wE (h.keep kk) (pN h.rk hne he) hy hlo (by omega) ⟨fun e H3 he3 k3=>?_,fun M3 H3 ow3 L3 he3 k3 ha hb hM=>?_⟩
  ·rw[he3] at hq2;have hz:=lq he3;simp(disch:=omega) only[ai,↓ah,seval,PR,↓FR,FW];exact hq2.1 e _ rfl k3
  ·rw[he3] at hq2;simp only at hq2;obtain⟨q1,q2,q3,q4,q5⟩:=iM he3;have hq3:=hq2.after k3 ha hb;have hx:H.n∉ow:=fun hx=>by have:=(h.lo _ hx).2;omega
   have g3:=(k3.2 H.n (by omega) hx).trans g0;have r3:=ae g3;have rm:=ae hM.gm;have hn3:=k3.1;have h6:=hM.bv.len6;clear hq hq2 r0 g0;simp(disch:=omega) only[ai,↓ah,seval,PR,r3,rm,ak,↓FR,FW];refine td o.b o.a hM.bf.unoff hM.bb.unoff h6.1 h6.2 (by omega) fun H4 v k4 f4=>?_;rw[iR M3.t hne] at f4;have f4:Fresh _ H4 138 v (wT M3 o):=f4;have h4:=hM.keep k4;have hn4:=k4.1;have sv:=f4.sl;simp(disch:=omega) only[ai,↓ah,seval,PR,↓FR,FW]
   have hon:Sl (H4.off ow3) v (wT M3 o):=sv.onto fun hl hx=>by
    rcases f4 with⟨_,e⟩ | ⟨b,e,hb',_⟩
    ·exact hl e
    ·rw[e] at hx
     have:=(hM.lo _ hx).2
     have:b < H3.n:=this
     omega
   refine BI h4 hy (by rw[q3];exact hrl) hon (sv:=.nil) Sl.empty (by simp) hlo (by omega) ⟨fun e H5 he5 k5=>?_,fun M5 H5 ow5 L5 he5 k5 ha5 hb5 hM5=>?_⟩
   ·simp(disch:=omega) only[ai,↓ah,seval,PR,↓FR,FW]
    exact(hq3.after (KeepO.of k4) (fun _ hx=>hx) fun _ hx=>.inl hx).1 e _ he5 k5
   ·simp(disch:=omega) only[ai,↓ah,seval,PR,↓FR,FW]
    exact(hq3.after (KeepO.of k4) (fun _ hx=>hx) fun _ hx=>.inl hx).2 _ _ _ _ he5 k5 ha5 hb5 hM5
theorem Mr{n0 mb:Nat}{H:Heap}{ow:List Nat}{L:Ly}{M:Mc}(h:MI n0 mb H ow L M){o:Opn}(hd:o.d=0∨o.d=1)(hne:an o.b o.a=0)(hy:1≤o.y∧o.y≤6)(hrl:M.rows.flatten.length≤2048){lo:Nat}{Q:Out→Heap→Prop}(hlo:lo≤n0)(hn:n0≤H.n)
  (hq:MQ n0 mb H ow (AW M o) Q):W E0 lo (.call 73 [.ptr mb 0,.agg [.int .u8 o.k,.int .u8 o.d,.int .u8 o.b,.int .i64 o.a,.int .u8 o.y,.int .i64 o.r]]) H Q:=by
 unfold AW at hq;rw[c73];simp(disch:=omega) only[ai,↓ah,seval,Pe,ak,↓FR,FW];have k1:Keep H.n H (H.new (.cells false 56 6 [.int .u8 o.k,.int .u8 o.d,.int .u8 o.b,.int .i64 o.a,.int .u8 o.y,.int .i64 o.r])):=.new _ _;refine si (h.keep k1) hd hne hy (by rw[ac];omega) (fun e H2 k2 he=>?_) fun p s H2 k2 he=>?_
 ·rw[he] at hq;have hz:=ie he;subst hz;simp(disch:=omega) only[ai,↓ah,seval,Pe,↓FR,FW];exact hq.1 _ _ rfl (KeepO.of (k1.trans (k2.lower (by rw[ac];omega))))
 ·rw[he] at hq;simp only at hq;have hn2:=k2.1;rw[ac] at hn2;have g0:=k2.2 H.n (by rw[ac];omega) (by rw[ac];omega);rw[aj,if_pos rfl] at g0;have r0:=ae g0;have kk:Keep H.n H H2:=k1.trans (k2.lower (by rw[ac];omega));clear k1 k2;simp(disch:=omega) only[ai,↓ah,seval,Pe,r0,↓FR,FW];have hq2:=hq.after (KeepO.of kk) (fun _ hx=>hx) (fun _ hx=>.inl hx);refine wE (h.keep kk) (pN h.rk hne he) hy hlo (by omega) ⟨fun e H3 he3 k3=>?_,fun M3 H3 ow3 L3 he3 k3 ha hb hM=>?_⟩
  ·rw[he3] at hq2;have hz:=lq he3;simp(disch:=omega) only[ai,↓ah,seval,Pe,↓FR,FW];exact hq2.1 e _ rfl k3
  ·rw[he3] at hq2;simp only at hq2;obtain⟨q1,q2,q3,q4,q5⟩:=iM he3;have hq3:=hq2.after k3 ha hb;have hx:H.n∉ow:=fun hx=>by have:=(h.lo _ hx).2;omega
   have g3:=(k3.2 H.n (by omega) hx).trans g0;have r3:=ae g3;have rm:=ae hM.gm;have hn3:=k3.1;have h6:=hM.bv.len6;clear hq hq2 r0 g0;simp(disch:=omega) only[ai,↓ah,seval,Pe,r3,rm,ak,↓FR,FW];refine td o.b o.a hM.bf.unoff hM.bb.unoff h6.1 h6.2 (by omega) fun H4 v k4 f4=>?_;rw[iR M3.t hne] at f4;have f4:Fresh _ H4 138 v (wT M3 o):=f4;have h4:=hM.keep k4;have hn4:=k4.1;have sv:=f4.sl;have r4:=ae ((k4.2 H.n (by omega) (by omega)).trans g3);have hq4:=hq3.after (KeepO.of k4) (fun _ hx=>hx) fun _ hx=>.inl hx;by_cases hf:(wT M3 o).length≥4
   ·rw[if_pos hf] at hq4;simp(disch:=omega) only[ai,↓ah,seval,Pe,↓sv.ln,show(((wT M3 o).length:Nat):Int)≥4 by omega,↓FR,FW];exact hq4.1 _ _ rfl (KeepO.refl _ _)
   ·rw[if_neg hf] at hq4;simp(disch:=omega) only[ai,↓ah,seval,Pe,↓sv.ln,r4,show ¬(((wT M3 o).length:Nat):Int)≥4 by omega,↓FR,FW];refine BI h4 hy (by rw[q3];exact hrl) (tv:=.nil) Sl.empty sv (by omega) hlo (by omega) ⟨fun e H5 he5 k5=>?_,fun M5 H5 ow5 L5 he5 k5 ha5 hb5 hM5=>?_⟩
    ·simp(disch:=omega) only[ai,↓ah,seval,Pe,↓FR,FW]
     exact hq4.1 e _ he5 k5
    ·simp(disch:=omega) only[ai,↓ah,seval,Pe,↓FR,FW]
     exact hq4.2 _ _ _ _ he5 k5 ha5 hb5 hM5
def lT(b:Int):Int:=if b=1 then 0 else 1
def lU(b a r:Int):Int:=if b=1 then a+r else a - r
theorem Dw{b a r:Int}(hne:an b a=0)(hr: -4≤r∧r≤4){H:Heap}{lo:Nat}{Q:Out→Heap→Prop}(hlo:lo≤H.n)
  (he:∀H',Keep H.n H H'→an (lT b) (lU b a r)≠0→Q (.val (.tuple [.agg [.int .u8 0,.int .i64 0],.int .i64 11])) H')
  (h:∀H',Keep H.n H H'→an (lT b) (lU b a r)=0→Q (.val (.tuple [.agg [.int .u8 (lT b),.int .i64 (lU b a r)],.int .i64 0])) H'):
  W E0 lo (.call 99 [.agg [.int .u8 b,.int .i64 a],.int .i64 r]) H Q:=by
 refine W.pure aX hlo ?_;obtain⟨hb,h1,h2⟩:=dV hne;rw[c99];simp(disch:=omega) only[ai,↓ah,seval,PQ,ak,↓FR,FW];generalize hH_H1:Heap.new _ _=H1;have hnH1:H1.n=H.n+2:=by rw[←hH_H1];rfl
 have g0:=congrArg (fun h0=>Heap.get h0 (H.n)) hH_H1.symm;simp(disch:=omega) only[ai,↓ah,seval] at g0;have g1:=congrArg (fun h0=>Heap.get h0 (H.n+1)) hH_H1.symm;simp(disch:=omega) only[ai,↓ah,seval] at g1
 have kH1:Keep H.n H H1:=⟨by omega,fun x hx _=>by
  have gx:=congrArg (fun h0=>Heap.get h0 x) hH_H1.symm;simp(disch:=omega) only[ai,↓ah,seval] at gx;exact gx⟩
 clear hH_H1;refine bU b a (by omega) fun H2 k2=>?_;have hn2:=k2.1;replace g0:=(k2.2 _ (by omega) (by omega)).trans g0;replace g1:=(k2.2 _ (by omega) (by omega)).trans g1;have r0:=ae g0;simp(disch:=omega) only[ai,↓ah,seval,PQ,hne,↓FR,FW];refine pF r ?_;have hrb:=rackB_iff.2 hr;rcases hb with rfl | rfl
 ·simp(disch:=omega) only[ai,↓ah,seval,PQ,hrb,r0,ak,↓FR,FW]
  generalize hH_H3:Heap.put _ _ _=H3;have hnH3:H3.n=H2.n+1:=by rw[←hH_H3];rfl
  have g2:=congrArg (fun h0=>Heap.get h0 (H2.n)) hH_H3.symm;simp(disch:=omega) only[ai,↓ah,seval] at g2
  have kH3:Keep H2.n H2 H3:=⟨by omega,fun x hx _=>by
   have gx:=congrArg (fun h0=>Heap.get h0 x) hH_H3.symm;simp(disch:=omega) only[ai,↓ah,seval] at gx;exact gx⟩
  clear hH_H3;have g03:=(kH3.2 H.n (by omega) (by omega)).trans g0;have g13:=(kH3.2 (H.n+1) (by omega) (by omega)).trans g1;refine bU 1 (a - r) (by omega) fun H4 k4=>?_;have hn4:=k4.1;replace g2:=(k4.2 _ (by omega) (by omega)).trans g2;replace g03:=(k4.2 _ (by omega) (by omega)).trans g03;replace g13:=(k4.2 _ (by omega) (by omega)).trans g13;have r2:=ae g2;have e1:lT 0=1:=rfl;have e2:lU 0 a r=a - r:=rfl;rw[e1,e2] at he h;clear g0 r0;rcases jd 1 (a - r) with hv | hv
  ·simp(disch:=omega) only[ai,↓ah,seval,PQ,hv,r2,g13,ak,↓FR,FW]
   exact fun k=>h _ k hv
  ·simp(disch:=omega) only[ai,↓ah,seval,PQ,hv,r2,g13,ak,↓FR,FW]
   exact fun k=>he _ k (by omega)
 ·simp(disch:=omega) only[ai,↓ah,seval,PQ,hrb,r0,ak,↓FR,FW]
  generalize hH_H3:Heap.put _ _ _=H3;have hnH3:H3.n=H2.n+1:=by rw[←hH_H3];rfl
  have g2:=congrArg (fun h0=>Heap.get h0 (H2.n)) hH_H3.symm;simp(disch:=omega) only[ai,↓ah,seval] at g2
  have kH3:Keep H2.n H2 H3:=⟨by omega,fun x hx _=>by
   have gx:=congrArg (fun h0=>Heap.get h0 x) hH_H3.symm;simp(disch:=omega) only[ai,↓ah,seval] at gx;exact gx⟩
  clear hH_H3;have g03:=(kH3.2 H.n (by omega) (by omega)).trans g0;have g13:=(kH3.2 (H.n+1) (by omega) (by omega)).trans g1;refine bU 0 (a+r) (by omega) fun H4 k4=>?_;have hn4:=k4.1;replace g2:=(k4.2 _ (by omega) (by omega)).trans g2;replace g03:=(k4.2 _ (by omega) (by omega)).trans g03;replace g13:=(k4.2 _ (by omega) (by omega)).trans g13;have r2:=ae g2;have e1:lT 1=0:=rfl;have e2:lU 1 a r=a+r:=rfl;rw[e1,e2] at he h;clear g0 r0;rcases jd 0 (a+r) with hv | hv
  ·simp(disch:=omega) only[ai,↓ah,seval,PQ,hv,r2,g13,ak,↓FR,FW]
   exact fun k=>h _ k hv
  ·simp(disch:=omega) only[ai,↓ah,seval,PQ,hv,r2,g13,ak,↓FR,FW]
   exact fun k=>he _ k (by omega)
def ST(M:Mc)(o:Opn):Int:=(if aD (lT o.b) (lU o.b o.a M.rack) M.rack < aD o.b o.a M.rack then aD (lT o.b) (lU o.b o.a M.rack) M.rack else aD o.b o.a M.rack)+1
def AP(M:Mc)(o:Opn):Except Int Mc:=
 if (wT M o).length=0 then .error 13
 else if an (lT o.b) (lU o.b o.a M.rack)≠0 then .error 11
 else if M.ys.any (fun y=>y.inn&&y.place==ST M o)=true then .error 12
 else if gB (aN M.t) (aG M.t) o.b o.a (lT o.b) (lU o.b o.a M.rack)≠0 then .error (gB (aN M.t) (aG M.t) o.b o.a (lT o.b) (lU o.b o.a M.rack))
 else .ok {M with t:=nn M.t o.b (ix o.b o.a) (ix (lT o.b) (lU o.b o.a M.rack))}
theorem QO{t:List (List Id)}(hV:Valid t){fb fa tb ta:Int}(h:gB (aN t) (aG t) fb fa tb ta=0):Valid (nn t fb (ix fb fa) (ix tb ta))∧an fb fa=0∧an tb ta=0:=by
 rw[Kj hV] at h;split at h
 ·omega
 split at h
 ·omega
 split at h
 ·omega
 ·rename_i c1 c2 c3;rw[not_or,not_or,Classical.not_not,Classical.not_not] at c1;exact⟨BS hV fb (GN c1.1).2.2 (GN c1.2.1).2.2 (Su c1.1 c1.2.1 c1.2.2) (by omega),c1.1,c1.2.1⟩
theorem LW{n0 mb:Nat}{H:Heap}{ow:List Nat}{L:Ly}{M:Mc}(h:MI n0 mb H ow L M){o:Opn}(hne:an o.b o.a=0){lo:Nat}{Q:Out→Heap→Prop}(hlo:lo≤n0)(hn:n0≤H.n)
  (hq:MQ n0 mb H ow (AP M o) Q):W E0 lo (.call 75 [.ptr mb 0,.agg [.int .u8 o.k,.int .u8 o.d,.int .u8 o.b,.int .i64 o.a,.int .u8 o.y,.int .i64 o.r]]) H Q:=by
 have hlt:=h.lo _ h.om;have rm:=ae h.gm;obtain⟨h6,h6'⟩:=h.bv.len6;rw[c75];simp(disch:=omega) only[ai,↓ah,seval,LU,rm,ak,show ¬H.n=mb by omega,↓FR,FW];have k1:Keep H.n H (H.new (.cells false 56 6 [.int .u8 o.k,.int .u8 o.d,.int .u8 o.b,.int .i64 o.a,.int .u8 o.y,.int .i64 o.r])):=.new _ _;refine td o.b o.a (h.bf.unoff.keep k1) (h.bb.unoff.keep k1) h6 h6' (by rw[ac];omega) fun H2 v k2 f2=>?_;rw[iR M.t hne] at f2;have f2:Fresh _ H2 138 v (wT M o):=f2;have kk:Keep H.n H H2:=k1.trans (k2.lower (by rw[ac];omega));have hn2:=k2.1;rw[ac] at hn2;have g0:=k2.2 H.n (by rw[ac];omega) (by rw[ac];omega);rw[aj,if_pos rfl] at g0;have r0:=ae g0;have h2:=h.keep kk;have rm2:=ae h2.gm;have sv:=f2.sl;have ln:=sv.ln;clear f2 sv
 have h4:(wT M o).length≤4:=by
  have:=jc (aN M.t) (aG M.t) o.b o.a 4 (fun l hl=>h.bv.four l (eD hl)) (fun l hl=>h.bv.four l (cV hl))
  rw[iR M.t hne] at this;exact this
 unfold AP at hq;clear k1 k2 rm;by_cases hl:(wT M o).length=0
 ·rw[if_pos hl] at hq;simp(disch:=omega) only[ai,↓ah,seval,LU,↓ln,hl,↓FR,FW];exact hq.1 13 _ rfl (KeepO.of kk)
 rw[if_neg hl] at hq;simp(disch:=omega) only[ai,↓ah,seval,LU,↓ln,hl,r0,rm2,ak,↓FR,FW];refine Dw hne h.rk (by omega) (fun H3 k3 he=>?_) fun H3 k3 he=>?_
 ·rw[if_pos he] at hq;have hn3:=k3.1;simp(disch:=omega) only[ai,↓ah,seval,LU,↓FR,FW];exact hq.1 11 _ rfl (KeepO.of ((kk.trans (k3.lower (by omega))).trans (Keep.newPut.lower (by omega))))
 rw[if_neg (fun hx=>hx he)] at hq;have hn3:=k3.1;have g03:=(k3.2 H.n (by omega) (by omega)).trans g0;have k03:Keep H.n H H3:=kk.trans (k3.lower (by omega));have h3:=h.keep k03;have rm3:=ae h3.gm;have r03:=ae g03;have hs1:=zo hne h.rk;have hs2:=zo he h.rk;clear k3 kk r0 rm2 h2 g0 ln;unfold ST at hq;obtain⟨tb,htb⟩:∃tb,tb=lT o.b:=⟨_,rfl⟩;obtain⟨ta,hta⟩:∃ta,ta=lU o.b o.a M.rack:=⟨_,rfl⟩;rw[←htb,←hta] at hq he hs2⊢;clear htb hta;simp(disch:=omega) only[ai,↓ah,seval,LU,r03,rm3,ak,show ¬H3.n=mb by omega,show ¬H3.n=H.n by omega,show ¬mb=H3.n by omega,show ¬H.n=H3.n by omega,↓FR,FW];generalize hH_H4:Heap.put _ _ _=H4;have hnH4:H4.n=H3.n+1:=by rw[←hH_H4];rfl
 have g5:=congrArg (fun h0=>Heap.get h0 (H3.n)) hH_H4.symm;simp(disch:=omega) only[ai,↓ah,seval] at g5
 have kH4:Keep H3.n H3 H4:=⟨by omega,fun x hx _=>by
  have gx:=congrArg (fun h0=>Heap.get h0 x) hH_H4.symm;simp(disch:=omega) only[ai,↓ah,seval] at gx;exact gx⟩
 clear hH_H4;refine lN o.b o.a M.rack (by omega) fun H5 k5=>?_;have hn5:=k5.1;replace g5:=(k5.2 _ (by omega) (by omega)).trans g5;have k35:Keep H3.n H3 H5:=kH4.trans (k5.lower (by omega));have g05:=(k35.2 H.n (by omega) (by omega)).trans g03;have h5:=h3.keep k35;have r5:=ae g5;have rm5:=ae h5.gm;obtain⟨s1,e1⟩:∃s1,aD o.b o.a M.rack=s1:=⟨_,rfl⟩;rw[e1] at hq hs1⊢;clear r03 rm3 k5 kH4 g03 e1;simp(disch:=omega) only[ai,↓ah,seval,LU,r5,rm5,ak,↓FR,FW];refine lN tb ta M.rack (by omega) fun H6 k6=>?_;have hn6:=k6.1;replace g5:=(k6.2 _ (by omega) (by omega)).trans g5;replace g05:=(k6.2 _ (by omega) (by omega)).trans g05;have h6m:=h5.keep k6;have k06:Keep H.n H H6:=k03.trans ((k35.trans (k6.lower (by omega))).lower (by omega));obtain⟨s2,e2⟩:∃s2,aD tb ta M.rack=s2:=⟨_,rfl⟩;rw[e2] at hq hs2⊢;obtain⟨mn,hmn⟩:∃mn,(if s2 < s1 then s2 else s1)=mn:=⟨_,rfl⟩;rw[hmn] at hq;have hmb: -12≤mn∧mn≤178:=by rw[←hmn];split<;>omega
 have rm6:=ae h6m.gm;clear r5 rm5 k6 e2 h5 k35 h3 k03;simp(disch:=omega) only[ai,↓ah,seval,LU,hmn,rm6,ak,↓FR,FW];obtain⟨bt,hbt⟩:∃bt,mn+1=bt:=⟨_,rfl⟩;obtain⟨x5,hx5⟩:∃x5,H3.n=x5:=⟨_,rfl⟩;rw[hbt] at hq⊢;rw[hx5] at g5 hnH4⊢;clear hmn hmb hs1 hs2 hbt;refine aM (fun k fr H'=>∃i,i+k=6∧Keep H6.n H6 H'∧(∀(j:Nat) (hj:j < L.yl.length),j < i→(L.yl[j].y.inn&&L.yl[j].y.place==bt)=false)∧fr.marks=[]∧fr.tm.length=84∧fr.tm.getD 0 IV.undef=.ptr mb 0∧fr.tm.getD 3 IV.undef=.ptr H.n 0∧fr.tm.getD 5 IV.undef=.ptr x5 0∧fr.tm.getD 7 IV.undef=.int .i64 bt∧fr.tm.getD 51 IV.undef=.slice L.yb 0 6 6 true∧fr.tm.getD 52 IV.undef=.int .i64 6∧fr.tm.getD 53 IV.undef=.int .i64 i) ?_ 6 ⟨0,by omega,Keep.refl _ _,fun j hj h0=>absurd h0 (by omega),rfl,rfl,rfl,rfl,rfl,rfl,rfl,rfl,rfl⟩;rintro k ⟨tm,mk⟩ H' ⟨i,hik,hk,hno,rfl,htm,t0,t3,t5,t7,t51,t52,t53⟩ L1 hN hJ;have hn':=hk.1;have h7:=h6m.keep hk;rw[nz tm htm,t0,t3,t5,t7,t51,t52,t53];by_cases hi:i < 6
 ·have hyl:i < L.yl.length:=by rw[h.yn];exact hi
  have ry:=h7.readY hyl;rw[sS] at ry;by_cases hp:(L.yl[i].y.inn&&L.yl[i].y.place==bt)=true
  ·have hany:M.ys.any (fun y=>y.inn&&y.place==bt)=true:=by
    rw[List.any_eq_true];have hys:i < M.ys.length:=by rw[h.ysn];exact hi
    exact⟨M.ys[i],List.getElem_mem _,by rw[←h.ysI hyl hys];exact hp⟩
   rw[if_pos hany] at hq;obtain⟨hp1,hp2⟩:=Bool.and_eq_true_iff.1 hp;have hp3:L.yl[i].y.place=bt:=by simpa using hp2
   simp(disch:=omega) only[ai,↓ah,seval,Pa,ry,ak,hp1,hp3,hJ,↓FR,FW]
   exact hq.1 12 _ rfl (KeepO.of (k06.trans ((hk.trans (Keep.newPut.lower (by omega))).lower (by omega))))
  ·have hp:(L.yl[i].y.inn&&L.yl[i].y.place==bt)=false:=by simpa using hp
   have kn:∀o1 o2,Keep H6.n H6 ((H'.new o1).put H'.n o2):=fun o1 o2=>hk.trans (Keep.newPut.lower (by omega))
   have hno':∀(j:Nat) (hj:j < L.yl.length),j < i+1→(L.yl[j].y.inn&&L.yl[j].y.place==bt)=false:=fun j hj h1=>by
    rcases Nat.lt_or_ge j i with h2 | h2
    ·exact hno j hj h2
    ·have:j=i:=by omega
     subst this;exact hp
   cases hp1:L.yl[i].y.inn with
   | false=>
     simp(disch:=omega) only[ai,↓ah,seval,Pa,ry,ak,hp1,↓FR,FW]
     exact hN (k - 1) _ _ (by omega) ⟨i+1,by omega,kn _ _,hno',rfl,rfl,rfl,rfl,rfl,rfl,rfl,rfl,rfl⟩
   | true=>
     rw[hp1,Bool.true_and] at hp;have hp3:¬L.yl[i].y.place=bt:=by simpa using hp
     simp(disch:=omega) only[ai,↓ah,seval,Pa,ry,ak,hp1,hp3,↓FR,FW]
     exact hN (k - 1) _ _ (by omega) ⟨i+1,by omega,kn _ _,hno',rfl,rfl,rfl,rfl,rfl,rfl,rfl,rfl,rfl⟩
 ·have hany:¬M.ys.any (fun y=>y.inn&&y.place==bt)=true:=by
   rw[List.any_eq_true];rintro⟨y,hy,hp⟩;obtain⟨j,hj,rfl⟩:=List.mem_iff_getElem.1 hy;have hyl:j < L.yl.length:=by rw[h.yn];rw[h.ysn] at hj;exact hj
   rw[←h.ysI hyl hj] at hp;have hj6:j < 6:=by rw[h.ysn] at hj;exact hj
   rw[hno j hyl (by omega)] at hp;cases hp
  rw[if_neg hany] at hq;have g57:=(hk.2 x5 (by omega) (by omega)).trans g5;have g07:=(hk.2 H.n (by omega) (by omega)).trans g05;have r57:=ae g57;have r07:=ae g07;have rm7:=ae h7.gm;have hF:=jI M.t;have hB:=gJ h.bv.len;have k07:Keep H.n H H':=k06.trans (hk.lower (by omega));have hi6:i=6:=by omega
  clear hno h6m rm6 g5 g05 hk k06;simp(disch:=omega) only[ai,↓ah,seval,Pa,hJ,hi6,r57,r07,rm7,ak,↓FR,FW];refine Nr o.b o.a tb ta h7.bf.unoff h7.bb.unoff (by omega) (by omega) h6 h6' (Nat.le_refl _) (fun H8 k8 he8=>?_) fun H8 f' b' k8 he8 bd=>?_
  ·rw[if_pos he8] at hq;have hn8:=k8.1;generalize gB (aN M.t) (aG M.t) o.b o.a tb ta=e at he8 hq;simp(disch:=omega) only[ai,↓ah,seval,LU,bv,he8,↓FR,FW];exact hq.1 e _ rfl (KeepO.of (k07.trans ((k8.trans (Keep.newPut.lower (by omega))).lower (by omega))))
  ·rw[if_neg (by rw[he8];decide)] at hq;have hn8:=k8.1;obtain⟨hv8,_,hv9⟩:=QO h.bv he8;obtain⟨eF,eB⟩:=GY h.bv hne hv9;rw[eF,eB] at bd;have k08:Keep H.n H H8:=k07.trans (k8.lower (by omega));have ho:∀x∈ow,x < H'.n:=fun x hx=>by have:=(h7.lo x hx).2;omega
   have k9:Keep H8.n H8 ((H8.new (.cells false 26 2 [.nilSlice,.nilSlice])).put H8.n (.cells false 26 2 [f'.iv,b'.iv])):=Keep.newPut;have k0P:=k08.trans (k9.lower (by have:=k08.1;omega));have h9:=h.keep k0P;have h10:=h9.setM h.rk (Sl2F.onto (bd.1.keep k9) ho) (Sl2F.onto (bd.2.1.keep k9) ho) hv8;have gm8:=(h.keep k08).gm;have rm8:=ae gm8;clear bd eF eB r57 r07 rm7;simp(disch:=omega) only[ai,↓ah,seval,LU,bv,gm8,rm8,show ¬H8.n=mb by omega,show ¬mb=H8.n by omega,↓FR,FW];exact hq.2 _ _ ow _ rfl ((KeepO.of k0P).trans (KeepO.put h.om) fun x hx=>.inl hx) (fun _ hx=>hx) (fun _ hx=>.inl hx) h10
end Go.Iso.Gen
end
