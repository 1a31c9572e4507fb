/-
  machines that run.
-/
import Derived.Test.YtpnbiapmndbhgaaGreatDoorFnU
set_option linter.unusedSimpArgs false
set_option linter.unusedVariables false
set_option maxHeartbeats 16000000
set_option maxRecDepth 20000
set_option linter.defProp false
section
namespace Go.Iso.Gen
open Go.Iso
theorem yx{α β:Type}{f:Nat→α→β}{l:List α}{x:β}(h:x∈l.mapIdx f):∃i a,a∈l∧x=f i a:=by
 obtain⟨i,hi,rfl⟩:=List.mem_iff_getElem.1 h;rw[List.length_mapIdx] at hi;exact⟨i,l[i],bm _,by rw[Cb]⟩
theorem Qt{t:List (List Id)}(hv:Valid t)(r d p:Int):∀q∈j5 (aI t) r d p,OkP q:=by
 have key:∀q∈j6 (aI t) r d p,OkP q:=by
  intro q hq;unfold j6 at hq;obtain⟨l,hl,hq⟩:=List.mem_flatten.1 hq;obtain⟨i,st,hst,rfl⟩:=yx hl;unfold uz at hq;split at hq
  ·obtain⟨id,hid,rfl⟩:=List.mem_map.1 hq;refine⟨hv.named id (List.mem_flatten.2 ⟨st,dw hst,hid⟩),?_⟩
   show zA d=0∨zA d=1
   unfold zA;split<;>simp
  ·cases hq
 intro q hq;unfold j5 at hq;split at hq
 ·exact key q (List.mem_reverse.1 hq)
 ·exact key q hq
theorem Qu{t:List (List Id)}(hv:Valid t)(r d p:Int):(j5 (aI t) r d p).length≤1000:=by
 have h:=tJ (bs:=aI t) (fun x hx=>hv.four x (dw hx)) r d p (aI t).length (au _);rw[tK] at h;have hB:=hZ hv.len;unfold j5;split
 ·rw[j3];omega
 ·omega
theorem MU(fs bs:List (List Id))(r d:Int):∀c∈lh fs bs r d,c.s=1∨c.s= -1:=by
 have key:∀c∈jW fs bs r d,c.s=1∨c.s= -1:=by
  intro c hc;unfold jW at hc;obtain⟨l,hl,hc⟩:=List.mem_flatten.1 hc;obtain⟨i,st,hst,rfl⟩:=yx hl;unfold pj at hc;obtain⟨id,hid,hc⟩:=List.mem_flatMap.1 hc;obtain⟨x,hx,rfl⟩:=List.mem_map.1 hc;unfold IJ;split
  ·exact .inl rfl
  ·exact .inr rfl
 intro c hc;unfold lh at hc;split at hc
 ·exact key c (List.mem_reverse.1 hc)
 ·exact key c hc
def CrOk(cr:List (Id×Id×Int)):Prop:=∀e∈cr, -1048576≤e.2.2∧e.2.2≤1048576
theorem E1(a b:Id):∀(cr:List (Id×Id×Int)) (i:Nat) {j:Nat} {v:Int},vf a b cr i=some (j,v)→∃e∈cr,e.2.2=v
 | [],_,_,_,h=>by cases h
 | (x,y,n)::cr,i,j,v,h=>by
   unfold vf at h;split at h
   ·injection h with h;injection h with h1 h2;exact⟨_,rv,h2⟩
   ·obtain⟨e,he,hv⟩:=E1 a b cr (i+1) h;exact⟨e,eH _ he,hv⟩
theorem CrOk.val{cr:List (Id×Id×Int)}(h:CrOk cr)(a b:Id): -1048576≤lD cr a b∧lD cr a b≤1048576:=by
 unfold lD
 cases e:vf a b cr 0 with
 | none=>simp
 | some p=>
   obtain⟨j,v⟩:=p;obtain⟨x,hx,hv⟩:=E1 a b cr 0 e
   have:=h x hx
   simp only[cx,gQ];omega
theorem CrOk.set{cr:List (Id×Id×Int)}(h:CrOk cr)(a b:Id){n:Int}(hn: -1048576≤n∧n≤1048576):CrOk (sB cr a b n):=by
 unfold sB;split
 ·intro e he;rcases mX he with he | rfl
  ·exact h e he
  ·exact hn
 ·intro e he;rcases List.mem_append.1 he with he | he
  ·exact h e he
  ·rw[List.mem_singleton.1 he];exact hn
theorem CrOk.del{cr:List (Id×Id×Int)}(h:CrOk cr)(a b:Id):CrOk (sC cr a b):=by
 unfold sC;split
 ·exact fun e he=>h e ((kc cr _).subset he)
 ·exact h
theorem IS{M M':Mc}{c:Cr}(hc:CrOk M.cr)(h:zl M c=.ok M'):M'.rack=M.rack∧M'.t=M.t∧M'.ys=M.ys∧M'.rows=M.rows∧M'.fa=M.fa∧CrOk M'.cr:=by
 unfold zl at h;split at h
 ·cases h
 rename_i h1;split at h
 ·injection h with h;subst h;exact⟨rfl,rfl,rfl,rfl,rfl,hc.del _ _⟩
 ·injection h with h;subst h;exact⟨rfl,rfl,rfl,rfl,rfl,hc.set _ _ (by omega)⟩
theorem Fh{M:Mc}{c:Cr}{e:Int}(h:zl M c=.error e):e=3:=by
 unfold zl at h;split at h
 ·injection h with h;exact h.symm
 ·split at h<;>cases h
def iy:List Cr→Mc→Except Int Mc
 | [],M=>.ok M
 | c::l,M=>match zl M c with
   | .error e=>.error e
   | .ok M'=>iy l M'
theorem Fg:∀{l:List Cr} {M M':Mc},CrOk M.cr→iy l M=.ok M'→M'.rack=M.rack∧M'.t=M.t∧M'.ys=M.ys∧M'.rows=M.rows∧M'.fa=M.fa∧CrOk M'.cr
 | [],M,M',hc,h=>by injection h with h;subst h;exact⟨rfl,rfl,rfl,rfl,rfl,hc⟩
 | c::l,M,M',hc,h=>by
   unfold iy at h
   cases e:zl M c with
   | error x=>rw[e] at h;cases h
   | ok M1=>
     rw[e] at h;obtain⟨a1,a2,a3,a4,a5,a6⟩:=IS hc e;obtain⟨b1,b2,b3,b4,b5,b6⟩:=Fg a6 h;exact⟨b1.trans a1,b2.trans a2,b3.trans a3,b4.trans a4,b5.trans a5,b6⟩
def yg(t:List (List Id))(r d:Int)(y:Yn):Except Int Yn:=
 if y.inn=false then .ok y
 else if kI (aQ t) (aI t) r d y.place≠0 then .error (kI (aQ t) (aI t) r d y.place)
 else if 4096 < (nm y y.place (j5 (aI t) r d y.place)).pend.length then .error 3
 else .ok (nm y y.place (j5 (aI t) r d y.place))
def lU(t:List (List Id))(r d:Int):List Yn→Except Int (List Yn)
 | []=>.ok []
 | y::ys=>match yg t r d y with
   | .error e=>.error e
   | .ok y'=>match lU t r d ys with
     | .error e=>.error e
     | .ok ys'=>.ok (y'::ys')
theorem uw(t:List (List Id))(r d:Int)(y:Yn)(ys:List Yn):lU t r d (y::ys)=match yg t r d y with
  | .error e=>.error e
  | .ok y'=>match lU t r d ys with
    | .error e=>.error e
    | .ok ys'=>.ok (y'::ys'):=rfl
def stepM(M:Mc)(d:Int):Except Int Mc:=match lU M.t M.rack d M.ys with
 | .error e=>.error e
 | .ok ys=>if jg (aQ M.t) (aI M.t) M.rack d≠0 then .error (jg (aQ M.t) (aI M.t) M.rack d) else iy (lh (aQ M.t) (aI M.t) M.rack d) {M with ys:=ys}
def CB(tm:List IV)(h:tm.length=92):=(ch tm 92 h).trans (by simp only[List.range,List.range.loop,bB,bc];exact rfl)
theorem Tabs.keepO{H H':Heap}{ow:List Nat}(h:Tabs tabs H)(k:KeepO ow H H'){n0:Nat}(hn:tabs.length≤n0)(ho:∀x∈ow,n0≤x):Tabs tabs H':=
 h.keep k.1 fun i hi=>k.2 i (by have:=h.1;omega) fun hx=>by have:=ho i hx;omega
theorem Oq{n0 mb:Nat}{H:Heap}{ow:List Nat}{L:Ly}{M:Mc}(h:MI n0 mb H ow L M)(hcr:CrOk M.cr){v:SV}{l:List Cr}(hsg:∀c∈l,c.s=1∨c.s= -1)(hvb:∀H',KeepO ow H H'→Sl H' v l){tm:List IV}{lo:Nat}{Q:Out→Heap→Prop}(hlo:lo≤n0)(hn:n0≤H.n)
  (htm:tm.length=92) (t0:tm.getD 0 IV.undef=.ptr mb 0) (t79:tm.getD 79 IV.undef=v.iv) (t80:tm.getD 80 IV.undef=.int .i64 l.length) (t81:tm.getD 81 IV.undef=.int .i64 0)
  (hl:l.length≤1000000)
  (he:∀e H' tm',iy l M=.error e→KeepO ow H H'→tm'.length=92→tm'.getD 4 IV.undef=.int .i64 e→Q (.ex (.jmp .ret) ⟨tm',[]⟩) H')
  (hq:∀M' H' ow' L' tm',iy l M=.ok M'→KeepO ow H H'→(∀x∈ow,x∈ow')→(∀x∈ow',x∈ow∨H.n≤x)→MI n0 mb H' ow' L' M'→tm'.length=92→Q (.ex (.jmp (.exit 2)) ⟨tm',[]⟩) H'):
  W E0 lo (.code (.loop Dn) none ⟨tm,[]⟩) H Q:=by
 refine aO (fun k fr H'=>∃(i:Nat) (ow':List Nat) (L':Ly) (M':Mc),i+k=l.length∧KeepO ow H H'∧(∀x∈ow,x∈ow')∧(∀x∈ow',x∈ow∨H.n≤x)∧MI n0 mb H' ow' L' M'∧CrOk M'.cr∧iy l M=iy (l.drop i) M'∧fr.marks=[]∧fr.tm.length=92∧fr.tm.getD 0 IV.undef=.ptr mb 0∧fr.tm.getD 79 IV.undef=v.iv∧fr.tm.getD 80 IV.undef=.int .i64 l.length∧fr.tm.getD 81 IV.undef=.int .i64 i) ?_ l.length
  ⟨0,ow,L,M,by omega,KeepO.refl _ _,fun _ hx=>hx,fun _ hx=>.inl hx,h,hcr,rfl,rfl,htm,t0,t79,t80,t81⟩
 clear htm t0 t79 t80 t81;rintro k ⟨tm,mk⟩ H' ⟨i,ow',L',M',hik,hk,ha,hb,hM,hc,hadd,rfl,htm,t0,t79,t80,t81⟩ L1 hN hJ;have hv:=hvb H' hk;have hn':=hk.1;rw[CB tm htm,t0,t79,t80,t81];by_cases hi:i < l.length
 ·have r1:=hv.read amw i hi;have hd:l.drop i=l[i]::l.drop (i+1):=pD hi;have hsi:=hsg _ (bm hi);simp(disch:=omega) only[ak,↓aj,seval,oa,↓hv.idx,r1,apU,aq,↓FR,FW];have kN:Keep H'.n H' ((H'.new (.cells false 248 5 [.int .u8 0,.int .i64 0,.int .u8 0,.int .i64 0,.int .i64 0])).put H'.n (.cells false 248 5 [.int .u8 l[i].a.y,.int .i64 l[i].a.n,.int .u8 l[i].b.y,.int .i64 l[i].b.n,.int .i64 l[i].s])):=Keep.newPut;refine aew (hM.keep kN) hsi (hc.val _ _) hlo (by rw[ai,ac];omega) ⟨fun e H2 he2 k2=>?_,fun M2 H2 ow2 L2 he2 k2 ha2 hb2 hM2=>?_⟩
  ·have hz:=Fh he2;subst hz;have hk2:=(hk.trans (KeepO.of (ow:=ow') kN) hb).trans k2 fun x hx=>hb x hx;have hae:iy l M=.error 3:=by rw[hadd,hd];unfold iy;rw[he2]
   simp(disch:=omega) only[ak,↓aj,seval,oa,hJ,↓FR,FW]
   exact he 3 _ _ hae hk2 rfl rfl
  ·have hk2:=(hk.trans (KeepO.of (ow:=ow') kN) hb).trans k2 fun x hx=>hb x hx
   have hb2':∀x∈ow2,x∈ow∨H.n≤x:=fun x hx=>by
    rcases hb2 x hx with h | h
    ·exact hb x h
    ·rw[ai,ac] at h;right;omega
   have hae:iy l M=iy (l.drop (i+1)) M2:=by
                                                  rw[hadd,hd];conv=>lhs;unfold iy
                                                  rw[he2]
   simp(disch:=omega) only[ak,↓aj,seval,oa,↓FR,FW]
   exact hN (k - 1) _ _ (by omega) ⟨i+1,ow2,L2,M2,by omega,hk2,fun x hx=>ha2 x (ha x hx),hb2',hM2,(IS hc he2).2.2.2.2.2,hae,rfl,rfl,rfl,rfl,rfl,rfl⟩
 ·have hae:iy l M=.ok M':=by rw[hadd,D2 (by omega)];rfl
  simp(disch:=omega) only[ak,↓aj,seval,oa,hJ]
  exact hq M' H' ow' L' _ hae hk ha hb hM rfl
theorem DG{n0 mb:Nat}{H:Heap}{ow:List Nat}{L:Ly}{M:Mc}(h:MI n0 mb H ow L M)(ht:Tabs tabs H)(hn1:tabs.length≤n0)(hcr:CrOk M.cr){d:Int}(hd:d=0∨d=1){lo:Nat}{Q:Out→Heap→Prop}(hlo:lo≤n0)(hn:n0≤H.n)
  (hq:MQ n0 mb H ow (stepM M d) Q):W E0 lo (.call 124 [.ptr mb 0,.int .u8 d]) H Q:=by
 have rm:=af h.gm;have hlt:=h.lo _ h.om;obtain⟨h6,h6'⟩:=h.bv.len6;have hF:=jO M.t;have hB:=hZ h.bv.len;rw[avF];simp(disch:=omega) only[ak,↓aj,seval,ao7,rm,aq,↓FR,FW]
 refine aO (fun k fr H'=>∃(i:Nat) (L':Ly) (done:List Yn),i+k=6∧KeepO ow H H'∧MI n0 mb H' ow L' {M with ys:=done++M.ys.drop i}∧L'.yb=L.yb∧done.length=i∧
   (∀rest,lU M.t M.rack d (M.ys.drop i)=.ok rest→lU M.t M.rack d M.ys=.ok (done++rest))∧(∀e,lU M.t M.rack d (M.ys.drop i)=.error e→lU M.t M.rack d M.ys=.error e)∧fr.marks=[]∧fr.tm.length=92∧fr.tm.getD 0 IV.undef=.ptr mb 0∧fr.tm.getD 1 IV.undef=.int .u8 d∧fr.tm.getD 17 IV.undef=.slice L.yb 0 6 6 true∧fr.tm.getD 18 IV.undef=.int .i64 6∧fr.tm.getD 19 IV.undef=.int .i64 i) ?_ 6
  ⟨0,L,[],by omega,KeepO.refl _ _,h,rfl,rfl,fun _ h=>h,fun _ h=>h,rfl,rfl,rfl,rfl,rfl,rfl,rfl⟩
 clear rm;rintro k ⟨tm,mk⟩ H' ⟨i,L',done,hik,hk,hM,hyb,hdl,hp1,hp2,rfl,htm,t0,t1,t17,t18,t19⟩ L1 hN hJ;have hn':=hk.1;rw[CB tm htm,t0,t1,t17,t18,t19];by_cases hi:i < 6
 ·have hyl:i < L'.yl.length:=by rw[hM.yn];exact hi
  have hys:i < M.ys.length:=by rw[h.ysn];exact hi
  have hdr:M.ys.drop i=M.ys[i]::M.ys.drop (i+1):=pD hys
  have hyi:L'.yl[i].y=M.ys[i]:=by
   have hlen2:i < (done++M.ys.drop i).length:=by rw[aW,iV];omega
   have:=hM.ysI hyl hlen2
   rw[this,Aq (by omega),List.getElem_drop];congr 1;omega
  have ry:=hM.readY hyl;rw[uH,hyb] at ry;have hokY:OkY L'.yl[i].y:=h.yo _ (by rw[hyi];exact bm _);have hlty:=hM.lo _ hM.oy;rw[hyb] at hlty;have hltm:=hM.lo _ hM.om;rw[hdr] at hp1 hp2;rw[uw] at hp1 hp2;rw[←hyi] at hp1 hp2;have kN:∀o1 o2,Keep H'.n H' ((H'.new o1).put H'.n o2):=fun o1 o2=>Keep.newPut
  cases hin:L'.yl[i].y.inn with
  | false=>
    have hpy:yg M.t M.rack d L'.yl[i].y=.ok L'.yl[i].y:=by unfold yg;rw[if_pos hin]
    rw[hpy] at hp1 hp2;simp only at hp1 hp2
    have hM2:MI n0 mb H' ow L' {M with ys:=(done++[L'.yl[i].y])++M.ys.drop (i+1)}:=by
     rw[cj,List.singleton_append,hyi,←hdr];exact hM
    simp(disch:=omega) only[ak,↓aj,seval,oa,ry,aq,hin,↓FR,FW]
    exact hN (k - 1) _ _ (by omega) ⟨i+1,L',done++[L'.yl[i].y],by omega,hk.trans (KeepO.of (ow:=ow) (kN _ _)) fun x hx=>.inl hx,hM2.keep (kN _ _),hyb,by rw[aW,hdl];rfl,
     fun rest hr=>by have:=hp1 (L'.yl[i].y::rest) (by rw[hr]);rw[this,cj];rfl,fun e hr=>hp2 e (by rw[hr]),rfl,rfl,rfl,rfl,rfl,rfl,rfl⟩
  | true=>
    have htH:=Tabs.keepO ht hk hn1 fun x hx=>(h.lo x hx).1;have hMk:=hM.keep (kN (.cells false 133 5 [.bool false,.int .i64 0,.int .i64 0,.bool false,.nilSlice]) (.cells false 133 5 [.bool true,.int .i64 L'.yl[i].y.place,.int .i64 L'.yl[i].y.count,.bool L'.yl[i].y.new,L'.yl[i].v.iv]));have rm:=af hM.gm
    have hpy:yg M.t M.rack d L'.yl[i].y=if kI (aQ M.t) (aI M.t) M.rack d L'.yl[i].y.place≠0 then .error (kI (aQ M.t) (aI M.t) M.rack d L'.yl[i].y.place)
     else if 4096 < (nm L'.yl[i].y L'.yl[i].y.place (j5 (aI M.t) M.rack d L'.yl[i].y.place)).pend.length then .error 3 else .ok (nm L'.yl[i].y L'.yl[i].y.place (j5 (aI M.t) M.rack d L'.yl[i].y.place)):=by unfold yg;rw[if_neg (by rw[hin];decide)]
    simp(disch:=omega) only[ak,↓aj,seval,oa,ry,rm,aq,hin,show ¬H'.n=mb by omega,↓FR,FW]
    refine NF M.rack d L'.yl[i].y.place (htH.keep' (kN _ _)) (show Sl2 _ L'.f (aQ M.t) from hMk.bf.unoff) (show Sl2 _ L'.b (aI M.t) from hMk.bb.unoff) (by omega) (by omega) h6 h6' (by rw[ai,ac];omega) (by omega) (fun H3 k3 he=>?_) fun H3 w k3 he f3=>?_
    ·have hme:stepM M d=.error (kI (aQ M.t) (aI M.t) M.rack d L'.yl[i].y.place):=by
      unfold stepM;rw[hp2 _ (by rw[hpy,if_pos he])]
     rw[hme] at hq;generalize kI (aQ M.t) (aI M.t) M.rack d L'.yl[i].y.place=e at he hq;simp(disch:=omega) only[ak,↓aj,seval,oa,he,hJ,↓FR,FW];exact hq.1 e _ rfl (hk.trans (KeepO.of (ow:=ow) ((kN _ _).trans (k3.lower (by rw[ai,ac];omega)))) fun x hx=>.inl hx)
    ·rw[if_neg (fun h=>h he)] at hpy;have hn3:=k3.1;rw[ai,ac] at hn3;have g3:=k3.2 H'.n (by rw[ai,ac];omega) (by rw[ai,ac];omega);rw[ae,if_pos rfl] at g3;have kk:Keep H'.n H' H3:=(kN _ _).trans (k3.lower (by rw[ai,ac];omega));have hM3:=hM.keep kk;have r3:=af g3;have rm3:=af hM3.gm;have hv3:=(hM3.yd _ (bm hyl)).unoff;have su:=f3.sl;have hle:=Qu h.bv M.rack d L'.yl[i].y.place;have hmo:=Qt h.bv M.rack d L'.yl[i].y.place;have hodd:=hokY.pl hin;generalize j5 (aI M.t) M.rack d L'.yl[i].y.place=ml at *;clear rm hMk k3 ry;simp(disch:=omega) only[ak,↓aj,seval,oa,r3,rm3,hyb,aq,↓FR,FW];have hag:(IV.agg [.bool true,.int .i64 L'.yl[i].y.place,.int .i64 L'.yl[i].y.count,.bool L'.yl[i].y.new,L'.yl[i].v.iv])=.agg (mL L'.yl[i].y L'.yl[i].v):=by unfold mL;rw[hin]
     rw[hag];refine afS hokY hodd hv3 su (by omega) hmo (by omega) (fun H4 e k4 hc=>?_) fun H4 b4 k4 _ hle4 hb4 o4=>?_
     ·obtain⟨hlong,rfl⟩:4096 < (nm L'.yl[i].y L'.yl[i].y.place ml).pend.length∧e=3:=by
       rcases hc with⟨h1,_⟩ | ⟨_,h2,h3⟩
       ·rw[hin] at h1;cases h1
       ·exact⟨h2,h3⟩
      have hme:stepM M d=.error 3:=by
       unfold stepM;rw[hp2 _ (by rw[hpy,if_pos hlong])]
      rw[hme] at hq;have hM4:=hM3.keep k4;have gy4:=hM4.fullY;rw[hyb] at gy4;have hfl:(aD L'.yl).length=30:=by rw[aw,hM.yn];rfl
      simp(disch:=omega) only[ak,↓aj,seval,oa,mL,gy4,hfl,hJ,↓FR,FW]
      refine hq.1 3 _ rfl ((hk.trans (KeepO.of (ow:=ow) (kk.trans (k4.lower (by omega)))) fun x hx=>.inl hx).trans (KeepO.put h.oy) fun x hx=>.inl hx)
     ·rw[if_neg (by omega)] at hpy;rw[hpy] at hp1 hp2;simp only at hp1 hp2;have hM4:=hM3.keep k4;have gy4:=hM4.fullY;rw[hyb] at gy4;have hfl:(aD L'.yl).length=30:=by rw[aw,hM.yn];rfl
      have hb4':b4∉ow:=fun hx=>by have:=(hM.lo _ hx).2;omega
      have h5:=hM4.setY hi (Ql hokY hodd hin hmo hle4) (v:=.sl b4 0 (nm L'.yl[i].y L'.yl[i].y.place ml).pend.length (nm L'.yl[i].y L'.yl[i].y.place ml).pend.length true) ((o4.sl true).onto fun _=>hb4');rw[hyb] at h5
      have hset:(done++M.ys.drop i).set i (nm L'.yl[i].y L'.yl[i].y.place ml)=(done++[nm L'.yl[i].y L'.yl[i].y.place ml])++M.ys.drop (i+1):=by
       rw[hdr,List.set_append_right _ _ (by omega),hdl,Nat.sub_self,List.set_cons_zero,cj];rfl
      have h5:MI n0 mb _ ow _ {M with ys:=(done++M.ys.drop i).set i (nm L'.yl[i].y L'.yl[i].y.place ml)}:=h5;rw[hset] at h5;clear hM3 su hv3 o4 hmo f3 rm3;simp(disch:=omega) only[ak,↓aj,seval,oa,mL,gy4,hfl,↓FR,FW]
      exact hN (k - 1) _ _ (by omega) ⟨i+1,_,done++[nm L'.yl[i].y L'.yl[i].y.place ml],by omega,
       (hk.trans (KeepO.of (ow:=ow) (kk.trans (k4.lower (by omega)))) fun x hx=>.inl hx).trans (KeepO.put h.oy) fun x hx=>.inl hx,h5,rfl,by rw[aW,hdl];rfl,
       fun rest hr=>by have:=hp1 (nm L'.yl[i].y L'.yl[i].y.place ml::rest) (by rw[hr]);rw[this,cj];rfl,fun e hr=>hp2 e (by rw[hr]),rfl,rfl,rfl,rfl,rfl,rfl,rfl⟩
 ·have hdn:M.ys.drop i=[]:=D2 (by rw[h.ysn];omega);rw[hdn] at hM hp1 hp2;rw[ip] at hM;have hpp:=hp1 [] rfl;rw[ip] at hpp;unfold stepM at hq;rw[hpp] at hq;simp only at hq;have hi6:i=6:=by omega
  have htH:=Tabs.keepO ht hk hn1 fun x hx=>(h.lo x hx).1;have rm:=af hM.gm;clear hp1 hp2 hN;simp(disch:=omega) only[ak,↓aj,seval,oa,hi6,hJ,rm,aq,↓FR,FW];refine Qd M.rack d htH (show Sl2 _ L'.f (aQ M.t) from hM.bf.unoff) (show Sl2 _ L'.b (aI M.t) from hM.bb.unoff) (by omega) (by omega) h6 h6' (by omega) (by omega) (fun H3 k3 he=>?_) fun H3 v k3 he f3=>?_
  ·rw[if_pos he] at hq;generalize jg (aQ M.t) (aI M.t) M.rack d=e at he hq;simp(disch:=omega) only[ak,↓aj,seval,ao7,he,↓FR,FW];exact hq.1 e _ rfl (hk.trans (KeepO.of (ow:=ow) k3) fun x hx=>.inl hx)
  ·rw[if_neg (fun h=>h he)] at hq;have hM3:=hM.keep k3;have hn3:=k3.1;have su:=f3.sl;have hk3:KeepO ow H H3:=hk.trans (KeepO.of (ow:=ow) k3) fun x hx=>.inl hx
   have hvb:∀H5,KeepO ow H3 H5→Sl H5 v (lh (aQ M.t) (aI M.t) M.rack d):=fun H5 k5=>by
    rcases f3 with⟨rfl,e⟩ | ⟨b,rfl,hb,o⟩
    ·rw[e];exact Sl.empty
    ·exact(o.keepO k5 fun hx=>by have:=(hM.lo _ hx).2;omega).sl true
   have hsg:=MU (aQ M.t) (aI M.t) M.rack d;have hl:(lh (aQ M.t) (aI M.t) M.rack d).length≤1000000:=by have:=zY (fs:=aQ M.t) (bs:=aI M.t) (by omega) (fun x hx=>h.bv.four x (fl hx)) (fun x hx=>h.bv.four x (dw hx)) M.rack d;omega
   generalize lh (aQ M.t) (aI M.t) M.rack d=l at *;simp(disch:=omega) only[ak,↓aj,seval,vO,vN,vM,vL,vK,vJ,vI,vH,vG,vF,qU,qT,qS,qR,qQ,qP,qO,qN,qM,qL,qK,qJ,qI,A8,HP,↓su.ln,↓FR,FW];refine Oq (M:={M with ys:=done}) hM3 hcr hsg hvb hlo (by omega) rfl rfl rfl rfl rfl hl (fun e H5 Pa he5 k5 hl5 h45=>?_) fun M5 H5 ow5 L5 Pa he5 k5 ha5 hb5 hM5 hl5=>?_
   ·rw[CB Pa hl5,h45];simp(disch:=omega) only[ak,↓aj,seval,vO,vN,vM,vL,vK,vJ,vI,vH,vG,vF,qU,qT,qS,qR,qQ,qP,qO,qN,qM,qL,qK,qJ,qI,A8,HP];exact hq.1 e _ he5 (hk3.trans k5 fun x hx=>.inl hx)
   ·rw[CB Pa hl5];simp(disch:=omega) only[ak,↓aj,seval,vO,vN,vM,vL,vK,vJ,vI,vH,vG,vF,qU,qT,qS,qR,qQ,qP,qO,qN,qM,qL,qK,qJ,qI,A8,HP];refine hq.2 _ _ _ _ he5 (hk3.trans k5 fun x hx=>.inl hx) ha5 (fun x hx=>?_) hM5;rcases hb5 x hx with h | h
    ·exact .inl h
    ·right;omega
def anx(tm:List IV)(h:tm.length=42):=(ch tm 42 h).trans (by simp only[List.range,List.range.loop,bB,bc];exact rfl)
def m8:Nat→Mc→Int→Except Int Mc
 | 0,M,_=>.ok M
 | n+1,M,r=>if M.rack=r then .ok M else match stepM M (if r < M.rack then 0 else 1) with
   | .error e=>.error e
   | .ok M'=>m8 n {M' with rack:=if r < M.rack then M.rack - 1 else M.rack+1} r
theorem jG(n:Nat)(M:Mc)(r:Int):m8 (n+1) M r=if M.rack=r then .ok M else match stepM M (if r < M.rack then 0 else 1) with
  | .error e=>.error e
  | .ok M'=>m8 n {M' with rack:=if r < M.rack then M.rack - 1 else M.rack+1} r:=rfl
theorem Qr(n:Nat){M:Mc}{r:Int}(h:M.rack=r):m8 n M r=.ok M:=by
 cases n with
 | zero=>rfl
 | succ n=>rw[jG,if_pos h]
theorem qY{M M':Mc}{d:Int}(hc:CrOk M.cr)(h:stepM M d=.ok M'):M'.rack=M.rack∧M'.t=M.t∧M'.rows=M.rows∧M'.fa=M.fa∧CrOk M'.cr:=by
 unfold stepM at h;split at h
 ·cases h
 ·split at h
  ·cases h
  ·obtain⟨a1,a2,a3,a4,a5,a6⟩:=Fg (by exact hc) h;exact⟨a1,a2,a4,a5,a6⟩
theorem tn{M:Mc}{d e:Int}(h:stepM M d=.error e):¬e=0:=by
 have adds:∀(l:List Cr) (M:Mc) (e:Int),iy l M=.error e→¬e=0:=by
  intro l
  induction l with
  | nil=>intro M e h;cases h
  | cons c l ih=>
    intro M e h;unfold iy at h;split at h
    ·rename_i h2;injection h with h;subst h;rw[Fh h2];decide
    ·exact ih _ _ h
 have pass:∀(l:List Yn) (e:Int),lU M.t M.rack d l=.error e→¬e=0:=by
  intro l
  induction l with
  | nil=>intro e h;cases h
  | cons y l ih=>
    intro e h;rw[uw] at h;split at h
    ·rename_i h2;injection h with h;subst h;unfold yg at h2;split at h2
     ·cases h2
     split at h2
     ·injection h2 with h2;subst h2;assumption
     split at h2
     ·injection h2 with h2;subst h2;decide
     ·cases h2
    ·split at h
     ·rename_i h2;injection h with h;subst h;exact ih _ h2
     ·cases h
 unfold stepM at h;split at h
 ·rename_i h2;injection h with h;subst h;exact pass _ _ h2
 ·split at h
  ·injection h with h;subst h;assumption
  ·exact adds _ _ _ h
theorem Ek:∀(n:Nat) {M M':Mc} {r:Int},CrOk M.cr→m8 n M r=.ok M'→M'.t=M.t∧M'.rows=M.rows∧M'.fa=M.fa∧CrOk M'.cr
 | 0,M,M',r,hc,h=>by injection h with h;subst h;exact⟨rfl,rfl,rfl,hc⟩
 | n+1,M,M',r,hc,h=>by
   rw[jG] at h;split at h
   ·injection h with h;subst h;exact⟨rfl,rfl,rfl,hc⟩
   ·split at h
    ·cases h
    ·rename_i M1 h1;obtain⟨_,a2,a3,a4,a5⟩:=qY hc h1;obtain⟨b1,b2,b3,b4⟩:=Ek n (by exact a5) h;exact⟨b1.trans a2,b2.trans a3,b3.trans a4,b4⟩
def It(M:Mc)(o:Opn):Except Int Mc:=m8 8 M o.r
theorem NN{n0 mb:Nat}{H:Heap}{ow:List Nat}{L:Ly}{M:Mc}(h:MI n0 mb H ow L M)(ht:Tabs tabs H)(hn1:tabs.length≤n0)(hcr:CrOk M.cr){o:Opn}(hr: -4≤o.r∧o.r≤4){lo:Nat}{Q:Out→Heap→Prop}(hlo:lo≤n0)(hn:n0≤H.n)
  (hq:MQ n0 mb H ow (It M o) Q):W E0 lo (.call 71 [.ptr mb 0,.agg [.int .u8 o.k,.int .u8 o.d,.int .u8 o.b,.int .i64 o.a,.int .u8 o.y,.int .i64 o.r]]) H Q:=by
 unfold It at hq;rw[c71];simp(disch:=omega) only[ak,↓aj,seval,B71,aq,↓FR,FW];generalize hH_H1:Heap.new _ _=H1;have hnH1:H1.n=H.n+1:=by rw[←hH_H1];rfl
 have g0:=congrArg (fun h0=>Heap.get h0 (H.n)) hH_H1.symm;simp(disch:=omega) only[ak,↓aj,seval] at g0
 have kH1:Keep H.n H H1:=⟨by omega,fun x hx _=>by
  have gx:=congrArg (fun h0=>Heap.get h0 x) hH_H1.symm;simp(disch:=omega) only[ak,↓aj,seval] at gx;exact gx⟩
 clear hH_H1;have h1:=h.keep kH1;have ht1:=ht.keep' kH1;have hrk:=h.rk;have hq1:=hq.after (KeepO.of kH1) (fun _ hx=>hx) fun _ hx=>.inl hx
 refine aO (fun k fr H'=>∃(ow':List Nat) (L':Ly) (M':Mc),M'.rack - o.r≤k∧o.r - M'.rack≤k∧KeepO ow H1 H'∧(∀x∈ow,x∈ow')∧(∀x∈ow',x∈ow∨H1.n≤x)∧MI n0 mb H' ow' L' M'∧CrOk M'.cr∧m8 8 M o.r=m8 k M' o.r∧fr.marks=[]∧fr.tm.length=42∧fr.tm.getD 0 IV.undef=.ptr mb 0∧fr.tm.getD 3 IV.undef=.ptr H.n 0) ?_ 8
  ⟨ow,L,M,by omega,by omega,KeepO.refl _ _,fun _ hx=>hx,fun _ hx=>.inl hx,h1,hcr,rfl,rfl,rfl,rfl,rfl⟩
 rintro k ⟨tm,mk⟩ H' ⟨ow',L',M',hk1,hk2,hk,ha,hb,hM,hc,hmv,rfl,htm,t0,t3⟩ L1 hN hJ;have hx0:H.n∉ow:=fun hx=>by have:=(h.lo _ hx).2;omega
 have hx0':H.n∉ow':=fun hx=>by rcases hb _ hx with hx | hx;exact hx0 hx;omega
 have hn':=hk.1;have g0':=(hk.2 H.n (by omega) hx0).trans g0;have r0:=af g0';have rm:=af hM.gm;have hrk':=hM.rk;rw[anx tm htm,t0,t3];by_cases he:M'.rack=o.r
 ·have hok:m8 8 M o.r=.ok M':=by rw[hmv,Qr _ he]
  rw[hok] at hq1;simp(disch:=omega) only[ak,↓aj,seval,HR,r0,rm,he,aq,hJ,↓FR,FW];exact hq1.2 _ _ _ _ rfl hk ha hb hM
 ·obtain⟨n,rfl⟩:∃n,k=n+1:=⟨k - 1,by omega⟩
  rw[jG n M',if_neg he] at hmv;have htH:=Tabs.keepO ht1 hk hn1 fun x hx=>(h.lo x hx).1;have hmbo:mb≠H.n:=fun e=>hx0' (e▸hM.om);by_cases hlt:o.r < M'.rack
  ·rw[if_pos hlt,if_pos hlt] at hmv;simp(disch:=omega) only[ak,↓aj,seval,HR,r0,rm,he,hlt,aq,↓FR,FW];refine DG hM htH hn1 hc (.inl rfl) hlo (by omega) ⟨fun e H2 he2 k2=>?_,fun M2 H2 ow2 L2 he2 k2 ha2 hb2 hM2=>?_⟩
   ·rw[he2] at hmv;simp only at hmv;rw[hmv] at hq1;have hz:=tn he2;simp(disch:=omega) only[ak,↓aj,seval,HR,hJ,↓FR,FW];exact hq1.1 e _ rfl (hk.trans k2 fun x hx=>hb x hx)
   ·rw[he2] at hmv;simp only at hmv;obtain⟨a1,a2,a3,a4,a5⟩:=qY hc he2;have gm2:=hM2.gm;have hlm:=(hM2.lo _ hM2.om).1;have h3:=hM2.setM (r:=M'.rack - 1) (by omega) hM2.bf hM2.bb hM2.bv;simp(disch:=omega) only[ak,↓aj,seval,HR,gm2,↓FR,FW]
    exact hN n _ _ (by omega) ⟨ow2,_,_,by show M'.rack - 1 - o.r≤_;omega,by show o.r - (M'.rack - 1)≤_;omega,(hk.trans k2 fun x hx=>hb x hx).trans (KeepO.put (ow:=ow2) hM2.om) fun x hx=>by
      rcases hb2 x hx with h | h
      ·exact hb x h
      ·right;omega,fun x hx=>ha2 x (ha x hx),fun x hx=>by
      rcases hb2 x hx with h | h
      ·exact hb x h
      ·right;omega,h3,a5,hmv,rfl,rfl,rfl,rfl⟩
  ·rw[if_neg hlt,if_neg hlt] at hmv;simp(disch:=omega) only[ak,↓aj,seval,HR,r0,rm,he,hlt,aq,↓FR,FW];refine DG hM htH hn1 hc (.inr rfl) hlo (by omega) ⟨fun e H2 he2 k2=>?_,fun M2 H2 ow2 L2 he2 k2 ha2 hb2 hM2=>?_⟩
   ·rw[he2] at hmv;simp only at hmv;rw[hmv] at hq1;have hz:=tn he2;simp(disch:=omega) only[ak,↓aj,seval,HR,hJ,↓FR,FW];exact hq1.1 e _ rfl (hk.trans k2 fun x hx=>hb x hx)
   ·rw[he2] at hmv;simp only at hmv;obtain⟨a1,a2,a3,a4,a5⟩:=qY hc he2;have gm2:=hM2.gm;have hlm:=(hM2.lo _ hM2.om).1;have h3:=hM2.setM (r:=M'.rack+1) (by omega) hM2.bf hM2.bb hM2.bv;simp(disch:=omega) only[ak,↓aj,seval,HR,gm2,↓FR,FW]
    exact hN n _ _ (by omega) ⟨ow2,_,_,by show M'.rack+1 - o.r≤_;omega,by show o.r - (M'.rack+1)≤_;omega,(hk.trans k2 fun x hx=>hb x hx).trans (KeepO.put (ow:=ow2) hM2.om) fun x hx=>by
      rcases hb2 x hx with h | h
      ·exact hb x h
      ·right;omega,fun x hx=>ha2 x (ha x hx),fun x hx=>by
      rcases hb2 x hx with h | h
      ·exact hb x h
      ·right;omega,h3,a5,hmv,rfl,rfl,rfl,rfl⟩
def Fi:List (IV×IV×Nat):=[(.int .u8 1,.fn 69 [] [],0),(.int .u8 2,.fn 70 [] [],1),(.int .u8 3,.fn 71 [] [],2),(.int .u8 4,.fn 72 [] [],3),
 (.int .u8 5,.fn 73 [] [],4),(.int .u8 6,.fn 74 [] [],5),(.int .u8 7,.fn 75 [] [],6),(.int .u8 8,.fn 76 [] [],7)]
theorem Hl{H:Heap}{lo:Nat}{Q:Out→Heap→Prop}(hlo:lo≤H.n)(h:∀H',Keep H.n H H'→H'.get H.n=some (.map Fi 8)→H.n < H'.n→Q (.val (.map H.n)) H'):W E0 lo (.call 29 []) H Q:=by
 refine W.pure bu hlo ?_;rw[c29];simp(disch:=omega) only[ak,↓aj,seval,B29,aF,aK,eT,cp,aX,IV.cells,bO,rQ,isK];refine fun hk=>h _ hk ?_ ?_
 ·simp only[ae,al,if_true];rfl
 ·simp only[ai,ac];omega
def doM(M:Mc)(o:Opn):Except Int Mc:=
 if Qf o≠0 then .error (Qf o)
 else if o.k=1 then inM M o else if o.k=2 then NE M o else if o.k=3 then It M o else if o.k=4 then Ew M o
 else if o.k=5 then DB M o else if o.k=6 then El M o else if o.k=7 then Dv M o else EU M o
theorem apS{n0 mb:Nat}{H:Heap}{ow:List Nat}{L:Ly}{M:Mc}(h:MI n0 mb H ow L M)(ht:Tabs tabs H)(hn1:tabs.length≤n0)(hcr:CrOk M.cr)(hrl:M.rows.flatten.length≤2048)(hfa:M.fa.length≤1000000){ab:Nat}(hab:H.get ab=some (.map Fi 8)){o:Opn}{lo:Nat}{Q:Out→Heap→Prop}(hlo:lo≤n0)(hn:n0≤H.n)(hal:ab < H.n)
  (hq:MQ n0 mb H ow (doM M o) Q):W E0 lo (.call 30 [.ptr mb 0,.map ab,.agg [.int .u8 o.k,.int .u8 o.d,.int .u8 o.b,.int .i64 o.a,.int .u8 o.y,.int .i64 o.r]]) H Q:=by
 unfold doM at hq;rw[c30];simp(disch:=omega) only[ak,↓aj,seval,uW,aq,↓FR,FW];generalize hH_H1:Heap.new _ _=H1;have hnH1:H1.n=H.n+1:=by rw[←hH_H1];rfl
 have g0:=congrArg (fun h0=>Heap.get h0 (H.n)) hH_H1.symm;simp(disch:=omega) only[ak,↓aj,seval] at g0
 have kH1:Keep H.n H H1:=⟨by omega,fun x hx _=>by
  have gx:=congrArg (fun h0=>Heap.get h0 x) hH_H1.symm;simp(disch:=omega) only[ak,↓aj,seval] at gx;exact gx⟩
 clear hH_H1;refine Gw o (by omega) fun H2 k2=>?_;have hn2:=k2.1;replace g0:=(k2.2 _ (by omega) (by omega)).trans g0;have kk:Keep H.n H H2:=kH1.trans (k2.lower (by omega));have hq2:=hq.after (KeepO.of kk) (fun _ hx=>hx) fun _ hx=>.inl hx;by_cases he:Qf o=0
 ·rw[if_neg (fun h=>h he)] at hq2;obtain⟨r1,r2,k1,k8,p1,p2,p4,p7⟩:=Gv he;have r0:=af g0;have h2:=h.keep kk;have ht2:=ht.keep' kk;have ga:=(kk.2 ab hal hal).trans hab;have hE:∀e H',KeepO ow H2 H'→Q (.val (.int .i64 e)) H'→Q (.val (.int .i64 e)) H':=fun _ _ _ h=>h;have hcase:o.k=1∨o.k=2∨o.k=3∨o.k=4∨o.k=5∨o.k=6∨o.k=7∨o.k=8:=by omega
  have lk:∀(kn:Int) (f:Nat) (t:Nat),aK (false,[Pk.int]) (.int .u8 kn) Fi 0=some (some (f,((Fi[f]?).map (·.2.1)).getD .nilFunc))→ev1 (.lookup t (false,[.int]) .nilFunc false) [.map ab,.int .u8 kn] lo H2=some (((Fi[f]?).map (·.2.1)).getD .nilFunc,H2):=by
   intro kn f t hf;simp only[ev1,aF,ga,cx,cp,aX,rQ,isK,IV.cells,B1,rq,if_true,hf];rfl
  have mq:∀r,MQ n0 mb H2 ow r Q→MQ n0 mb H2 ow r Q:=fun _ h=>h;rcases hcase with hk | hk | hk | hk | hk | hk | hk | hk
  ·rw[if_pos hk] at hq2;have l1:∀t,ev1 (.lookup t (false,[.int]) .nilFunc false) [.map ab,.int .u8 o.k] lo H2=some (.fn 69 [] [],H2):=fun t=>by rw[hk];exact lk 1 0 t rfl
   have hm:=mq _ hq2;clear hq hq2 mq;simp(disch:=omega) only[ak,↓aj,seval,uW,he,r0,↓l1,aq,↓FR,FW];refine apL h2 (p1 hk).1 (p1 hk).2 hlo (by omega) ⟨fun e H' he' k'=>?_,fun M' H' ow' L' he' k' a b hM=>?_⟩
   ·simp(disch:=omega) only[ak,↓aj,seval,uW,↓FR,FW]
    exact hm.1 e _ he' k'
   ·simp(disch:=omega) only[ak,↓aj,seval,uW,↓FR,FW]
    exact hm.2 _ _ _ _ he' k' a b hM
  ·rw[if_neg (by omega),if_pos hk] at hq2;have l1:∀t,ev1 (.lookup t (false,[.int]) .nilFunc false) [.map ab,.int .u8 o.k] lo H2=some (.fn 70 [] [],H2):=fun t=>by rw[hk];exact lk 2 1 t rfl
   have hm:=mq _ hq2;clear hq hq2 mq;simp(disch:=omega) only[ak,↓aj,seval,uW,he,r0,↓l1,aq,↓FR,FW];refine am4 h2 (p2 hk) hlo (by omega) ⟨fun e H' he' k'=>?_,fun M' H' ow' L' he' k' a b hM=>?_⟩
   ·simp(disch:=omega) only[ak,↓aj,seval,uW,↓FR,FW]
    exact hm.1 e _ he' k'
   ·simp(disch:=omega) only[ak,↓aj,seval,uW,↓FR,FW]
    exact hm.2 _ _ _ _ he' k' a b hM
  ·rw[if_neg (by omega),if_neg (by omega),if_pos hk] at hq2;have l1:∀t,ev1 (.lookup t (false,[.int]) .nilFunc false) [.map ab,.int .u8 o.k] lo H2=some (.fn 71 [] [],H2):=fun t=>by rw[hk];exact lk 3 2 t rfl
   have hm:=mq _ hq2;clear hq hq2 mq;simp(disch:=omega) only[ak,↓aj,seval,uW,he,r0,↓l1,aq,↓FR,FW];refine NN h2 ht2 hn1 hcr ⟨r1,r2⟩ hlo (by omega) ⟨fun e H' he' k'=>?_,fun M' H' ow' L' he' k' a b hM=>?_⟩
   ·simp(disch:=omega) only[ak,↓aj,seval,uW,↓FR,FW]
    exact hm.1 e _ he' k'
   ·simp(disch:=omega) only[ak,↓aj,seval,uW,↓FR,FW]
    exact hm.2 _ _ _ _ he' k' a b hM
  ·rw[if_neg (by omega),if_neg (by omega),if_neg (by omega),if_pos hk] at hq2;have l1:∀t,ev1 (.lookup t (false,[.int]) .nilFunc false) [.map ab,.int .u8 o.k] lo H2=some (.fn 72 [] [],H2):=fun t=>by rw[hk];exact lk 4 3 t rfl
   have hm:=mq _ hq2;clear hq hq2 mq;simp(disch:=omega) only[ak,↓aj,seval,uW,he,r0,↓l1,aq,↓FR,FW];refine adS h2 (p4 (by omega)).1 (p4 (by omega)).2.1 (p4 (by omega)).2.2 hrl hlo (by omega) ⟨fun e H' he' k'=>?_,fun M' H' ow' L' he' k' a b hM=>?_⟩
   ·simp(disch:=omega) only[ak,↓aj,seval,uW,↓FR,FW]
    exact hm.1 e _ he' k'
   ·simp(disch:=omega) only[ak,↓aj,seval,uW,↓FR,FW]
    exact hm.2 _ _ _ _ he' k' a b hM
  ·rw[if_neg (by omega),if_neg (by omega),if_neg (by omega),if_neg (by omega),if_pos hk] at hq2;have l1:∀t,ev1 (.lookup t (false,[.int]) .nilFunc false) [.map ab,.int .u8 o.k] lo H2=some (.fn 73 [] [],H2):=fun t=>by rw[hk];exact lk 5 4 t rfl
   have hm:=mq _ hq2;clear hq hq2 mq;simp(disch:=omega) only[ak,↓aj,seval,uW,he,r0,↓l1,aq,↓FR,FW];refine ac9 h2 (p4 (by omega)).1 (p4 (by omega)).2.1 (p4 (by omega)).2.2 hrl hlo (by omega) ⟨fun e H' he' k'=>?_,fun M' H' ow' L' he' k' a b hM=>?_⟩
   ·simp(disch:=omega) only[ak,↓aj,seval,uW,↓FR,FW]
    exact hm.1 e _ he' k'
   ·simp(disch:=omega) only[ak,↓aj,seval,uW,↓FR,FW]
    exact hm.2 _ _ _ _ he' k' a b hM
  ·rw[if_neg (by omega),if_neg (by omega),if_neg (by omega),if_neg (by omega),if_neg (by omega),if_pos hk] at hq2;have l1:∀t,ev1 (.lookup t (false,[.int]) .nilFunc false) [.map ab,.int .u8 o.k] lo H2=some (.fn 74 [] [],H2):=fun t=>by rw[hk];exact lk 6 5 t rfl
   have hm:=mq _ hq2;clear hq hq2 mq;simp(disch:=omega) only[ak,↓aj,seval,uW,he,r0,↓l1,aq,↓FR,FW];refine adM h2 (p4 (by omega)).1 (p4 (by omega)).2.1 (p4 (by omega)).2.2 hlo (by omega) ⟨fun e H' he' k'=>?_,fun M' H' ow' L' he' k' a b hM=>?_⟩
   ·simp(disch:=omega) only[ak,↓aj,seval,uW,↓FR,FW]
    exact hm.1 e _ he' k'
   ·simp(disch:=omega) only[ak,↓aj,seval,uW,↓FR,FW]
    exact hm.2 _ _ _ _ he' k' a b hM
  ·rw[if_neg (by omega),if_neg (by omega),if_neg (by omega),if_neg (by omega),if_neg (by omega),if_neg (by omega),if_pos hk] at hq2;have l1:∀t,ev1 (.lookup t (false,[.int]) .nilFunc false) [.map ab,.int .u8 o.k] lo H2=some (.fn 75 [] [],H2):=fun t=>by rw[hk];exact lk 7 6 t rfl
   have hm:=mq _ hq2;clear hq hq2 mq;simp(disch:=omega) only[ak,↓aj,seval,uW,he,r0,↓l1,aq,↓FR,FW];refine ac1 h2 (p7 (by omega)) hlo (by omega) ⟨fun e H' he' k'=>?_,fun M' H' ow' L' he' k' a b hM=>?_⟩
   ·simp(disch:=omega) only[ak,↓aj,seval,uW,↓FR,FW]
    exact hm.1 e _ he' k'
   ·simp(disch:=omega) only[ak,↓aj,seval,uW,↓FR,FW]
    exact hm.2 _ _ _ _ he' k' a b hM
  ·rw[if_neg (by omega),if_neg (by omega),if_neg (by omega),if_neg (by omega),if_neg (by omega),if_neg (by omega),if_neg (by omega)] at hq2;have l1:∀t,ev1 (.lookup t (false,[.int]) .nilFunc false) [.map ab,.int .u8 o.k] lo H2=some (.fn 76 [] [],H2):=fun t=>by rw[hk];exact lk 8 7 t rfl
   have hm:=mq _ hq2;clear hq hq2 mq;simp(disch:=omega) only[ak,↓aj,seval,uW,he,r0,↓l1,aq,↓FR,FW];refine aei h2 (p7 (by omega)) hfa hlo (by omega) ⟨fun e H' he' k'=>?_,fun M' H' ow' L' he' k' a b hM=>?_⟩
   ·simp(disch:=omega) only[ak,↓aj,seval,uW,↓FR,FW]
    exact hm.1 e _ he' k'
   ·simp(disch:=omega) only[ak,↓aj,seval,uW,↓FR,FW]
    exact hm.2 _ _ _ _ he' k' a b hM
 ·rw[if_pos he] at hq2;simp(disch:=omega) only[ak,↓aj,seval,uW,he,↓FR,FW];exact hq2.1 _ _ rfl (KeepO.refl _ _)
theorem aeb{tb e:Nat}{H:Heap}(hg:H.get tb=some (.cells false e 1 [.nilSlice,.nilSlice,.nilSlice,.nilSlice,.nilSlice,.nilSlice]))(hlt:tb < H.n){lo:Nat}{Q:Out→Heap→Prop}(hlo:lo≤H.n)
  (h:∀H',Keep H.n H H'→Q (.val (.int .i64 0)) H'):W E0 lo (.call 62 [.agg [.slice tb 0 6 6 true,.nilSlice,.nilSlice,.nilSlice]]) H Q:=by
 refine W.pure bu hlo ?_;have hr:=af hg;rw[c62];simp(maxSteps:=4000000) (disch:=omega) only[ak,↓aj,seval,B62,aq2,aq1,aq0,awB,aww,acP,aqZ,aqY,aqX,awm,iL,avM,avL,avu,avN,avv,ap2,avd,avc,avb,ava,hr,aq,iP,jM,jb,Nat.min_self,show ¬H.n=tb by omega,↓FR,FW];exact fun k=>h _ k
def nil6:List IV:=[.nilSlice,.nilSlice,.nilSlice,.nilSlice,.nilSlice,.nilSlice]
def zy:List IV:=[.bool false,.int .i64 0,.int .i64 0,.bool false,.nilSlice]
def zy6:List IV:=iP 6 zy
theorem DH{H:Heap}{lo:Nat}{Q:Out→Heap→Prop}(hlo:lo≤H.n)
  (h:∀H',Keep H.n H H'→H'.n=H.n+4→H'.get (H.n+1)=some (.cells false 133 5 zy6)→H'.get (H.n+3)=some (.cells false 140 1 nil6)→
   Q (.val (.agg [.int .i64 0,.nilSlice,.nilSlice,.slice (H.n+1) 0 6 6 true,.slice (H.n+3) 0 6 6 true,.nilSlice,.nilSlice,.nilSlice])) H'):W E0 lo (.call 9 []) H Q:=by
 refine W.pure bu hlo ?_;rw[c9];simp(maxSteps:=4000000) (disch:=omega) only[ak,↓aj,seval,B9,B32,B84,iL,c32,c84,aq,↓FR,FW];refine fun k=>h _ k rfl ?_ ?_
 ·simp only[ae,al,ai,ac]
  repeat first | rw[if_pos (by omega)] | rw[if_neg (by omega)]
  rfl
 ·simp only[ae,al,ai,ac]
  repeat first | rw[if_pos (by omega)] | rw[if_neg (by omega)]
  rfl
theorem apO{H:Heap}{lo:Nat}{Q:Out→Heap→Prop}(hlo:lo≤H.n)(h:∀H' b,Keep H.n H H'→Q (.val (.slice b 0 0 0 true)) H'):W E0 lo (.call 64 [.agg [.nilSlice,.nilSlice],.int .i64 0]) H Q:=by
 refine W.pure bu hlo ?_;rw[c64];simp(disch:=omega) only[ak,↓aj,seval,B64,aq,↓FR,FW];rw[show IV.agg [.nilSlice,.nilSlice]=bv .nil .nil from rfl];refine yp (fs:=[]) (bs:=[]) 0 (Sl2.nil) (Sl2.nil) (by simp) (by simp) (by simp) (by simp) (by rw[ac];omega) (fun H2 k2 he=>absurd (by decide) he) fun H2 v l k2 _ f2 hp _=>?_
 have hl:l=[]:=by
  have:=hp.length_eq
  rw[jq] at this;exact List.length_eq_zero_iff.1 (by rw[this];rfl)
 subst hl;have sv:=f2.sl;have hn2:=k2.1;rw[ac] at hn2;simp(maxSteps:=4000000) (disch:=omega) only[ak,↓aj,seval,aoY,iL,↓sv.ln,j2,iP,aq,↓FR,FW];exact fun k=>h _ _ k
theorem adO{yb tb ey et:Nat}{H:Heap}(hy:H.get yb=some (.cells false ey 5 zy6))(ht:H.get tb=some (.cells false et 1 nil6))(hlt:tb < H.n)(hlt':yb < H.n){lo:Nat}{Q:Out→Heap→Prop}(hlo:lo≤H.n)
  (h:∀H',Keep H.n H H'→Q (.val (.int .i64 0)) H'):W E0 lo (.call 27 [.agg [.int .i64 0,.nilSlice,.nilSlice,.slice yb 0 6 6 true,.slice tb 0 6 6 true,.nilSlice,.nilSlice,.nilSlice]]) H Q:=by
 refine gS _ hlo h fun R hR=>?_;clear h;rw[c27];simp(maxSteps:=4000000) (disch:=omega) only[ak,↓aj,seval,afH,aq,↓FR,FW];rw[show IV.agg [.nilSlice,.nilSlice]=bv .nil .nil from rfl];generalize hH_H1:Heap.new _ _=H1;have hnH1:H1.n=H.n+1:=by rw[←hH_H1];rfl
 have g0:=congrArg (fun h0=>Heap.get h0 (H.n)) hH_H1.symm;simp(disch:=omega) only[ak,↓aj,seval] at g0
 have kH1:Keep H.n H H1:=⟨by omega,fun x hx _=>by
  have gx:=congrArg (fun h0=>Heap.get h0 x) hH_H1.symm;simp(disch:=omega) only[ak,↓aj,seval] at gx;exact gx⟩
 clear hH_H1;refine sF (fs:=[]) (bs:=[]) Sl2.nil Sl2.nil (by simp) (by simp) (by simp) (by simp) (by omega) fun H2 k2=>?_;have hn2:=k2.1;replace g0:=(k2.2 _ (by omega) (by omega)).trans g0;have r0:=af g0;have kk:Keep H.n H H2:=kH1.trans (k2.lower (by omega));have gy:=(kk.2 yb hlt' hlt').trans hy;have ry:=af gy;rw[show aY [] []=0 by decide];have ez:zy6.length=30:=rfl;simp(maxSteps:=4000000) (disch:=omega) only[ak,↓aj,seval,afH,Ox,iL,c61,r0,ry,ez,zy6,zy,iP,aq,show ¬H2.n=yb by omega,show ¬H2.n+1=yb by omega,show ¬H2.n=H.n by omega,show ¬H2.n+1=H.n by omega,↓FR,FW];generalize hH_H3:Heap.new _ _=H3;have hnH3:H3.n=H2.n+12:=by rw[←hH_H3];rfl
 have kH3:Keep H2.n H2 H3:=⟨by omega,fun x hx _=>by
  have gx:=congrArg (fun h0=>Heap.get h0 x) hH_H3.symm;simp(disch:=omega) only[ak,↓aj,seval] at gx;exact gx⟩
 clear hH_H3;have k03:Keep H.n H H3:=kk.trans (kH3.lower (by omega));have gt3:=(k03.2 tb hlt hlt).trans ht;refine aeb gt3 (by omega) (by omega) fun H4 k4=>?_;have hn4:=k4.1;have k04:Keep H.n H H4:=k03.trans (k4.lower (by omega));have r04:=af ((k4.2 H.n (by omega) (by omega)).trans ((kH3.2 H.n (by omega) (by omega)).trans g0));clear r0 ry gy;simp(maxSteps:=4000000) (disch:=omega) only[ak,↓aj,seval,afH,r04,aq,↓FR,FW];refine apO (by omega) fun H5 b5 k5=>?_;have hn5:=k5.1;have k05:Keep H.n H H5:=k04.trans (k5.lower (by omega));have g05:=(k5.2 H.n (by omega) (by omega)).trans ((k4.2 H.n (by omega) (by omega)).trans ((kH3.2 H.n (by omega) (by omega)).trans g0));have r05:=af g05;have gt5:=(k05.2 tb hlt hlt).trans ht;have gy5:=(k05.2 yb hlt' hlt').trans hy;have rt5:=af gt5;have ry5:=af gy5;have et:nil6.length=6:=rfl;clear r04 gt3;simp(maxSteps:=4000000) (disch:=omega) only[ak,↓aj,seval,afH,av5,iL,c63,r05,rt5,ry5,ez,et,zy6,zy,nil6,iP,jb,aq,show ¬H5.n=tb by omega,show ¬H5.n=yb by omega,show ¬H5.n=H.n by omega,↓FR,FW];exact hR _
def M0:Mc:=⟨0,List.replicate 80 [],List.replicate 6 od,List.replicate 6 [],[],[]⟩
theorem RQ:Valid M0.t:=⟨by decide,by simp[M0],by simp[M0],by simp[M0]⟩
theorem aeD:aQ M0.t=[]:=by decide
theorem aeE:aI M0.t=[]:=by decide
def L0(n:Nat):Ly:=⟨n+3,n+10,n+17,.sl (n+1) 0 0 0 true,.sl (n+2) 0 0 0 true,
 [⟨od,.sl (n+4) 0 0 0 true⟩,⟨od,.sl (n+5) 0 0 0 true⟩,⟨od,.sl (n+6) 0 0 0 true⟩,⟨od,.sl (n+7) 0 0 0 true⟩,⟨od,.sl (n+8) 0 0 0 true⟩,⟨od,.sl (n+9) 0 0 0 true⟩],
 [.sl (n+11) 0 0 0 true,.sl (n+12) 0 0 0 true,.sl (n+13) 0 0 0 true,.sl (n+14) 0 0 0 true,.sl (n+15) 0 0 0 true,.sl (n+16) 0 0 0 true],
 [[],[],[],[],[],[]],.sl (n+18) 0 0 0 true⟩
def Ir(n:Nat):List Nat:=[n+19,n+3,n+10,n+17,n+11,n+12,n+13,n+14,n+15,n+16,n+18]
theorem apv{α:Type}[Cell α]{H:Heap}{b e z:Nat}(hz:Cell.z α=z)(h:H.get b=some (.cells false e z []))(hb:b < H.n):Own H b e 0 ([]:List α):=by
 have:=ck (H:=H) (b:=b) (e:=e) (l:=([]:List α)) hb hz h rfl
 exact this
theorem adJ{yb tb ey et:Nat}{H:Heap}(hy:H.get yb=some (.cells false ey 5 zy6))(ht:H.get tb=some (.cells false et 1 nil6))(hlt:tb < H.n)(hlt':yb < H.n){lo:Nat}{Q:Out→Heap→Prop}(hlo:lo≤H.n)
  (h:∀H',Keep H.n H H'→MI H.n (H.n+19) H' (Ir H.n) (L0 H.n) M0→Q (.val (.ptr (H.n+19) 0)) H'):W E0 lo (.call 28 [.agg [.int .i64 0,.nilSlice,.nilSlice,.slice yb 0 6 6 true,.slice tb 0 6 6 true,.nilSlice,.nilSlice,.nilSlice]]) H Q:=by
 refine W.pure bu hlo ?_;have ry:=af hy;have rt:=af ht;have ez:zy6.length=30:=rfl;have e6:nil6.length=6:=rfl;rw[c28];simp(maxSteps:=4000000) (disch:=omega) only[ak,↓aj,seval,av7,av4,av3,av2,B68,B81,awy,awx,iL,c65,c66,c67,c68,c81,avJ,avI,ry,rt,ez,e6,zy6,nil6,zy,iP,jb,jM,eZ,Nat.min_self,aq,show ¬H.n=tb by omega,show ¬H.n=yb by omega,↓FR,FW];generalize hH_HX:Heap.new _ _=HX;have hnHX:HX.n=H.n+20:=by rw[←hH_HX];rfl
 have g1:=congrArg (fun h0=>Heap.get h0 (H.n+1)) hH_HX.symm;simp(disch:=omega) only[ak,↓aj,seval] at g1;have g2:=congrArg (fun h0=>Heap.get h0 (H.n+2)) hH_HX.symm;simp(disch:=omega) only[ak,↓aj,seval] at g2;have g3:=congrArg (fun h0=>Heap.get h0 (H.n+3)) hH_HX.symm;simp(disch:=omega) only[ak,↓aj,seval] at g3;have g4:=congrArg (fun h0=>Heap.get h0 (H.n+4)) hH_HX.symm;simp(disch:=omega) only[ak,↓aj,seval] at g4;have g5:=congrArg (fun h0=>Heap.get h0 (H.n+5)) hH_HX.symm;simp(disch:=omega) only[ak,↓aj,seval] at g5;have g6:=congrArg (fun h0=>Heap.get h0 (H.n+6)) hH_HX.symm;simp(disch:=omega) only[ak,↓aj,seval] at g6;have g7:=congrArg (fun h0=>Heap.get h0 (H.n+7)) hH_HX.symm;simp(disch:=omega) only[ak,↓aj,seval] at g7;have g8:=congrArg (fun h0=>Heap.get h0 (H.n+8)) hH_HX.symm;simp(disch:=omega) only[ak,↓aj,seval] at g8;have g9:=congrArg (fun h0=>Heap.get h0 (H.n+9)) hH_HX.symm;simp(disch:=omega) only[ak,↓aj,seval] at g9;have g10:=congrArg (fun h0=>Heap.get h0 (H.n+10)) hH_HX.symm;simp(disch:=omega) only[ak,↓aj,seval] at g10;have g11:=congrArg (fun h0=>Heap.get h0 (H.n+11)) hH_HX.symm;simp(disch:=omega) only[ak,↓aj,seval] at g11;have g12:=congrArg (fun h0=>Heap.get h0 (H.n+12)) hH_HX.symm;simp(disch:=omega) only[ak,↓aj,seval] at g12;have g13:=congrArg (fun h0=>Heap.get h0 (H.n+13)) hH_HX.symm;simp(disch:=omega) only[ak,↓aj,seval] at g13;have g14:=congrArg (fun h0=>Heap.get h0 (H.n+14)) hH_HX.symm;simp(disch:=omega) only[ak,↓aj,seval] at g14;have g15:=congrArg (fun h0=>Heap.get h0 (H.n+15)) hH_HX.symm;simp(disch:=omega) only[ak,↓aj,seval] at g15;have g16:=congrArg (fun h0=>Heap.get h0 (H.n+16)) hH_HX.symm;simp(disch:=omega) only[ak,↓aj,seval] at g16;have g17:=congrArg (fun h0=>Heap.get h0 (H.n+17)) hH_HX.symm;simp(disch:=omega) only[ak,↓aj,seval] at g17;have g18:=congrArg (fun h0=>Heap.get h0 (H.n+18)) hH_HX.symm;simp(disch:=omega) only[ak,↓aj,seval] at g18;have g19:=congrArg (fun h0=>Heap.get h0 (H.n+19)) hH_HX.symm;simp(disch:=omega) only[ak,↓aj,seval] at g19
 have kHX:Keep H.n H HX:=⟨by omega,fun x hx _=>by
  have gx:=congrArg (fun h0=>Heap.get h0 x) hH_HX.symm;simp(disch:=omega) only[ak,↓aj,seval] at gx;exact gx⟩
 clear hH_HX;intro hk;clear ry rt hy ht;refine h _ hk ?_;generalize hN:H.n=n at *;have hon:∀x,(x < n+20)→x < HX.n:=fun x hx=>by omega
 have so:∀{α:Type} [Cell α] {x e z:Nat},Cell.z α=z→HX.get x=some (.cells false e z [])→x < n+20→Sl (HX.off (Ir n)) (.sl x 0 0 0 true) ([]:List α):=fun hz hg hx=>((apv hz hg (hon _ hx)).sl true).onto fun h=>absurd rfl h;have tg:∀{α:Type} [Cell α] {x e z:Nat},Cell.z α=z→HX.get x=some (.cells false e z [])→x < n+20→n≤x→Tg n HX e (.sl x 0 0 0 true) ([]:List α):=fun hz hg hx hx'=>⟨_,true,rfl,hx',apv hz hg (hon _ hx)⟩;have gyo:Own HX (n+3) 133 6 (L0 n).yl:=ck (hon _ (by omega)) amv g3 rfl;have gto:Own HX (n+10) 140 6 (L0 n).ws:=ck (hon _ (by omega)) mG g10 rfl
 have tgw:∀x,x=n+11∨x=n+12∨x=n+13∨x=n+14∨x=n+15∨x=n+16→Tg n HX 158 (.sl x 0 0 0 true) ([]:List Lv):=fun x hx=>by
  rcases hx with rfl | rfl | rfl | rfl | rfl | rfl
  ·exact tg Dt g11 (by omega) (by omega)
  ·exact tg Dt g12 (by omega) (by omega)
  ·exact tg Dt g13 (by omega) (by omega)
  ·exact tg Dt g14 (by omega) (by omega)
  ·exact tg Dt g15 (by omega) (by omega)
  ·exact tg Dt g16 (by omega) (by omega)
 have hl6:(L0 n).rl.length=6:=rfl;have hw6:(L0 n).ws.length=6:=rfl
 refine{gm:=g19,rk:=by decide,gy:=gyo,yn:=rfl,ym:=rfl,yd:=?_,yo:=?_,bf:=?_,bb:=?_,bv:=RQ,gt:=gto,wn:=rfl,rn:=rfl,rg:=?_,rx:=?_,rd:=?_,rm:=rfl,gc:=⟨[],0,g17,rfl,by simp,by simp⟩,gf:=tg kT g18 (by omega) (by omega),
        om:=by simp[Ir],oy:=by simp[Ir,L0],ot:=by simp[Ir,L0],oc:=by simp[Ir,L0],orw:=?_,of:=by simp[Ir,L0,SV.blk],lo:=?_}
 ·intro x hx;simp only[L0,List.mem_cons,List.not_mem_nil,or_false] at hx;rcases hx with rfl | rfl | rfl | rfl | rfl | rfl
  ·exact so mH g4 (by omega)
  ·exact so mH g5 (by omega)
  ·exact so mH g6 (by omega)
  ·exact so mH g7 (by omega)
  ·exact so mH g8 (by omega)
  ·exact so mH g9 (by omega)
 ·intro y hy;rw[Gl hy];exact Qj
 ·rw[aeD];exact⟨[],so mG g1 (by omega),rfl,fun i h=>absurd h (by simp)⟩
 ·rw[aeE];exact⟨[],so mG g2 (by omega),rfl,fun i h=>absurd h (by simp)⟩
 ·intro i h1 h2;have hi:i=0∨i=1∨i=2∨i=3∨i=4∨i=5:=by omega
  rcases hi with rfl | rfl | rfl | rfl | rfl | rfl<;>exact tgw _ (by simp)
 ·intro i j h1 h2 he;have hi:i=0∨i=1∨i=2∨i=3∨i=4∨i=5:=by omega
  have hj:j=0∨j=1∨j=2∨j=3∨j=4∨j=5:=by omega
  rcases hi with rfl | rfl | rfl | rfl | rfl | rfl<;>rcases hj with rfl | rfl | rfl | rfl | rfl | rfl<;>first | rfl | (simp[L0,SV.blk] at he)
 ·intro r hr x hx
  have:r=[]:=by simpa [L0] using hr
  rw[this] at hx;cases hx
 ·intro w hw;simp only[L0,List.mem_cons,List.not_mem_nil,or_false] at hw;rcases hw with rfl | rfl | rfl | rfl | rfl | rfl<;>simp[Ir,SV.blk]
 ·intro x hx;simp only[Ir,List.mem_cons,List.not_mem_nil,or_false] at hx;omega
structure Crs where
 a:Id
 b:Id
 n:Int
 deriving Inhabited,DecidableEq
instance:Cell Crs where
 z:=5
 cs c:=[.int .u8 c.a.y,.int .i64 c.a.n,.int .u8 c.b.y,.int .i64 c.b.n,.int .i64 c.n]
 len _:=rfl
 one _:=rfl
 pos:=by omega
theorem Rn(c:Crs):Cell.cs c=[.int .u8 c.a.y,.int .i64 c.a.n,.int .u8 c.b.y,.int .i64 c.b.n,.int .i64 c.n]:=rfl
theorem HT:Cell.z Crs=5:=rfl
theorem Em{v:SV}{l:List Crs}{H:Heap}{lo:Nat}{Q:Out→Heap→Prop}(hv:Sl H v l)(hl:l.length≤1000000)(hlo:lo≤H.n)
  (h:∀H' b,Keep H.n H H'→H.n≤b→Own H' b 149 l.length l→Q (.val (SV.sl b 0 l.length l.length true).iv) H'):W E0 lo (.call 83 [v.iv]) H Q:=by
 refine W.pure bu hlo ?_;rw[c83];obtain⟨H2,e1,e2,e3,e4⟩:=fi hv (z:=5) rfl 149 H.n [IV.int .u8 0,.int .i64 0,.int .u8 0,.int .i64 0,.int .i64 0] rfl (au _);simp(disch:=omega) only[ak,↓aj,seval,B83,↓hv.ln,↓e1,Int.reducePow];exact fun hk=>h _ _ hk (au _) e4
theorem GH{v:SV}{l:List Lv}{H:Heap}{lo:Nat}{Q:Out→Heap→Prop}(hv:Sl H v l)(hl:l.length≤1000000)(hlo:lo≤H.n)
  (h:∀H' b,Keep H.n H H'→H.n≤b→Own H' b 158 l.length l→Q (.val (SV.sl b 0 l.length l.length true).iv) H'):W E0 lo (.call 81 [v.iv]) H Q:=by
 refine W.pure bu hlo ?_;rw[c81];obtain⟨H2,e1,e2,e3,e4⟩:=fi hv (z:=4) rfl 158 H.n [IV.int .u8 0,.bool false,.nilSlice,.nilSlice] rfl (au _);simp(disch:=omega) only[ak,↓aj,seval,B81,↓hv.ln,↓e1,Int.reducePow];exact fun hk=>h _ _ hk (au _) e4
def Rq(x y:Crs):Int:=if Ds x.a y.a≠0 then Ds x.a y.a else Ds x.b y.b
theorem Oe(x y:Crs){H:Heap}{lo:Nat}{Q:Out→Heap→Prop}(hlo:lo≤H.n)(h:∀H',Keep H.n H H'→Q (.val (.int .i64 (Rq x y))) H'):W E0 lo (.call 79 [.agg [.int .u8 x.a.y,.int .i64 x.a.n,.int .u8 x.b.y,.int .i64 x.b.n,.int .i64 x.n],.agg [.int .u8 y.a.y,.int .i64 y.a.n,.int .u8 y.b.y,.int .i64 y.b.n,.int .i64 y.n]]) H Q:=by
 refine gS _ hlo h fun R hR=>?_;clear h;rw[c79];simp(disch:=omega) only[ak,↓aj,seval,B79,aq,↓FR,FW];generalize hH_H1:Heap.new _ _=H1;have hnH1:H1.n=H.n+2:=by rw[←hH_H1];rfl
 have g0:=congrArg (fun h0=>Heap.get h0 (H.n)) hH_H1.symm;simp(disch:=omega) only[ak,↓aj,seval] at g0;have g1:=congrArg (fun h0=>Heap.get h0 (H.n+1)) hH_H1.symm;simp(disch:=omega) only[ak,↓aj,seval] at g1
 have kH1:Keep H.n H H1:=⟨by omega,fun x hx _=>by
  have gx:=congrArg (fun h0=>Heap.get h0 x) hH_H1.symm;simp(disch:=omega) only[ak,↓aj,seval] at gx;exact gx⟩
 clear hH_H1;refine vV x.a y.a (by omega) fun H2 k2=>?_;have hn2:=k2.1;replace g0:=(k2.2 _ (by omega) (by omega)).trans g0;replace g1:=(k2.2 _ (by omega) (by omega)).trans g1;have r0:=af g0;have r1:=af g1;by_cases he:Ds x.a y.a=0
 ·simp(disch:=omega) only[ak,↓aj,seval,B79,he,r0,r1,aq,↓FR,FW]
  refine vV x.b y.b (by omega) fun H3 k3=>?_;simp(disch:=omega) only[ak,↓aj,seval,B79,↓FR,FW]
  have:=hR H3
  unfold Rq at this;rw[if_neg (fun h=>h he)] at this;exact this
 ·simp(disch:=omega) only[ak,↓aj,seval,B79,he,↓FR,FW]
  have:=hR H2
  unfold Rq at this;rw[if_pos he] at this;exact this
theorem Qx{f b:SV}{t:List (List Id)}(hV:Valid t){r:Int}(hr: -4≤r∧r≤4){H:Heap}(hf:Sl2 H f (aQ t))(hb:Sl2 H b (aI t)){lo:Nat}{Q:Out→Heap→Prop}(hlo:lo≤H.n)
  (hq:∀H' v,Keep H.n H H'→Fresh H.n H' 204 v (bU (aQ t) (aI t) r)→(bU (aQ t) (aI t) r).length≤320→Q (.val (.tuple [v.iv,.int .i64 0])) H'):W E0 lo (.call 119 [bv f b,.int .i64 r]) H Q:=by
 have hrb:eQ r=true:=rackB_iff.2 hr;have hc:=hV.check;have hF:=jO t;have hB:=hZ hV.len;obtain⟨h6,h6'⟩:=hV.len6;have ho:bM (aQ t) (aI t) r=0:=by unfold bM;rw[hc,hrb];simp
 refine yp r hf hb (by omega) (by omega) h6 h6' hlo (fun H' _ hne=>absurd ho hne) fun H' v l k _ hf hp hs=>?_;rw[rH hc hrb hp hs] at hf;have h4:∀x∈aQ t,x.length≤4:=fun l hl=>hV.four l (fl hl);have h4':∀x∈aI t,x.length≤4:=fun l hl=>hV.four l (dw hl);have hl:=hp.length_eq;have e1:=lx hF h4;have e2:=lx hB h4';rw[jq,rH hc hrb hp hs] at hl;exact hq H' v k hf (by omega)
def zId:Id:=⟨0,0⟩
theorem Pr{α:Type}(l:List α)(z:α)(n i:Nat)(hn:l.length=n)(hi:i < l.length):(l.take i++List.replicate (n - i) z).set i l[i]=l.take (i+1)++List.replicate (n - (i+1)) z:=by
 subst hn;rw[List.set_append_right _ _ (by rw[eR];omega),eR,ul (by omega),Nat.sub_self];rw[show l.length - i=(l.length - (i+1))+1 by omega,Cc,List.set_cons_zero,fg hi,cj];rfl
theorem ad5{f b:SV}{t:List (List Id)}(hV:Valid t){r:Int}(hr: -4≤r∧r≤4){H:Heap}(hf:Sl2 H f (aQ t))(hb:Sl2 H b (aI t)){lo:Nat}{Q:Out→Heap→Prop}(hlo:lo≤H.n)
  (h:∀H' c,Keep H.n H H'→H.n≤c→Own H' c 138 (bU (aQ t) (aI t) r).length ((bU (aQ t) (aI t) r).map (·.id))→Q (.val (.slice c 0 (bU (aQ t) (aI t) r).length (bU (aQ t) (aI t) r).length true)) H'):
  W E0 lo (.call 64 [bv f b,.int .i64 r]) H Q:=by
 refine W.pure bu hlo ?_;rw[c64];simp(disch:=omega) only[ak,↓aj,seval,B64,bv,aq,↓FR,FW];rw[show IV.agg [f.iv,b.iv]=bv f b from rfl];generalize hH_H1:Heap.new _ _=H1;have hnH1:H1.n=H.n+1:=by rw[←hH_H1];rfl
 have g0:=congrArg (fun h0=>Heap.get h0 (H.n)) hH_H1.symm;simp(disch:=omega) only[ak,↓aj,seval] at g0
 have kH1:Keep H.n H H1:=⟨by omega,fun x hx _=>by
  have gx:=congrArg (fun h0=>Heap.get h0 x) hH_H1.symm;simp(disch:=omega) only[ak,↓aj,seval] at gx;exact gx⟩
 clear hH_H1;refine Qx hV hr (hf.keep kH1) (hb.keep kH1) (by omega) fun H2 v k2 f2 hl2=>?_;have hn2:=k2.1;generalize bU (aQ t) (aI t) r=l at *;have sv:=f2.sl;obtain⟨n,hln⟩:∃n:Nat,n=l.length:=⟨_,rfl⟩;rw[←hln] at h hl2;have hlv:=sv.ln;rw[←hln] at hlv;simp(disch:=omega) only[ak,↓aj,seval,B64,↓hlv,aq,Int.reducePow,↓FR,FW];have hO:=Own.mksl (H:=H2) (e:=138) (n:=n) kT zId;have kk:Keep H.n H H2:=kH1.trans (k2.lower (by omega));obtain⟨c,hc⟩:∃c,c=H2.n:=⟨_,rfl⟩;rw[show Cell.cs zId=[IV.int .u8 0,IV.int .i64 0] from rfl,←hc] at hO;rw[←hc];obtain⟨H3,hH3⟩:∃H3,H3=H2.new (.cells false 138 2 (iP n [IV.int .u8 0,IV.int .i64 0])):=⟨_,rfl⟩;have hn3:H3.n=H2.n+1:=by rw[hH3];rfl
 have k23:Keep H2.n H2 H3:=by rw[hH3];exact .new _ _
 rw[←hH3] at hO⊢
 refine aO (fun k fr H'=>∃i,i+k=n∧KeepO [c] H3 H'∧Own H' c 138 n ((l.map (·.id)).take i++List.replicate (n - i) zId)∧fr.marks=[]∧fr.tm.length=33∧fr.tm.getD 7 IV.undef=.slice c 0 n n true∧fr.tm.getD 19 IV.undef=v.iv∧fr.tm.getD 20 IV.undef=.int .i64 n∧fr.tm.getD 21 IV.undef=.int .i64 i) ?_ n ⟨0,by omega,KeepO.refl _ _,by simpa using hO,rfl,rfl,rfl,rfl,rfl,rfl⟩
 rintro k ⟨tm,mk⟩ H' ⟨i,hik,hk,hO',rfl,htm,t7,t19,t20,t21⟩ L hN hJ;have hn':=hk.1
 have hvl:v.blk < c∨l=[]:=by
  rcases f2 with⟨_,e⟩ | ⟨b,rfl,_,o⟩
  ·exact .inr e
  ·left;show b < c;rw[hc];exact o.2.1
 have hv':Sl H' v l:=(sv.keep k23).same hn' fun hl=>by
  rcases hvl with h1 | h1
  ·exact hk.2 _ (by omega) (by simp;omega)
  ·exact absurd h1 hl
 have hlm:(l.map (·.id)).length=n:=by rw[mD,hln]
 rw[anz tm htm,t7,t19,t20,t21];by_cases hi:i < n
 ·have r1:=hv'.read jl i (by omega)
  have hset:=Pr (l.map (·.id)) zId n i hlm (by omega)
  rw[List.getElem_map] at hset
  obtain⟨m,hm⟩:∃m,m=(l.map (·.id)).take i++List.replicate (n - i) zId:=⟨_,rfl⟩
  have hll:m.length=n:=by rw[hm,aW,eR,jh];omega
  rw[←hm] at hO' hset;have h0:Own H' c 138 m.length m:=by rw[hll];exact hO'
  have gf:=h0.full;rw[kT] at gf;have hfl:(aD m).length=n*2:=by rw[aw,hll];rfl
  have hcn:=hO'.2.1;have hO2:=h0.keepO (KeepO.of (ow:=[]) (Keep.newPut (H:=H') (o:=.cells false 204 5 [.int .u8 0,.int .i64 0,.int .u8 0,.int .i64 0,.int .i64 0]) (o':=.cells false 204 5 (Cell.cs l[i])))) (by simp);have hO3:=Own.put hO2 kT i (by omega) l[i].id;rw[hset,hll] at hO3;rw[AT,show Cell.cs l[i].id=[IV.int .u8 l[i].id.y,IV.int .i64 l[i].id.n] from rfl] at hO3;clear hO2 hO' hset h0 hm;simp(disch:=omega) only[ak,↓aj,seval,aoY,↓hv'.idx,r1,AT,gf,hfl,show ¬H'.n=c by omega,show ¬c=H'.n by omega,aq,ff,↓FR,FW];exact hN (k - 1) _ _ (by omega) ⟨i+1,by omega,(hk.trans (KeepO.of (ow:=[c]) Keep.newPut) fun x hx=>.inl hx).trans (KeepO.put (by simp)) fun x hx=>.inl hx,hO3,rfl,rfl,rfl,rfl,rfl,rfl⟩
 ·rw[eW (by omega),show n - i=0 by omega,List.replicate_zero,ip] at hO';simp(disch:=omega) only[ak,↓aj,seval,aoY,hJ];have kf:Keep H.n H H':=⟨by have:=kk.1;omega,fun x h1 h2=>(hk.2 x (by have:=kk.1;omega) (by have:=kk.1;simp;omega)).trans ((k23.2 x (by have:=kk.1;omega) (by have:=kk.1;omega)).trans (kk.2 x h1 h2))⟩;exact fun _=>h H' c kf (by have:=kk.1;omega) hO'
def tM(tm:List IV)(h:tm.length=95):=(ch tm 95 h).trans (by simp only[List.range,List.range.loop,bB,bc];exact rfl)
theorem Nh{n0 mb rb tb:Nat}{w3 r f b y c fa:IV}{H:Heap}{ws:List SV}{rl:List (List Lv)}(gm:H.get mb=some (.cells false 147 7 [r,f,b,y,.slice tb 0 6 6 true,c,fa]))
  (gt:Own H tb 140 6 ws) (wn:ws.length=6) (rn:rl.length=6) (rg:∀(i:Nat) (h:i < ws.length) (h':i < rl.length),Tg n0 H 158 ws[i] rl[i]) (hl:∀x∈rl,x.length≤1000000)
  {tm:List IV} {lo:Nat} {Q:Out→Heap→Prop} (hlo:lo≤tb) (hlt:tb < H.n) (hlm:mb < H.n) (htm:tm.length=95) (t0:tm.getD 0 IV.undef=.ptr mb 0) (t2:tm.getD 2 IV.undef=.ptr rb 0) (t3:tm.getD 3 IV.undef=w3) (t39:tm.getD 39 IV.undef=.slice tb 0 6 6 true) (t40:tm.getD 40 IV.undef=.int .i64 6) (t41:tm.getD 41 IV.undef=.int .i64 0)
  (hQ:∀H' tm',KeepO [tb] H H'→tm'.length=95→tm'.getD 0 IV.undef=.ptr mb 0→tm'.getD 2 IV.undef=.ptr rb 0→tm'.getD 3 IV.undef=w3→Q (.ex (.jmp (.exit 2)) ⟨tm',[]⟩) H'):
  W E0 lo (.code (.loop C5) none ⟨tm,[]⟩) H Q:=by
 have e1:mb≠tb:=fun e=>by obtain⟨_,_,r,h3,_⟩:=gt;rw[←e,gm] at h3;cases h3
 refine aO (fun k fr H'=>∃i ws',i+k=6∧KeepO [tb] H H'∧Own H' tb 140 6 ws'∧ws'.length=6∧(∀(j:Nat) (h:j < ws.length) (h':j < ws'.length),i≤j→ws'[j]=ws[j])∧fr.marks=[]∧fr.tm.length=95∧fr.tm.getD 0 IV.undef=.ptr mb 0∧fr.tm.getD 2 IV.undef=.ptr rb 0∧fr.tm.getD 3 IV.undef=w3∧fr.tm.getD 39 IV.undef=.slice tb 0 6 6 true∧fr.tm.getD 40 IV.undef=.int .i64 6∧fr.tm.getD 41 IV.undef=.int .i64 i) ?_ 6
  ⟨0,ws,by omega,KeepO.refl _ _,gt,wn,fun j _ _ _=>rfl,rfl,htm,t0,t2,t3,t39,t40,t41⟩
 clear htm t0 t2 t3 t39 t40 t41;rintro k ⟨tm,mk⟩ H' ⟨i,ws',hik,hk,hO,hw6,hws,rfl,htm,t0,t2,t3,t39,t40,t41⟩ L hN hJ;have hn':=hk.1;rw[tM tm htm,t0,t2,t3,t39,t40,t41];by_cases hi:i < 6
 ·have hiw:i < ws.length:=by omega
  have hir:i < rl.length:=by omega
  have hi':i < ws'.length:=by omega
  have hwi:=hws i hiw hi' (au _)
  have r1:H'.read tb i 1=some [ws[i].iv]:=by
   have:=(hO.sl true).read mG i hi'
   rw[sA,hwi] at this;simpa [SV.blk,SV.off] using this
  have hne:ws[i].blk≠tb:=fun e=>by
   obtain⟨b,ex,hb,_,_,_,r,h3,_⟩:=rg i hiw hir;rw[hb] at e;have e:b=tb:=e;obtain⟨_,_,r',h4,_⟩:=gt;rw[e,h4] at h3;cases h3
  have hv:=((rg i hiw hir).keepO hk (by simpa using hne)).sl;have gm':=(hk.2 mb hlm (by simpa using e1)).trans gm;have rm:=af gm';have hll:=hl _ (bm hir);have h0:Own H' tb 140 ws'.length ws':=by rw[hw6];exact hO
  simp(disch:=omega) only[ak,↓aj,seval,afG,r1,rm,lj,ff,aq,↓FR,FW]
  refine GH hv hll (by omega) fun H2 b2 k2 hb2 o2=>?_;have hn2:=k2.1;have h2:=h0.keep k2;have gf:=h2.full;rw[mG] at gf;have hfl:(aD ws').length=6:=by rw[aw,hw6];rfl
  have hO3:=Own.put h2 mG i hi' (.sl b2 0 rl[i].length rl[i].length true);rw[sA,lj,hw6] at hO3;simp(disch:=omega) only[ak,↓aj,seval,afG,gf,hfl,lj,ff,aq,↓FR,FW];refine hN (k - 1) _ _ (by omega) ⟨i+1,_,by omega,(hk.trans (KeepO.of (ow:=[tb]) k2) fun x hx=>.inl hx).trans (KeepO.put (by simp)) fun x hx=>.inl hx,hO3,by rw[bQ,hw6],fun j h h' hj=>?_,rfl,rfl,rfl,rfl,rfl,rfl,rfl,rfl⟩;rw[jC (by omega)];exact hws j h (by rw[bQ] at h';exact h') (by omega)
 ·simp(disch:=omega) only[ak,↓aj,seval,afG,hJ]
  exact hQ H' _ hk rfl rfl rfl rfl
theorem MW{mb rb cb yb tb e:Nat}{r:Int}{f b fv:SV}{c:IV}{t:List (List Id)}{l:List Crs}{fa:List Id}{z8:List IV}{H:Heap}(gm:H.get mb=some (.cells false 147 7 [.int .i64 r,f.iv,b.iv,.slice yb 0 6 6 true,.slice tb 0 6 6 true,c,fv.iv]))
  (hV:Valid t) (hr: -4≤r∧r≤4) (hf:Sl2 H f (aQ t)) (hb:Sl2 H b (aI t)) (hc:Sl H (.sl cb 0 l.length l.length true) l) (hcl:l.length≤1000000) (hfv:Sl H fv fa) (hfl:fa.length≤1000000)
  (hrb:H.get rb=some (.cells false e 8 z8)) (hz8:z8.length=8) (hrm:rb≠mb) {tm:List IV} {lo:Nat} {Q:Out→Heap→Prop} (hlo:lo≤rb) (hlr:rb < H.n) (hlm:mb < H.n) (htm:tm.length=95) (t0:tm.getD 0 IV.undef=.ptr mb 0) (t2:tm.getD 2 IV.undef=.ptr rb 0) (t3:tm.getD 3 IV.undef=.slice cb 0 l.length l.length true)
  (hQ:∀H' tm' c1 c2 c3,tm'.length=95→tm'.getD 2 IV.undef=.ptr rb 0→H'.get rb=some (.cells false e 8 [.int .i64 r,f.iv,b.iv,.slice yb 0 6 6 true,.slice tb 0 6 6 true,.slice c1 0 l.length l.length true,.slice c2 0 (bU (aQ t) (aI t) r).length (bU (aQ t) (aI t) r).length true,.slice c3 0 fa.length fa.length true])→Q (.ex (.jmp .ret) ⟨tm',[]⟩) H'):
  W E0 lo (.code (.seq C4 (.seq C3 .ret)) none ⟨tm,[]⟩) H Q:=by
 have rm:=af gm;rw[tM tm htm,t0,t2,t3];simp(disch:=omega) only[ak,↓aj,seval,FE,rm,aq,↓FR,FW];refine Em hc hcl (by omega) fun H2 c1 k2 hb1 o2=>?_;have hn2:=k2.1;have gm2:=(k2.2 mb hlm hlm).trans gm;have rm2:=af gm2;clear rm;simp(disch:=omega) only[ak,↓aj,seval,FE,rm2,aq,↓FR,FW];rw[show IV.agg [f.iv,b.iv]=bv f b from rfl];refine ad5 hV hr (hf.keep k2) (hb.keep k2) (by omega) fun H3 c2 k3 hb2 o3=>?_;have hn3:=k3.1;have k23:Keep H.n H H3:=k2.trans (k3.lower hn2);have gm3:=(k23.2 mb hlm hlm).trans gm;have rm3:=af gm3;clear rm2;simp(disch:=omega) only[ak,↓aj,seval,FE,rm3,aq,↓FR,FW];refine yy (hfv.keep k23) hfl (by omega) fun H4 c3 k4 hb3 o4=>?_;have hn4:=k4.1;have k24:Keep H.n H H4:=k23.trans (k4.lower (by omega));have gm4:=(k24.2 mb hlm hlm).trans gm;have gr4:=(k24.2 rb hlr hlr).trans hrb;have rm4:=af gm4;clear rm3;simp(disch:=omega) only[ak,↓aj,seval,FE,rm4,gm4,gr4,hz8,aq,show ¬H4.n=mb by omega,show ¬mb=H4.n by omega,show ¬H4.n=rb by omega,show ¬rb=H4.n by omega,show ¬rb=mb from hrm,show ¬mb=rb from Ne.symm hrm,↓FR,FW]
 obtain⟨z1,z2,z3,z4,z5,z6,z7,z9,hz⟩:∃a b c d e f g h,z8=[a,b,c,d,e,f,g,h]:=by
  match z8,hz8 with
  | [a,b,c,d,e,f,g,h],_=>exact⟨a,b,c,d,e,f,g,h,rfl⟩
 subst hz;refine hQ _ _ c1 c2 c3 rfl rfl ?_;rw[ae,if_pos rfl];rfl
structure MOk(k:Nat)(M:Mc):Prop where
 rows:M.rows.flatten.length≤2048
 fa:M.fa.length≤4*k
 cr:CrOk M.cr
 crl:M.cr.length≤6000*k
theorem Of(cr:List (Id×Id×Int))(a b:Id)(n:Int):(sB cr a b n).length≤cr.length+1:=by
 unfold sB;split
 ·rw[bQ];omega
 ·simp
theorem Oh(cr:List (Id×Id×Int))(a b:Id):(sC cr a b).length≤cr.length:=by
 unfold sC;split
 ·exact(kc _ _).length_le
 ·exact au _
theorem RL{M M':Mc}{c:Cr}(h:zl M c=.ok M'):M'.cr.length≤M.cr.length+1:=by
 unfold zl at h;split at h
 ·cases h
 split at h
 ·injection h with h;subst h;exact dr (Oh _ _ _) (pO _)
 ·injection h with h;subst h;exact Of _ _ _ _
theorem A1:∀{l:List Cr} {M M':Mc},iy l M=.ok M'→M'.cr.length≤M.cr.length+l.length
 | [],M,M',h=>by injection h with h;subst h;simp
 | c::l,M,M',h=>by
   unfold iy at h;split at h
   ·cases h
   ·rename_i M1 h1;have a:=RL h1;have b:=A1 h;rw[fe];omega
theorem MT{M M':Mc}{d:Int}(hv:Valid M.t)(h:stepM M d=.ok M'):M'.cr.length≤M.cr.length+640:=by
 have hB:=hZ hv.len;have hs:=zY (fs:=aQ M.t) (bs:=aI M.t) (by omega) (fun x hx=>hv.four x (fl hx)) (fun x hx=>hv.four x (dw hx)) M.rack d;unfold stepM at h;split at h
 ·cases h
 split at h
 ·cases h
 ·have:=A1 h
  simp only at this;omega
theorem AD:∀(n:Nat) {M M':Mc} {r:Int},Valid M.t→CrOk M.cr→m8 n M r=.ok M'→M'.cr.length≤M.cr.length+640*n
 | 0,M,M',r,hv,hc,h=>by injection h with h;subst h;omega
 | n+1,M,M',r,hv,hc,h=>by
   rw[jG n M] at h;split at h
   ·injection h with h;subst h;omega
   ·split at h
    ·cases h
    ·rename_i M1 h1;obtain⟨_,a2,a3,a4,a5⟩:=qY hc h1;have b:=MT hv h1;have c:=AD n (by rw[a2];exact hv) (by exact a5) h;simp only at c;omega
theorem uC{α:Type}:∀(l:List (List α)) (i:Nat) (x:α),(l.set i (l.getD i []++[x])).flatten.length≤l.flatten.length+1
 | [],i,x=>by simp
 | a::l,0,x=>by simp[aW];omega
 | a::l,i+1,x=>by
   have:=uC l i x
   simp only[List.set_cons_succ,up,aW,List.getD_cons_succ] at this⊢;omega
theorem Es{k:Nat}{M M':Mc}{o:Opn}{thr st:List Id}(hm:MOk k M)(h:uA M o thr st=.ok M'):MOk (k+1) M':=by
 unfold uA at h;split at h
 ·cases h
 split at h
 ·cases h
 split at h
 ·cases h
 rename_i hr;split at h
 ·cases h
 ·injection h with h;subst h
  have:=uC M.rows (o.y - 1).toNat ⟨o.b,(M.ys.getD (o.y - 1).toNat od).new,thr,(M.ys.getD (o.y - 1).toNat od).pend⟩
  exact⟨by show(M.rows.set _ _).flatten.length≤_;omega,by have:=hm.fa;show M.fa.length≤_;omega,hm.cr,by have:=hm.crl;show M.cr.length≤_;omega⟩
theorem MOk.same{k:Nat}{M M':Mc}(hm:MOk k M)(h1:M'.rows=M.rows)(h2:M'.fa=M.fa)(h3:M'.cr=M.cr):MOk (k+1) M':=
 ⟨by rw[h1];exact hm.rows,by rw[h2];have:=hm.fa;omega,by rw[h3];exact hm.cr,by rw[h3];have:=hm.crl;omega⟩
theorem anJ{k:Nat}{M M':Mc}{o:Opn}(hm:MOk k M)(hv:Valid M.t)(h:doM M o=.ok M'):MOk (k+1) M':=by
 unfold doM at h;split at h
 ·cases h
 rename_i he;have he:Qf o=0:=Classical.not_not.1 he;obtain⟨r1,r2,k1,k8,p1,p2,p4,p7⟩:=Gv he;split at h
 ·unfold inM at h;split at h
  ·cases h
  ·injection h with h;subst h;exact hm.same rfl rfl rfl
 split at h
 ·unfold NE at h;split at h
  ·injection h with h;subst h;exact hm.same rfl rfl rfl
  ·cases h
 split at h
 ·unfold It at h;obtain⟨a1,a2,a3,a4⟩:=Ek 8 hm.cr h;have a5:=AD 8 hv hm.cr h;exact⟨by rw[a2];exact hm.rows,by rw[a3];have:=hm.fa;omega,a4,by have:=hm.crl;omega⟩
 split at h
 ·unfold Ew at h;split at h
  ·cases h
  ·split at h
   ·cases h
   ·rename_i M1 h1;obtain⟨q1,q2,q3,q4,q5⟩:=i6 h1;have hm1:MOk k M1:=⟨by rw[q3];exact hm.rows,by rw[q5];exact hm.fa,by rw[q4];exact hm.cr,by rw[q4];exact hm.crl⟩;exact Es hm1 h
 split at h
 ·unfold DB at h;split at h
  ·cases h
  ·split at h
   ·cases h
   ·rename_i M1 h1;obtain⟨q1,q2,q3,q4,q5⟩:=i6 h1;have hm1:MOk k M1:=⟨by rw[q3];exact hm.rows,by rw[q5];exact hm.fa,by rw[q4];exact hm.cr,by rw[q4];exact hm.crl⟩;split at h
    ·cases h
    ·exact Es hm1 h
 split at h
 ·unfold El at h;split at h
  ·cases h
  ·obtain⟨q1,q2,q3,q4,q5⟩:=i6 h;exact hm.same q3 q5 q4
 split at h
 ·unfold Dv at h;split at h
  ·cases h
  split at h
  ·cases h
  split at h
  ·cases h
  split at h
  ·cases h
  ·injection h with h;subst h;exact hm.same rfl rfl rfl
 ·unfold EU at h;split at h
  ·cases h
  split at h
  ·cases h
  ·injection h with h;subst h
   have h4:(zx M o).length≤4:=by
    have:=jt (aQ M.t) (aI M.t) o.b o.a 4 (fun l hl=>hv.four l (fl hl)) (fun l hl=>hv.four l (dw hl))
    rw[jd M.t (p7 (by omega))] at this;exact this
   exact⟨hm.rows,by show(M.fa++zx M o).length≤_;rw[aW];have:=hm.fa;omega,hm.cr,by have:=hm.crl;show M.cr.length≤_;omega⟩
theorem AF{M:Mc}{o:Opn}{thr st:List Id}{e:Int}(h:uA M o thr st=.error e):¬e=0:=by
 unfold uA at h;split at h
 ·injection h with h;subst h;decide
 split at h
 ·injection h with h;subst h;decide
 split at h
 ·injection h with h;subst h;decide
 split at h
 ·injection h with h;subst h;assumption
 ·cases h
theorem AE:∀(n:Nat) {M:Mc} {r e:Int},m8 n M r=.error e→¬e=0
 | 0,M,r,e,h=>by cases h
 | n+1,M,r,e,h=>by
   rw[jG n M] at h;split at h
   ·cases h
   ·split at h
    ·rename_i h1;injection h with h;subst h;exact tn h1
    ·exact AE n h
theorem IF{M:Mc}{o:Opn}{e:Int}(h:doM M o=.error e):¬e=0:=by
 unfold doM at h;split at h
 ·injection h with h;subst h;assumption
 split at h
 ·unfold inM at h;split at h
  ·injection h with h;subst h;decide
  ·cases h
 split at h
 ·unfold NE at h;split at h
  ·cases h
  ·injection h with h;subst h;decide
 split at h
 ·exact AE 8 h
 split at h
 ·unfold Ew at h;split at h
  ·rename_i h1;injection h with h;subst h;rw[iI h1];decide
  ·split at h
   ·rename_i h1;injection h with h;subst h;exact lF h1
   ·exact AF h
 split at h
 ·unfold DB at h;split at h
  ·rename_i h1;injection h with h;subst h;rw[iI h1];decide
  ·split at h
   ·rename_i h1;injection h with h;subst h;exact lF h1
   ·split at h
    ·injection h with h;subst h;decide
    ·exact AF h
 split at h
 ·unfold El at h;split at h
  ·rename_i h1;injection h with h;subst h;rw[iI h1];decide
  ·exact lF h
 split at h
 ·unfold Dv at h;split at h
  ·injection h with h;subst h;decide
  split at h
  ·injection h with h;subst h;decide
  split at h
  ·injection h with h;subst h;decide
  split at h
  ·injection h with h;subst h;assumption
  ·cases h
 ·unfold EU at h;split at h
  ·injection h with h;subst h;decide
  split at h
  ·injection h with h;subst h;assumption
  ·cases h
def re(i:Nat)(M:Mc):List Opn→Except (Nat×Int) Mc
 | []=>.ok M
 | o::l=>match doM M o with
   | .error e=>.error (i,e)
   | .ok M'=>re (i+1) M' l
def cu(l:List Opn):Int:=match re 0 M0 l with
 | .error p=>p.2
 | .ok _=>0
def PS(l:List Opn):Nat:=match re 0 M0 l with
 | .error p=>p.1
 | .ok _=>l.length
theorem aqg:MOk 0 M0:=⟨by decide,by decide,(fun e he=>by cases he),by decide⟩
def ax4(k:Int):Int:=if k=4∨k=5∨k=6 then 1 else if k=7 then 2 else if k=8 then 3 else 0
def auF(tm:List IV)(h:tm.length=67):=(ch tm 67 h).trans (by simp only[List.range,List.range.loop,bB,bc];exact rfl)
structure Vis(L x:Nat)(v:SV)(l:List Opn)(n0 lo:Nat)(J:Heap→Prop):Prop where
 hx:∀H',J H'→H'.get x=some (.cells false 22 1 [v.iv])∧Sl H' v l∧x < H'.n∧n0≤H'.n
 keep:∀H' H'',J H'→Keep H'.n H' H''→J H''
 step:∀(a n:Nat) (H':Heap),J H'→a+n≤l.length→∀K:Out→Heap→Prop,(∀H'',J H''→H'.n≤H''.n→(∀y,n0≤y→y < H'.n→(∃cs,H'.get y=some (.cells false 56 6 cs))→H''.get y=H'.get y)→K (.val (.bool true)) H'')→W E0 lo (.apply (.yield L) [.agg [.int .i64 a,.int .i64 n]]) H' K
def awH(z:Nat)(H:Heap)(v:SV):Prop:=
 match v with
 | .nil=>True
 | .sl b _ _ _ ex=>ex=true∨zM H b z=true
def psl(v:SV)(a n:Nat):SV:=
 match v with
 | .nil=>.nil
 | .sl b o _ c ex=>.sl b (o+a*6) n (c - a) ex
def CJ(n0 L nb:Nat)(lp:IObj)(Hs:Heap)(H':Heap):Prop:=(∃n:Int,H'.get nb=some (.cells false 3 1 [.int .i64 n]))∧H'.get L=some lp∧n0≤H'.n∧∀y,y < n0→y≠nb→y≠L→H'.get y=Hs.get y
def auI(tm:List IV)(h:tm.length=34):=(ch tm 34 h).trans (by simp only[List.range,List.range.loop,bB,bc];exact rfl)
def apK(H:Heap)(b:Nat):Prop:=∃n:Int,H.get b=some (.cells false 3 1 [.int .i64 n])
def TJ(n0 L nb rb:Nat)(lp:IObj)(Hs:Heap)(H':Heap):Prop:=apK H' nb∧apK H' rb∧H'.get L=some lp∧n0≤H'.n∧∀y,y < n0→y≠nb→y≠rb→y≠L→H'.get y=Hs.get y
end Go.Iso.Gen
end
