/-
  machines that run.
-/
import Derived.Test.YtpnbiapmndbhgaaGreatDoorFnU
set_option linter.unusedSimpArgs false
set_option linter.unusedVariables false
set_option maxHeartbeats 16000000
set_option maxRecDepth 20000
set_option linter.defProp false
section
namespace Go.Iso.Gen
open Go.Iso Go.Proofs
theorem vN{α β:Type}{f:Nat→α→β}{l:List α}{x:β}(h:x∈l.mapIdx f):∃i a,a∈l∧x=f i a:=by
 obtain⟨i,hi,rfl⟩:=List.mem_iff_getElem.1 h;rw[List.length_mapIdx] at hi;exact⟨i,l[i],List.getElem_mem _,by rw[List.getElem_mapIdx]⟩
theorem JU{t:List (List Id)}(hv:Valid t)(r d p:Int):∀q∈j5 (aG t) r d p,Rz q:=by
 have key:∀q∈j6 (aG t) r d p,Rz q:=by
  intro q hq;unfold j6 at hq;obtain⟨l,hl,hq⟩:=List.mem_flatten.1 hq;obtain⟨i,st,hst,rfl⟩:=vN hl;unfold sH at hq;split at hq
  ·obtain⟨id,hid,rfl⟩:=List.mem_map.1 hq;refine⟨hv.named id (List.mem_flatten.2 ⟨st,cV hst,hid⟩),?_⟩
   show wU d=0∨wU d=1
   unfold wU;split<;>simp
  ·cases hq
 intro q hq;unfold j5 at hq;split at hq
 ·exact key q (List.mem_reverse.1 hq)
 ·exact key q hq
theorem JV{t:List (List Id)}(hv:Valid t)(r d p:Int):(j5 (aG t) r d p).length≤1000:=by
 have h:=rS (bs:=aG t) (fun x hx=>hv.four x (cV hx)) r d p (aG t).length (Nat.le_refl _);rw[rU] at h;have hB:=gJ hv.len;unfold j5;split
 ·rw[List.length_reverse];omega
 ·omega
theorem FY(fs bs:List (List Id))(r d:Int):∀c∈kX fs bs r d,c.s=1∨c.s= -1:=by
 have key:∀c∈j3 fs bs r d,c.s=1∨c.s= -1:=by
  intro c hc;unfold j3 at hc;obtain⟨l,hl,hc⟩:=List.mem_flatten.1 hc;obtain⟨i,st,hst,rfl⟩:=vN hl;unfold pa at hc;obtain⟨id,hid,hc⟩:=List.mem_flatMap.1 hc;obtain⟨x,hx,rfl⟩:=List.mem_map.1 hc;unfold Fs;split
  ·exact .inl rfl
  ·exact .inr rfl
 intro c hc;unfold kX at hc;split at hc
 ·exact key c (List.mem_reverse.1 hc)
 ·exact key c hc
def CrOk(cr:List (Id×Id×Int)):Prop:=∀e∈cr, -1048576≤e.2.2∧e.2.2≤1048576
theorem Ci(a b:Id):∀(cr:List (Id×Id×Int)) (i:Nat) {j:Nat} {v:Int},tt a b cr i=some (j,v)→∃e∈cr,e.2.2=v
 | [],_,_,_,h=>by cases h
 | (x,y,n)::cr,i,j,v,h=>by
   unfold tt at h;split at h
   ·injection h with h;injection h with h1 h2;exact⟨_,List.mem_cons_self,h2⟩
   ·obtain⟨e,he,hv⟩:=Ci a b cr (i+1) h;exact⟨e,List.mem_cons_of_mem _ he,hv⟩
theorem CrOk.val{cr:List (Id×Id×Int)}(h:CrOk cr)(a b:Id): -1048576≤ll cr a b∧ll cr a b≤1048576:=by
 unfold ll
 cases e:tt a b cr 0 with
 | none=>simp
 | some p=>
   obtain⟨j,v⟩:=p;obtain⟨x,hx,hv⟩:=Ci a b cr 0 e
   have:=h x hx
   simp only[Option.map_some,Option.getD_some];omega
theorem CrOk.set{cr:List (Id×Id×Int)}(h:CrOk cr)(a b:Id){n:Int}(hn: -1048576≤n∧n≤1048576):CrOk (qX cr a b n):=by
 unfold qX;split
 ·intro e he;rcases List.mem_or_eq_of_mem_set he with he | rfl
  ·exact h e he
  ·exact hn
 ·intro e he;rcases List.mem_append.1 he with he | he
  ·exact h e he
  ·rw[List.mem_singleton.1 he];exact hn
theorem CrOk.del{cr:List (Id×Id×Int)}(h:CrOk cr)(a b:Id):CrOk (qY cr a b):=by
 unfold qY;split
 ·exact fun e he=>h e ((iI cr _).subset he)
 ·exact h
theorem FA{M M':Mc}{c:Cr}(hc:CrOk M.cr)(h:wK M c=.ok M'):M'.rack=M.rack∧M'.t=M.t∧M'.ys=M.ys∧M'.rows=M.rows∧M'.fa=M.fa∧CrOk M'.cr:=by
 unfold wK at h;split at h
 ·cases h
 rename_i h1;split at h
 ·injection h with h;subst h;exact⟨rfl,rfl,rfl,rfl,rfl,hc.del _ _⟩
 ·injection h with h;subst h;exact⟨rfl,rfl,rfl,rfl,rfl,hc.set _ _ (by omega)⟩
theorem Cz{M:Mc}{c:Cr}{e:Int}(h:wK M c=.error e):e=3:=by
 unfold wK at h;split at h
 ·injection h with h;exact h.symm
 ·split at h<;>cases h
def gQ:List Cr→Mc→Except Int Mc
 | [],M=>.ok M
 | c::l,M=>match wK M c with
   | .error e=>.error e
   | .ok M'=>gQ l M'
theorem Cy:∀{l:List Cr} {M M':Mc},CrOk M.cr→gQ l M=.ok M'→M'.rack=M.rack∧M'.t=M.t∧M'.ys=M.ys∧M'.rows=M.rows∧M'.fa=M.fa∧CrOk M'.cr
 | [],M,M',hc,h=>by injection h with h;subst h;exact⟨rfl,rfl,rfl,rfl,rfl,hc⟩
 | c::l,M,M',hc,h=>by
   unfold gQ at h
   cases e:wK M c with
   | error x=>rw[e] at h;cases h
   | ok M1=>
     rw[e] at h;obtain⟨a1,a2,a3,a4,a5,a6⟩:=FA hc e;obtain⟨b1,b2,b3,b4,b5,b6⟩:=Cy a6 h;exact⟨b1.trans a1,b2.trans a2,b3.trans a3,b4.trans a4,b5.trans a5,b6⟩
def vA(t:List (List Id))(r d:Int)(y:Yn):Except Int Yn:=
 if y.inn=false then .ok y
 else if kB (aN t) (aG t) r d y.place≠0 then .error (kB (aN t) (aG t) r d y.place)
 else if 4096 < (nu y y.place (j5 (aG t) r d y.place)).pend.length then .error 3
 else .ok (nu y y.place (j5 (aG t) r d y.place))
def lS(t:List (List Id))(r d:Int):List Yn→Except Int (List Yn)
 | []=>.ok []
 | y::ys=>match vA t r d y with
   | .error e=>.error e
   | .ok y'=>match lS t r d ys with
     | .error e=>.error e
     | .ok ys'=>.ok (y'::ys')
theorem sE(t:List (List Id))(r d:Int)(y:Yn)(ys:List Yn):lS t r d (y::ys)=match vA t r d y with
  | .error e=>.error e
  | .ok y'=>match lS t r d ys with
    | .error e=>.error e
    | .ok ys'=>.ok (y'::ys'):=rfl
def stepM(M:Mc)(d:Int):Except Int Mc:=match lS M.t M.rack d M.ys with
 | .error e=>.error e
 | .ok ys=>if iT (aN M.t) (aG M.t) M.rack d≠0 then .error (iT (aN M.t) (aG M.t) M.rack d) else gQ (kX (aN M.t) (aG M.t) M.rack d) {M with ys:=ys}
def zX(tm:List IV)(h:tm.length=92):=(bL tm 92 h).trans (by simp only[List.range,List.range.loop,List.map_cons,List.map_nil];exact rfl)
theorem Tabs.keepO{H H':Heap}{ow:List Nat}(h:Tabs tabs H)(k:KeepO ow H H'){n0:Nat}(hn:tabs.length≤n0)(ho:∀x∈ow,n0≤x):Tabs tabs H':=
 h.keep k.1 fun i hi=>k.2 i (by have:=h.1;omega) fun hx=>by have:=ho i hx;omega
theorem Hv{n0 mb:Nat}{H:Heap}{ow:List Nat}{L:Ly}{M:Mc}(h:MI n0 mb H ow L M)(hcr:CrOk M.cr){v:SV}{l:List Cr}(hsg:∀c∈l,c.s=1∨c.s= -1)(hvb:∀H',KeepO ow H H'→Sl H' v l){tm:List IV}{lo:Nat}{Q:Out→Heap→Prop}(hlo:lo≤n0)(hn:n0≤H.n)
  (htm:tm.length=92) (t0:tm.getD 0 IV.undef=.ptr mb 0) (t79:tm.getD 79 IV.undef=v.iv) (t80:tm.getD 80 IV.undef=.int .i64 l.length) (t81:tm.getD 81 IV.undef=.int .i64 0)
  (hl:l.length≤1000000)
  (he:∀e H' tm',gQ l M=.error e→KeepO ow H H'→tm'.length=92→tm'.getD 4 IV.undef=.int .i64 e→Q (.ex (.jmp .ret) ⟨tm',[]⟩) H')
  (hq:∀M' H' ow' L' tm',gQ l M=.ok M'→KeepO ow H H'→(∀x∈ow,x∈ow')→(∀x∈ow',x∈ow∨H.n≤x)→MI n0 mb H' ow' L' M'→tm'.length=92→Q (.ex (.jmp (.exit 2)) ⟨tm',[]⟩) H'):
  W E0 lo (.code (.loop (sK Tryz.f124 303)) none ⟨tm,[]⟩) H Q:=by
 refine aM (fun k fr H'=>∃(i:Nat) (ow':List Nat) (L':Ly) (M':Mc),i+k=l.length∧KeepO ow H H'∧(∀x∈ow,x∈ow')∧(∀x∈ow',x∈ow∨H.n≤x)∧MI n0 mb H' ow' L' M'∧CrOk M'.cr∧gQ l M=gQ (l.drop i) M'∧fr.marks=[]∧fr.tm.length=92∧fr.tm.getD 0 IV.undef=.ptr mb 0∧fr.tm.getD 79 IV.undef=v.iv∧fr.tm.getD 80 IV.undef=.int .i64 l.length∧fr.tm.getD 81 IV.undef=.int .i64 i) ?_ l.length
  ⟨0,ow,L,M,by omega,KeepO.refl _ _,fun _ hx=>hx,fun _ hx=>.inl hx,h,hcr,rfl,rfl,htm,t0,t79,t80,t81⟩
 clear htm t0 t79 t80 t81;rintro k ⟨tm,mk⟩ H' ⟨i,ow',L',M',hik,hk,ha,hb,hM,hc,hadd,rfl,htm,t0,t79,t80,t81⟩ L1 hN hJ;have hv:=hvb H' hk;have hn':=hk.1;rw[zX tm htm,t0,t79,t80,t81];by_cases hi:i < l.length
 ·have r1:=hv.read PT i hi;have hd:l.drop i=l[i]::l.drop (i+1):=List.drop_eq_getElem_cons hi;have hsi:=hsg _ (List.getElem_mem hi);simp(disch:=omega) only[ai,↓ah,seval,og,↓hv.idx,r1,SG,ak,↓FR,FW];have kN:Keep H'.n H' ((H'.new (.cells false 248 5 [.int .u8 0,.int .i64 0,.int .u8 0,.int .i64 0,.int .i64 0])).put H'.n (.cells false 248 5 [.int .u8 l[i].a.y,.int .i64 l[i].a.n,.int .u8 l[i].b.y,.int .i64 l[i].b.n,.int .i64 l[i].s])):=Keep.newPut;refine NV (hM.keep kN) hsi (hc.val _ _) hlo (by rw[af,ac];omega) ⟨fun e H2 he2 k2=>?_,fun M2 H2 ow2 L2 he2 k2 ha2 hb2 hM2=>?_⟩
  ·have hz:=Cz he2;subst hz;have hk2:=(hk.trans (KeepO.of (ow:=ow') kN) hb).trans k2 fun x hx=>hb x hx;have hae:gQ l M=.error 3:=by rw[hadd,hd];unfold gQ;rw[he2]
   simp(disch:=omega) only[ai,↓ah,seval,og,hJ,↓FR,FW]
   exact he 3 _ _ hae hk2 rfl rfl
  ·have hk2:=(hk.trans (KeepO.of (ow:=ow') kN) hb).trans k2 fun x hx=>hb x hx
   have hb2':∀x∈ow2,x∈ow∨H.n≤x:=fun x hx=>by
    rcases hb2 x hx with h | h
    ·exact hb x h
    ·rw[af,ac] at h;right;omega
   have hae:gQ l M=gQ (l.drop (i+1)) M2:=by
                               rw[hadd,hd];conv=>lhs;unfold gQ;rw[he2]
   simp(disch:=omega) only[ai,↓ah,seval,og,↓FR,FW]
   exact hN (k - 1) _ _ (by omega) ⟨i+1,ow2,L2,M2,by omega,hk2,fun x hx=>ha2 x (ha x hx),hb2',hM2,(FA hc he2).2.2.2.2.2,hae,rfl,rfl,rfl,rfl,rfl,rfl⟩
 ·have hae:gQ l M=.ok M':=by rw[hadd,List.drop_of_length_le (by omega)];rfl
  simp(disch:=omega) only[ai,↓ah,seval,og,hJ]
  exact hq M' H' ow' L' _ hae hk ha hb hM rfl
theorem A0{n0 mb:Nat}{H:Heap}{ow:List Nat}{L:Ly}{M:Mc}(h:MI n0 mb H ow L M)(ht:Tabs tabs H)(hn1:tabs.length≤n0)(hcr:CrOk M.cr){d:Int}(hd:d=0∨d=1){lo:Nat}{Q:Out→Heap→Prop}(hlo:lo≤n0)(hn:n0≤H.n)
  (hq:MQ n0 mb H ow (stepM M d) Q):W E0 lo (.call 124 [.ptr mb 0,.int .u8 d]) H Q:=by
 have rm:=ae h.gm;have hlt:=h.lo _ h.om;obtain⟨h6,h6'⟩:=h.bv.len6;have hF:=jI M.t;have hB:=gJ h.bv.len;rw[XZ];simp(disch:=omega) only[ai,↓ah,seval,RM,rm,ak,↓FR,FW]
 refine aM (fun k fr H'=>∃(i:Nat) (L':Ly) (done:List Yn),i+k=6∧KeepO ow H H'∧MI n0 mb H' ow L' {M with ys:=done++M.ys.drop i}∧L'.yb=L.yb∧done.length=i∧
   (∀rest,lS M.t M.rack d (M.ys.drop i)=.ok rest→lS M.t M.rack d M.ys=.ok (done++rest))∧(∀e,lS M.t M.rack d (M.ys.drop i)=.error e→lS M.t M.rack d M.ys=.error e)∧fr.marks=[]∧fr.tm.length=92∧fr.tm.getD 0 IV.undef=.ptr mb 0∧fr.tm.getD 1 IV.undef=.int .u8 d∧fr.tm.getD 17 IV.undef=.slice L.yb 0 6 6 true∧fr.tm.getD 18 IV.undef=.int .i64 6∧fr.tm.getD 19 IV.undef=.int .i64 i) ?_ 6
  ⟨0,L,[],by omega,KeepO.refl _ _,h,rfl,rfl,fun _ h=>h,fun _ h=>h,rfl,rfl,rfl,rfl,rfl,rfl,rfl⟩
 clear rm;rintro k ⟨tm,mk⟩ H' ⟨i,L',done,hik,hk,hM,hyb,hdl,hp1,hp2,rfl,htm,t0,t1,t17,t18,t19⟩ L1 hN hJ;have hn':=hk.1;rw[zX tm htm,t0,t1,t17,t18,t19];by_cases hi:i < 6
 ·have hyl:i < L'.yl.length:=by rw[hM.yn];exact hi
  have hys:i < M.ys.length:=by rw[h.ysn];exact hi
  have hdr:M.ys.drop i=M.ys[i]::M.ys.drop (i+1):=List.drop_eq_getElem_cons hys
  have hyi:L'.yl[i].y=M.ys[i]:=by
   have hlen2:i < (done++M.ys.drop i).length:=by rw[List.length_append,List.length_drop];omega
   have:=hM.ysI hyl hlen2
   rw[this,List.getElem_append_right (by omega),List.getElem_drop];congr 1;omega
  have ry:=hM.readY hyl;rw[sS,hyb] at ry;have hokY:OkY L'.yl[i].y:=h.yo _ (by rw[hyi];exact List.getElem_mem _);have hlty:=hM.lo _ hM.oy;rw[hyb] at hlty;have hltm:=hM.lo _ hM.om;rw[hdr] at hp1 hp2;rw[sE] at hp1 hp2;rw[←hyi] at hp1 hp2;have kN:∀o1 o2,Keep H'.n H' ((H'.new o1).put H'.n o2):=fun o1 o2=>Keep.newPut
  cases hin:L'.yl[i].y.inn with
  | false=>
    have hpy:vA M.t M.rack d L'.yl[i].y=.ok L'.yl[i].y:=by unfold vA;rw[if_pos hin]
    rw[hpy] at hp1 hp2;simp only at hp1 hp2
    have hM2:MI n0 mb H' ow L' {M with ys:=(done++[L'.yl[i].y])++M.ys.drop (i+1)}:=by
     rw[List.append_assoc,List.singleton_append,hyi,←hdr];exact hM
    simp(disch:=omega) only[ai,↓ah,seval,og,ry,ak,hin,↓FR,FW]
    exact hN (k - 1) _ _ (by omega) ⟨i+1,L',done++[L'.yl[i].y],by omega,hk.trans (KeepO.of (ow:=ow) (kN _ _)) fun x hx=>.inl hx,hM2.keep (kN _ _),hyb,by rw[List.length_append,hdl];rfl,
     fun rest hr=>by have:=hp1 (L'.yl[i].y::rest) (by rw[hr]);rw[this,List.append_assoc];rfl,fun e hr=>hp2 e (by rw[hr]),rfl,rfl,rfl,rfl,rfl,rfl,rfl⟩
  | true=>
    have htH:=Tabs.keepO ht hk hn1 fun x hx=>(h.lo x hx).1;have hMk:=hM.keep (kN (.cells false 133 5 [.bool false,.int .i64 0,.int .i64 0,.bool false,.nilSlice]) (.cells false 133 5 [.bool true,.int .i64 L'.yl[i].y.place,.int .i64 L'.yl[i].y.count,.bool L'.yl[i].y.new,L'.yl[i].v.iv]));have rm:=ae hM.gm
    have hpy:vA M.t M.rack d L'.yl[i].y=if kB (aN M.t) (aG M.t) M.rack d L'.yl[i].y.place≠0 then .error (kB (aN M.t) (aG M.t) M.rack d L'.yl[i].y.place)
     else if 4096 < (nu L'.yl[i].y L'.yl[i].y.place (j5 (aG M.t) M.rack d L'.yl[i].y.place)).pend.length then .error 3 else .ok (nu L'.yl[i].y L'.yl[i].y.place (j5 (aG M.t) M.rack d L'.yl[i].y.place)):=by unfold vA;rw[if_neg (by rw[hin];decide)]
    simp(disch:=omega) only[ai,↓ah,seval,og,ry,rm,ak,hin,show ¬H'.n=mb by omega,↓FR,FW]
    refine GH M.rack d L'.yl[i].y.place (htH.keep' (kN _ _)) (show Sl2 _ L'.f (aN M.t) from hMk.bf.unoff) (show Sl2 _ L'.b (aG M.t) from hMk.bb.unoff) (by omega) (by omega) h6 h6' (by rw[af,ac];omega) (by omega) (fun H3 k3 he=>?_) fun H3 w k3 he f3=>?_
    ·have hme:stepM M d=.error (kB (aN M.t) (aG M.t) M.rack d L'.yl[i].y.place):=by
      unfold stepM;rw[hp2 _ (by rw[hpy,if_pos he])]
     rw[hme] at hq;generalize kB (aN M.t) (aG M.t) M.rack d L'.yl[i].y.place=e at he hq;simp(disch:=omega) only[ai,↓ah,seval,og,he,hJ,↓FR,FW];exact hq.1 e _ rfl (hk.trans (KeepO.of (ow:=ow) ((kN _ _).trans (k3.lower (by rw[af,ac];omega)))) fun x hx=>.inl hx)
    ·rw[if_neg (fun h=>h he)] at hpy;have hn3:=k3.1;rw[af,ac] at hn3;have g3:=k3.2 H'.n (by rw[af,ac];omega) (by rw[af,ac];omega);rw[aa,if_pos rfl] at g3;have kk:Keep H'.n H' H3:=(kN _ _).trans (k3.lower (by rw[af,ac];omega));have hM3:=hM.keep kk;have r3:=ae g3;have rm3:=ae hM3.gm;have hv3:=(hM3.yd _ (List.getElem_mem hyl)).unoff;have su:=f3.sl;have hle:=JV h.bv M.rack d L'.yl[i].y.place;have hmo:=JU h.bv M.rack d L'.yl[i].y.place;have hodd:=hokY.pl hin;generalize j5 (aG M.t) M.rack d L'.yl[i].y.place=ml at *;clear rm hMk k3 ry;simp(disch:=omega) only[ai,↓ah,seval,og,r3,rm3,hyb,ak,↓FR,FW];have hag:(IV.agg [.bool true,.int .i64 L'.yl[i].y.place,.int .i64 L'.yl[i].y.count,.bool L'.yl[i].y.new,L'.yl[i].v.iv])=.agg (mI L'.yl[i].y L'.yl[i].v):=by unfold mI;rw[hin]
     rw[hag];refine Pu hokY hodd hv3 su (by omega) hmo (by omega) (fun H4 e k4 hc=>?_) fun H4 b4 k4 _ hle4 hb4 o4=>?_
     ·obtain⟨hlong,rfl⟩:4096 < (nu L'.yl[i].y L'.yl[i].y.place ml).pend.length∧e=3:=by
       rcases hc with⟨h1,_⟩ | ⟨_,h2,h3⟩
       ·rw[hin] at h1;cases h1
       ·exact⟨h2,h3⟩
      have hme:stepM M d=.error 3:=by
       unfold stepM;rw[hp2 _ (by rw[hpy,if_pos hlong])]
      rw[hme] at hq;have hM4:=hM3.keep k4;have gy4:=hM4.fullY;rw[hyb] at gy4;have hfl:(aB L'.yl).length=30:=by rw[ao,hM.yn];rfl
      simp(disch:=omega) only[ai,↓ah,seval,og,mI,gy4,hfl,hJ,↓FR,FW]
      refine hq.1 3 _ rfl ((hk.trans (KeepO.of (ow:=ow) (kk.trans (k4.lower (by omega)))) fun x hx=>.inl hx).trans (KeepO.put h.oy) fun x hx=>.inl hx)
     ·rw[if_neg (by omega)] at hpy;rw[hpy] at hp1 hp2;simp only at hp1 hp2;have hM4:=hM3.keep k4;have gy4:=hM4.fullY;rw[hyb] at gy4;have hfl:(aB L'.yl).length=30:=by rw[ao,hM.yn];rfl
      have hb4':b4∉ow:=fun hx=>by have:=(hM.lo _ hx).2;omega
      have h5:=hM4.setY hi (JL hokY hodd hin hmo hle4) (v:=.sl b4 0 (nu L'.yl[i].y L'.yl[i].y.place ml).pend.length (nu L'.yl[i].y L'.yl[i].y.place ml).pend.length true) ((o4.sl true).onto fun _=>hb4');rw[hyb] at h5
      have hset:(done++M.ys.drop i).set i (nu L'.yl[i].y L'.yl[i].y.place ml)=(done++[nu L'.yl[i].y L'.yl[i].y.place ml])++M.ys.drop (i+1):=by
       rw[hdr,List.set_append_right _ _ (by omega),hdl,Nat.sub_self,List.set_cons_zero,List.append_assoc];rfl
      have h5:MI n0 mb _ ow _ {M with ys:=(done++M.ys.drop i).set i (nu L'.yl[i].y L'.yl[i].y.place ml)}:=h5;rw[hset] at h5;clear hM3 su hv3 o4 hmo f3 rm3;simp(disch:=omega) only[ai,↓ah,seval,og,mI,gy4,hfl,↓FR,FW]
      exact hN (k - 1) _ _ (by omega) ⟨i+1,_,done++[nu L'.yl[i].y L'.yl[i].y.place ml],by omega,
       (hk.trans (KeepO.of (ow:=ow) (kk.trans (k4.lower (by omega)))) fun x hx=>.inl hx).trans (KeepO.put h.oy) fun x hx=>.inl hx,h5,rfl,by rw[List.length_append,hdl];rfl,
       fun rest hr=>by have:=hp1 (nu L'.yl[i].y L'.yl[i].y.place ml::rest) (by rw[hr]);rw[this,List.append_assoc];rfl,fun e hr=>hp2 e (by rw[hr]),rfl,rfl,rfl,rfl,rfl,rfl,rfl⟩
 ·have hdn:M.ys.drop i=[]:=List.drop_of_length_le (by rw[h.ysn];omega);rw[hdn] at hM hp1 hp2;rw[List.append_nil] at hM;have hpp:=hp1 [] rfl;rw[List.append_nil] at hpp;unfold stepM at hq;rw[hpp] at hq;simp only at hq;have hi6:i=6:=by omega
  have htH:=Tabs.keepO ht hk hn1 fun x hx=>(h.lo x hx).1;have rm:=ae hM.gm;clear hp1 hp2 hN;simp(disch:=omega) only[ai,↓ah,seval,og,hi6,hJ,rm,ak,↓FR,FW];refine JE M.rack d htH (show Sl2 _ L'.f (aN M.t) from hM.bf.unoff) (show Sl2 _ L'.b (aG M.t) from hM.bb.unoff) (by omega) (by omega) h6 h6' (by omega) (by omega) (fun H3 k3 he=>?_) fun H3 v k3 he f3=>?_
  ·rw[if_pos he] at hq;generalize iT (aN M.t) (aG M.t) M.rack d=e at he hq;simp(disch:=omega) only[ai,↓ah,seval,RM,he,↓FR,FW];exact hq.1 e _ rfl (hk.trans (KeepO.of (ow:=ow) k3) fun x hx=>.inl hx)
  ·rw[if_neg (fun h=>h he)] at hq;have hM3:=hM.keep k3;have hn3:=k3.1;have su:=f3.sl;have hk3:KeepO ow H H3:=hk.trans (KeepO.of (ow:=ow) k3) fun x hx=>.inl hx
   have hvb:∀H5,KeepO ow H3 H5→Sl H5 v (kX (aN M.t) (aG M.t) M.rack d):=fun H5 k5=>by
    rcases f3 with⟨rfl,e⟩ | ⟨b,rfl,hb,o⟩
    ·rw[e];exact Sl.empty
    ·exact(o.keepO k5 fun hx=>by have:=(hM.lo _ hx).2;omega).sl true
   have hsg:=FY (aN M.t) (aG M.t) M.rack d;have hl:(kX (aN M.t) (aG M.t) M.rack d).length≤1000000:=by have:=xp (fs:=aN M.t) (bs:=aG M.t) (by omega) (fun x hx=>h.bv.four x (eD hx)) (fun x hx=>h.bv.four x (cV hx)) M.rack d;omega
   generalize kX (aN M.t) (aG M.t) M.rack d=l at *;simp(disch:=omega) only[ai,↓ah,seval,ua,tZ,tY,tX,tW,tV,tU,tT,tS,tR,qb,qa,p9,p8,pZ,pY,pX,pW,pV,pU,pT,pS,pR,(ax Tryz.f124 1),Eo,↓su.ln,↓FR,FW];refine Hv (M:={M with ys:=done}) hM3 hcr hsg hvb hlo (by omega) rfl rfl rfl rfl rfl hl (fun e H5 Iw he5 k5 hl5 h45=>?_) fun M5 H5 ow5 L5 Iw he5 k5 ha5 hb5 hM5 hl5=>?_
   ·rw[zX Iw hl5,h45];simp(disch:=omega) only[ai,↓ah,seval,ua,tZ,tY,tX,tW,tV,tU,tT,tS,tR,qb,qa,p9,p8,pZ,pY,pX,pW,pV,pU,pT,pS,pR,(ax Tryz.f124 1),Eo];exact hq.1 e _ he5 (hk3.trans k5 fun x hx=>.inl hx)
   ·rw[zX Iw hl5];simp(disch:=omega) only[ai,↓ah,seval,ua,tZ,tY,tX,tW,tV,tU,tT,tS,tR,qb,qa,p9,p8,pZ,pY,pX,pW,pV,pU,pT,pS,pR,(ax Tryz.f124 1),Eo];refine hq.2 _ _ _ _ he5 (hk3.trans k5 fun x hx=>.inl hx) ha5 (fun x hx=>?_) hM5;rcases hb5 x hx with h | h
    ·exact .inl h
    ·right;omega
def Q2(tm:List IV)(h:tm.length=42):=(bL tm 42 h).trans (by simp only[List.range,List.range.loop,List.map_cons,List.map_nil];exact rfl)
def nh:Nat→Mc→Int→Except Int Mc
 | 0,M,_=>.ok M
 | n+1,M,r=>if M.rack=r then .ok M else match stepM M (if r < M.rack then 0 else 1) with
   | .error e=>.error e
   | .ok M'=>nh n {M' with rack:=if r < M.rack then M.rack - 1 else M.rack+1} r
theorem jA(n:Nat)(M:Mc)(r:Int):nh (n+1) M r=if M.rack=r then .ok M else match stepM M (if r < M.rack then 0 else 1) with
  | .error e=>.error e
  | .ok M'=>nh n {M' with rack:=if r < M.rack then M.rack - 1 else M.rack+1} r:=rfl
theorem JS(n:Nat){M:Mc}{r:Int}(h:M.rack=r):nh n M r=.ok M:=by
 cases n with
 | zero=>rfl
 | succ n=>rw[jA,if_pos h]
theorem qh{M M':Mc}{d:Int}(hc:CrOk M.cr)(h:stepM M d=.ok M'):M'.rack=M.rack∧M'.t=M.t∧M'.rows=M.rows∧M'.fa=M.fa∧CrOk M'.cr:=by
 unfold stepM at h;split at h
 ·cases h
 ·split at h
  ·cases h
  ·obtain⟨a1,a2,a3,a4,a5,a6⟩:=Cy (by exact hc) h;exact⟨a1,a2,a4,a5,a6⟩
theorem rD{M:Mc}{d e:Int}(h:stepM M d=.error e):¬e=0:=by
 have adds:∀(l:List Cr) (M:Mc) (e:Int),gQ l M=.error e→¬e=0:=by
  intro l
  induction l with
  | nil=>intro M e h;cases h
  | cons c l ih=>
    intro M e h;unfold gQ at h;split at h
    ·rename_i h2;injection h with h;subst h;rw[Cz h2];decide
    ·exact ih _ _ h
 have pass:∀(l:List Yn) (e:Int),lS M.t M.rack d l=.error e→¬e=0:=by
  intro l
  induction l with
  | nil=>intro e h;cases h
  | cons y l ih=>
    intro e h;rw[sE] at h;split at h
    ·rename_i h2;injection h with h;subst h;unfold vA at h2;split at h2
     ·cases h2
     split at h2
     ·injection h2 with h2;subst h2;assumption
     split at h2
     ·injection h2 with h2;subst h2;decide
     ·cases h2
    ·split at h
     ·rename_i h2;injection h with h;subst h;exact ih _ h2
     ·cases h
 unfold stepM at h;split at h
 ·rename_i h2;injection h with h;subst h;exact pass _ _ h2
 ·split at h
  ·injection h with h;subst h;assumption
  ·exact adds _ _ _ h
theorem BC:∀(n:Nat) {M M':Mc} {r:Int},CrOk M.cr→nh n M r=.ok M'→M'.t=M.t∧M'.rows=M.rows∧M'.fa=M.fa∧CrOk M'.cr
 | 0,M,M',r,hc,h=>by injection h with h;subst h;exact⟨rfl,rfl,rfl,hc⟩
 | n+1,M,M',r,hc,h=>by
   rw[jA] at h;split at h
   ·injection h with h;subst h;exact⟨rfl,rfl,rfl,hc⟩
   ·split at h
    ·cases h
    ·rename_i M1 h1;obtain⟨_,a2,a3,a4,a5⟩:=qh hc h1;obtain⟨b1,b2,b3,b4⟩:=BC n (by exact a5) h;exact⟨b1.trans a2,b2.trans a3,b3.trans a4,b4⟩
def Fb(M:Mc)(o:Opn):Except Int Mc:=nh 8 M o.r
theorem GO{n0 mb:Nat}{H:Heap}{ow:List Nat}{L:Ly}{M:Mc}(h:MI n0 mb H ow L M)(ht:Tabs tabs H)(hn1:tabs.length≤n0)(hcr:CrOk M.cr){o:Opn}(hr: -4≤o.r∧o.r≤4){lo:Nat}{Q:Out→Heap→Prop}(hlo:lo≤n0)(hn:n0≤H.n)
  (hq:MQ n0 mb H ow (Fb M o) Q):W E0 lo (.call 71 [.ptr mb 0,.agg [.int .u8 o.k,.int .u8 o.d,.int .u8 o.b,.int .i64 o.a,.int .u8 o.y,.int .i64 o.r]]) H Q:=by
 unfold Fb at hq;rw[c71];simp(disch:=omega) only[ai,↓ah,seval,Zq,ak,↓FR,FW];generalize hH_H1:Heap.new _ _=H1;have hnH1:H1.n=H.n+1:=by rw[←hH_H1];rfl
 have g0:=congrArg (fun h0=>Heap.get h0 (H.n)) hH_H1.symm;simp(disch:=omega) only[ai,↓ah,seval] at g0
 have kH1:Keep H.n H H1:=⟨by omega,fun x hx _=>by
  have gx:=congrArg (fun h0=>Heap.get h0 x) hH_H1.symm;simp(disch:=omega) only[ai,↓ah,seval] at gx;exact gx⟩
 clear hH_H1;have h1:=h.keep kH1;have ht1:=ht.keep' kH1;have hrk:=h.rk;have hq1:=hq.after (KeepO.of kH1) (fun _ hx=>hx) fun _ hx=>.inl hx
 refine aM (fun k fr H'=>∃(ow':List Nat) (L':Ly) (M':Mc),M'.rack - o.r≤k∧o.r - M'.rack≤k∧KeepO ow H1 H'∧(∀x∈ow,x∈ow')∧(∀x∈ow',x∈ow∨H1.n≤x)∧MI n0 mb H' ow' L' M'∧CrOk M'.cr∧nh 8 M o.r=nh k M' o.r∧fr.marks=[]∧fr.tm.length=42∧fr.tm.getD 0 IV.undef=.ptr mb 0∧fr.tm.getD 3 IV.undef=.ptr H.n 0) ?_ 8
  ⟨ow,L,M,by omega,by omega,KeepO.refl _ _,fun _ hx=>hx,fun _ hx=>.inl hx,h1,hcr,rfl,rfl,rfl,rfl,rfl⟩
 rintro k ⟨tm,mk⟩ H' ⟨ow',L',M',hk1,hk2,hk,ha,hb,hM,hc,hmv,rfl,htm,t0,t3⟩ L1 hN hJ;have hx0:H.n∉ow:=fun hx=>by have:=(h.lo _ hx).2;omega
 have hx0':H.n∉ow':=fun hx=>by rcases hb _ hx with hx | hx;exact hx0 hx;omega
 have hn':=hk.1;have g0':=(hk.2 H.n (by omega) hx0).trans g0;have r0:=ae g0';have rm:=ae hM.gm;have hrk':=hM.rk;rw[Q2 tm htm,t0,t3];by_cases he:M'.rack=o.r
 ·have hok:nh 8 M o.r=.ok M':=by rw[hmv,JS _ he]
  rw[hok] at hq1;simp(disch:=omega) only[ai,↓ah,seval,Ep,r0,rm,he,ak,hJ,↓FR,FW];exact hq1.2 _ _ _ _ rfl hk ha hb hM
 ·obtain⟨n,rfl⟩:∃n,k=n+1:=⟨k - 1,by omega⟩
  rw[jA n M',if_neg he] at hmv;have htH:=Tabs.keepO ht1 hk hn1 fun x hx=>(h.lo x hx).1;have hmbo:mb≠H.n:=fun e=>hx0' (e▸hM.om);by_cases hlt:o.r < M'.rack
  ·rw[if_pos hlt,if_pos hlt] at hmv;simp(disch:=omega) only[ai,↓ah,seval,Ep,r0,rm,he,hlt,ak,↓FR,FW];refine A0 hM htH hn1 hc (.inl rfl) hlo (by omega) ⟨fun e H2 he2 k2=>?_,fun M2 H2 ow2 L2 he2 k2 ha2 hb2 hM2=>?_⟩
   ·rw[he2] at hmv;simp only at hmv;rw[hmv] at hq1;have hz:=rD he2;simp(disch:=omega) only[ai,↓ah,seval,Ep,hJ,↓FR,FW];exact hq1.1 e _ rfl (hk.trans k2 fun x hx=>hb x hx)
   ·rw[he2] at hmv;simp only at hmv;obtain⟨a1,a2,a3,a4,a5⟩:=qh hc he2;have gm2:=hM2.gm;have hlm:=(hM2.lo _ hM2.om).1;have h3:=hM2.setM (r:=M'.rack - 1) (by omega) hM2.bf hM2.bb hM2.bv;simp(disch:=omega) only[ai,↓ah,seval,Ep,gm2,↓FR,FW]
    exact hN n _ _ (by omega) ⟨ow2,_,_,by show M'.rack - 1 - o.r≤_;omega,by show o.r - (M'.rack - 1)≤_;omega,(hk.trans k2 fun x hx=>hb x hx).trans (KeepO.put (ow:=ow2) hM2.om) fun x hx=>by
      rcases hb2 x hx with h | h
      ·exact hb x h
      ·right;omega,fun x hx=>ha2 x (ha x hx),fun x hx=>by
      rcases hb2 x hx with h | h
      ·exact hb x h
      ·right;omega,h3,a5,hmv,rfl,rfl,rfl,rfl⟩
  ·rw[if_neg hlt,if_neg hlt] at hmv;simp(disch:=omega) only[ai,↓ah,seval,Ep,r0,rm,he,hlt,ak,↓FR,FW];refine A0 hM htH hn1 hc (.inr rfl) hlo (by omega) ⟨fun e H2 he2 k2=>?_,fun M2 H2 ow2 L2 he2 k2 ha2 hb2 hM2=>?_⟩
   ·rw[he2] at hmv;simp only at hmv;rw[hmv] at hq1;have hz:=rD he2;simp(disch:=omega) only[ai,↓ah,seval,Ep,hJ,↓FR,FW];exact hq1.1 e _ rfl (hk.trans k2 fun x hx=>hb x hx)
   ·rw[he2] at hmv;simp only at hmv;obtain⟨a1,a2,a3,a4,a5⟩:=qh hc he2;have gm2:=hM2.gm;have hlm:=(hM2.lo _ hM2.om).1;have h3:=hM2.setM (r:=M'.rack+1) (by omega) hM2.bf hM2.bb hM2.bv;simp(disch:=omega) only[ai,↓ah,seval,Ep,gm2,↓FR,FW]
    exact hN n _ _ (by omega) ⟨ow2,_,_,by show M'.rack+1 - o.r≤_;omega,by show o.r - (M'.rack+1)≤_;omega,(hk.trans k2 fun x hx=>hb x hx).trans (KeepO.put (ow:=ow2) hM2.om) fun x hx=>by
      rcases hb2 x hx with h | h
      ·exact hb x h
      ·right;omega,fun x hx=>ha2 x (ha x hx),fun x hx=>by
      rcases hb2 x hx with h | h
      ·exact hb x h
      ·right;omega,h3,a5,hmv,rfl,rfl,rfl,rfl⟩
def CA:List (IV×IV×Nat):=[(.int .u8 1,.fn 69 [] [],0),(.int .u8 2,.fn 70 [] [],1),(.int .u8 3,.fn 71 [] [],2),(.int .u8 4,.fn 72 [] [],3),
 (.int .u8 5,.fn 73 [] [],4),(.int .u8 6,.fn 74 [] [],5),(.int .u8 7,.fn 75 [] [],6),(.int .u8 8,.fn 76 [] [],7)]
theorem Eh{H:Heap}{lo:Nat}{Q:Out→Heap→Prop}(hlo:lo≤H.n)(h:∀H',Keep H.n H H'→H'.get H.n=some (.map CA 8)→H.n < H'.n→Q (.val (.map H.n)) H'):W E0 lo (.call 29 []) H Q:=by
 refine W.pure aX hlo ?_;rw[c29];simp(disch:=omega) only[ai,↓ah,seval,B29,az,aF,dU,bS,aT,IV.cells,bD,qB,Ns];refine fun hk=>h _ hk ?_ ?_
 ·simp only[aa,aj,if_true];rfl
 ·simp only[af,ac];omega
def NK(M:Mc)(o:Opn):Except Int Mc:=
 if zH o≠0 then .error (zH o)
 else if o.k=1 then RR M o else if o.k=2 then GG M o else if o.k=3 then Fb M o else if o.k=4 then BN M o
 else if o.k=5 then AW M o else if o.k=6 then BE M o else if o.k=7 then AP M o else Cc M o
theorem SE{n0 mb:Nat}{H:Heap}{ow:List Nat}{L:Ly}{M:Mc}(h:MI n0 mb H ow L M)(ht:Tabs tabs H)(hn1:tabs.length≤n0)(hcr:CrOk M.cr)(hrl:M.rows.flatten.length≤2048)(hfa:M.fa.length≤1000000){ab:Nat}(hab:H.get ab=some (.map CA 8)){o:Opn}{lo:Nat}{Q:Out→Heap→Prop}(hlo:lo≤n0)(hn:n0≤H.n)(hal:ab < H.n)
  (hq:MQ n0 mb H ow (NK M o) Q):W E0 lo (.call 30 [.ptr mb 0,.map ab,.agg [.int .u8 o.k,.int .u8 o.d,.int .u8 o.b,.int .i64 o.a,.int .u8 o.y,.int .i64 o.r]]) H Q:=by
 unfold NK at hq;rw[c30];simp(disch:=omega) only[ai,↓ah,seval,th,ak,↓FR,FW];generalize hH_H1:Heap.new _ _=H1;have hnH1:H1.n=H.n+1:=by rw[←hH_H1];rfl
 have g0:=congrArg (fun h0=>Heap.get h0 (H.n)) hH_H1.symm;simp(disch:=omega) only[ai,↓ah,seval] at g0
 have kH1:Keep H.n H H1:=⟨by omega,fun x hx _=>by
  have gx:=congrArg (fun h0=>Heap.get h0 x) hH_H1.symm;simp(disch:=omega) only[ai,↓ah,seval] at gx;exact gx⟩
 clear hH_H1;refine Dy o (by omega) fun H2 k2=>?_;have hn2:=k2.1;replace g0:=(k2.2 _ (by omega) (by omega)).trans g0;have kk:Keep H.n H H2:=kH1.trans (k2.lower (by omega));have hq2:=hq.after (KeepO.of kk) (fun _ hx=>hx) fun _ hx=>.inl hx;by_cases he:zH o=0
 ·rw[if_neg (fun h=>h he)] at hq2;obtain⟨r1,r2,k1,k8,p1,p2,p4,p7⟩:=zG he;have r0:=ae g0;have h2:=h.keep kk;have ht2:=ht.keep' kk;have ga:=(kk.2 ab hal hal).trans hab;have hE:∀e H',KeepO ow H2 H'→Q (.val (.int .i64 e)) H'→Q (.val (.int .i64 e)) H':=fun _ _ _ h=>h;have hcase:o.k=1∨o.k=2∨o.k=3∨o.k=4∨o.k=5∨o.k=6∨o.k=7∨o.k=8:=by omega
  have lk:∀(kn:Int) (f:Nat) (t:Nat),aF (false,[Pk.int]) (.int .u8 kn) CA 0=some (some (f,((CA[f]?).map (·.2.1)).getD .nilFunc))→ev1 (.lookup t (false,[.int]) .nilFunc false) [.map ab,.int .u8 kn] lo H2=some (((CA[f]?).map (·.2.1)).getD .nilFunc,H2):=by
   intro kn f t hf;simp only[ev1,az,ga,Option.map_some,bS,aT,qB,Ns,IV.cells,Bool.not_false,Bool.and_self,if_true,hf];rfl
  have mq:∀r,MQ n0 mb H2 ow r Q→MQ n0 mb H2 ow r Q:=fun _ h=>h;rcases hcase with hk | hk | hk | hk | hk | hk | hk | hk
  ·rw[if_pos hk] at hq2;have l1:∀t,ev1 (.lookup t (false,[.int]) .nilFunc false) [.map ab,.int .u8 o.k] lo H2=some (.fn 69 [] [],H2):=fun t=>by rw[hk];exact lk 1 0 t rfl
   have hm:=mq _ hq2;clear hq hq2 mq;simp(disch:=omega) only[ai,↓ah,seval,th,he,r0,↓l1,ak,↓FR,FW];refine Sx h2 (p1 hk).1 (p1 hk).2 hlo (by omega) ⟨fun e H' he' k'=>?_,fun M' H' ow' L' he' k' a b hM=>?_⟩
   ·simp(disch:=omega) only[ai,↓ah,seval,th,↓FR,FW]
    exact hm.1 e _ he' k'
   ·simp(disch:=omega) only[ai,↓ah,seval,th,↓FR,FW]
    exact hm.2 _ _ _ _ he' k' a b hM
  ·rw[if_neg (by omega),if_pos hk] at hq2;have l1:∀t,ev1 (.lookup t (false,[.int]) .nilFunc false) [.map ab,.int .u8 o.k] lo H2=some (.fn 70 [] [],H2):=fun t=>by rw[hk];exact lk 2 1 t rfl
   have hm:=mq _ hq2;clear hq hq2 mq;simp(disch:=omega) only[ai,↓ah,seval,th,he,r0,↓l1,ak,↓FR,FW];refine Qv h2 (p2 hk) hlo (by omega) ⟨fun e H' he' k'=>?_,fun M' H' ow' L' he' k' a b hM=>?_⟩
   ·simp(disch:=omega) only[ai,↓ah,seval,th,↓FR,FW]
    exact hm.1 e _ he' k'
   ·simp(disch:=omega) only[ai,↓ah,seval,th,↓FR,FW]
    exact hm.2 _ _ _ _ he' k' a b hM
  ·rw[if_neg (by omega),if_neg (by omega),if_pos hk] at hq2;have l1:∀t,ev1 (.lookup t (false,[.int]) .nilFunc false) [.map ab,.int .u8 o.k] lo H2=some (.fn 71 [] [],H2):=fun t=>by rw[hk];exact lk 3 2 t rfl
   have hm:=mq _ hq2;clear hq hq2 mq;simp(disch:=omega) only[ai,↓ah,seval,th,he,r0,↓l1,ak,↓FR,FW];refine GO h2 ht2 hn1 hcr ⟨r1,r2⟩ hlo (by omega) ⟨fun e H' he' k'=>?_,fun M' H' ow' L' he' k' a b hM=>?_⟩
   ·simp(disch:=omega) only[ai,↓ah,seval,th,↓FR,FW]
    exact hm.1 e _ he' k'
   ·simp(disch:=omega) only[ai,↓ah,seval,th,↓FR,FW]
    exact hm.2 _ _ _ _ he' k' a b hM
  ·rw[if_neg (by omega),if_neg (by omega),if_neg (by omega),if_pos hk] at hq2;have l1:∀t,ev1 (.lookup t (false,[.int]) .nilFunc false) [.map ab,.int .u8 o.k] lo H2=some (.fn 72 [] [],H2):=fun t=>by rw[hk];exact lk 4 3 t rfl
   have hm:=mq _ hq2;clear hq hq2 mq;simp(disch:=omega) only[ai,↓ah,seval,th,he,r0,↓l1,ak,↓FR,FW];refine Ni h2 (p4 (by omega)).1 (p4 (by omega)).2.1 (p4 (by omega)).2.2 hrl hlo (by omega) ⟨fun e H' he' k'=>?_,fun M' H' ow' L' he' k' a b hM=>?_⟩
   ·simp(disch:=omega) only[ai,↓ah,seval,th,↓FR,FW]
    exact hm.1 e _ he' k'
   ·simp(disch:=omega) only[ai,↓ah,seval,th,↓FR,FW]
    exact hm.2 _ _ _ _ he' k' a b hM
  ·rw[if_neg (by omega),if_neg (by omega),if_neg (by omega),if_neg (by omega),if_pos hk] at hq2;have l1:∀t,ev1 (.lookup t (false,[.int]) .nilFunc false) [.map ab,.int .u8 o.k] lo H2=some (.fn 73 [] [],H2):=fun t=>by rw[hk];exact lk 5 4 t rfl
   have hm:=mq _ hq2;clear hq hq2 mq;simp(disch:=omega) only[ai,↓ah,seval,th,he,r0,↓l1,ak,↓FR,FW];refine Mr h2 (p4 (by omega)).1 (p4 (by omega)).2.1 (p4 (by omega)).2.2 hrl hlo (by omega) ⟨fun e H' he' k'=>?_,fun M' H' ow' L' he' k' a b hM=>?_⟩
   ·simp(disch:=omega) only[ai,↓ah,seval,th,↓FR,FW]
    exact hm.1 e _ he' k'
   ·simp(disch:=omega) only[ai,↓ah,seval,th,↓FR,FW]
    exact hm.2 _ _ _ _ he' k' a b hM
  ·rw[if_neg (by omega),if_neg (by omega),if_neg (by omega),if_neg (by omega),if_neg (by omega),if_pos hk] at hq2;have l1:∀t,ev1 (.lookup t (false,[.int]) .nilFunc false) [.map ab,.int .u8 o.k] lo H2=some (.fn 74 [] [],H2):=fun t=>by rw[hk];exact lk 6 5 t rfl
   have hm:=mq _ hq2;clear hq hq2 mq;simp(disch:=omega) only[ai,↓ah,seval,th,he,r0,↓l1,ak,↓FR,FW];refine Nb h2 (p4 (by omega)).1 (p4 (by omega)).2.1 (p4 (by omega)).2.2 hlo (by omega) ⟨fun e H' he' k'=>?_,fun M' H' ow' L' he' k' a b hM=>?_⟩
   ·simp(disch:=omega) only[ai,↓ah,seval,th,↓FR,FW]
    exact hm.1 e _ he' k'
   ·simp(disch:=omega) only[ai,↓ah,seval,th,↓FR,FW]
    exact hm.2 _ _ _ _ he' k' a b hM
  ·rw[if_neg (by omega),if_neg (by omega),if_neg (by omega),if_neg (by omega),if_neg (by omega),if_neg (by omega),if_pos hk] at hq2;have l1:∀t,ev1 (.lookup t (false,[.int]) .nilFunc false) [.map ab,.int .u8 o.k] lo H2=some (.fn 75 [] [],H2):=fun t=>by rw[hk];exact lk 7 6 t rfl
   have hm:=mq _ hq2;clear hq hq2 mq;simp(disch:=omega) only[ai,↓ah,seval,th,he,r0,↓l1,ak,↓FR,FW];refine LW h2 (p7 (by omega)) hlo (by omega) ⟨fun e H' he' k'=>?_,fun M' H' ow' L' he' k' a b hM=>?_⟩
   ·simp(disch:=omega) only[ai,↓ah,seval,th,↓FR,FW]
    exact hm.1 e _ he' k'
   ·simp(disch:=omega) only[ai,↓ah,seval,th,↓FR,FW]
    exact hm.2 _ _ _ _ he' k' a b hM
  ·rw[if_neg (by omega),if_neg (by omega),if_neg (by omega),if_neg (by omega),if_neg (by omega),if_neg (by omega),if_neg (by omega)] at hq2;have l1:∀t,ev1 (.lookup t (false,[.int]) .nilFunc false) [.map ab,.int .u8 o.k] lo H2=some (.fn 76 [] [],H2):=fun t=>by rw[hk];exact lk 8 7 t rfl
   have hm:=mq _ hq2;clear hq hq2 mq;simp(disch:=omega) only[ai,↓ah,seval,th,he,r0,↓l1,ak,↓FR,FW];refine NJ h2 (p7 (by omega)) hfa hlo (by omega) ⟨fun e H' he' k'=>?_,fun M' H' ow' L' he' k' a b hM=>?_⟩
   ·simp(disch:=omega) only[ai,↓ah,seval,th,↓FR,FW]
    exact hm.1 e _ he' k'
   ·simp(disch:=omega) only[ai,↓ah,seval,th,↓FR,FW]
    exact hm.2 _ _ _ _ he' k' a b hM
 ·rw[if_pos he] at hq2;simp(disch:=omega) only[ai,↓ah,seval,th,he,↓FR,FW];exact hq2.1 _ _ rfl (KeepO.refl _ _)
theorem ND{tb e:Nat}{H:Heap}(hg:H.get tb=some (.cells false e 1 [.nilSlice,.nilSlice,.nilSlice,.nilSlice,.nilSlice,.nilSlice]))(hlt:tb < H.n){lo:Nat}{Q:Out→Heap→Prop}(hlo:lo≤H.n)
  (h:∀H',Keep H.n H H'→Q (.val (.int .i64 0)) H'):W E0 lo (.call 62 [.agg [.slice tb 0 6 6 true,.nilSlice,.nilSlice,.nilSlice]]) H Q:=by
 refine W.pure aX hlo ?_;have hr:=ae hg;rw[c62];simp(maxSteps:=4000000) (disch:=omega) only[ai,↓ah,seval,B62,Tk,Tj,Ti,YT,YO,LH,Th,Tf,Te,YE,ij,X6,X5,XN,X7,XO,SP,Xw,Xv,Xu,Xt,hr,ak,iU,jG,i4,Nat.min_self,show ¬H.n=tb by omega,↓FR,FW];exact fun k=>h _ k
def nil6:List IV:=[.nilSlice,.nilSlice,.nilSlice,.nilSlice,.nilSlice,.nilSlice]
def zy:List IV:=[.bool false,.int .i64 0,.int .i64 0,.bool false,.nilSlice]
def zy6:List IV:=iU 6 zy
theorem vj{H:Heap}{lo:Nat}{Q:Out→Heap→Prop}(hlo:lo≤H.n)
  (h:∀H',Keep H.n H H'→H'.n=H.n+4→H'.get (H.n+1)=some (.cells false 133 5 zy6)→H'.get (H.n+3)=some (.cells false 140 1 nil6)→
   Q (.val (.agg [.int .i64 0,.nilSlice,.nilSlice,.slice (H.n+1) 0 6 6 true,.slice (H.n+3) 0 6 6 true,.nilSlice,.nilSlice,.nilSlice])) H'):W E0 lo (.call 9 []) H Q:=by
 refine W.pure aX hlo ?_;rw[c9];simp(maxSteps:=4000000) (disch:=omega) only[ai,↓ah,seval,B9,B32,B84,ij,c32,c84,ak,↓FR,FW];refine fun k=>h _ k rfl ?_ ?_
 ·simp only[aa,aj,af,ac]
  repeat first | rw[if_pos (by omega)] | rw[if_neg (by omega)]
  rfl
 ·simp only[aa,aj,af,ac]
  repeat first | rw[if_pos (by omega)] | rw[if_neg (by omega)]
  rfl
theorem SA{H:Heap}{lo:Nat}{Q:Out→Heap→Prop}(hlo:lo≤H.n)(h:∀H' b,Keep H.n H H'→Q (.val (.slice b 0 0 0 true)) H'):W E0 lo (.call 64 [.agg [.nilSlice,.nilSlice],.int .i64 0]) H Q:=by
 refine W.pure aX hlo ?_;rw[Zg];simp(disch:=omega) only[ai,↓ah,seval,Ux,ak,↓FR,FW];rw[show IV.agg [.nilSlice,.nilSlice]=bv .nil .nil from rfl];refine vG (fs:=[]) (bs:=[]) 0 (Sl2.nil) (Sl2.nil) (by simp) (by simp) (by simp) (by simp) (by rw[ac];omega) (fun H2 k2 he=>absurd (by decide) he) fun H2 v l k2 _ f2 hp _=>?_
 have hl:l=[]:=by
  have:=hp.length_eq
  rw[i9] at this;exact List.length_eq_zero_iff.1 (by rw[this];rfl)
 subst hl;have sv:=f2.sl;have hn2:=k2.1;rw[ac] at hn2;simp(maxSteps:=4000000) (disch:=omega) only[ai,↓ah,seval,RF,ij,↓sv.ln,List.length_nil,iU,ak,↓FR,FW];exact fun k=>h _ _ k
theorem Nd{yb tb ey et:Nat}{H:Heap}(hy:H.get yb=some (.cells false ey 5 zy6))(ht:H.get tb=some (.cells false et 1 nil6))(hlt:tb < H.n)(hlt':yb < H.n){lo:Nat}{Q:Out→Heap→Prop}(hlo:lo≤H.n)
  (h:∀H',Keep H.n H H'→Q (.val (.int .i64 0)) H'):W E0 lo (.call 27 [.agg [.int .i64 0,.nilSlice,.nilSlice,.slice yb 0 6 6 true,.slice tb 0 6 6 true,.nilSlice,.nilSlice,.nilSlice]]) H Q:=by
 refine gu _ hlo h fun R hR=>?_;clear h;rw[c27];simp(maxSteps:=4000000) (disch:=omega) only[ai,↓ah,seval,Pd,ak,↓FR,FW];rw[show IV.agg [.nilSlice,.nilSlice]=bv .nil .nil from rfl];generalize hH_H1:Heap.new _ _=H1;have hnH1:H1.n=H.n+1:=by rw[←hH_H1];rfl
 have g0:=congrArg (fun h0=>Heap.get h0 (H.n)) hH_H1.symm;simp(disch:=omega) only[ai,↓ah,seval] at g0
 have kH1:Keep H.n H H1:=⟨by omega,fun x hx _=>by
  have gx:=congrArg (fun h0=>Heap.get h0 x) hH_H1.symm;simp(disch:=omega) only[ai,↓ah,seval] at gx;exact gx⟩
 clear hH_H1;refine qZ (fs:=[]) (bs:=[]) Sl2.nil Sl2.nil (by simp) (by simp) (by simp) (by simp) (by omega) fun H2 k2=>?_;have hn2:=k2.1;replace g0:=(k2.2 _ (by omega) (by omega)).trans g0;have r0:=ae g0;have kk:Keep H.n H H2:=kH1.trans (k2.lower (by omega));have gy:=(kk.2 yb hlt' hlt').trans hy;have ry:=ae gy;rw[show aU [] []=0 by decide];have ez:zy6.length=30:=rfl;simp(maxSteps:=4000000) (disch:=omega) only[ai,↓ah,seval,Pd,Hz,ij,Zh,r0,ry,ez,zy6,zy,iU,ak,show ¬H2.n=yb by omega,show ¬H2.n+1=yb by omega,show ¬H2.n=H.n by omega,show ¬H2.n+1=H.n by omega,↓FR,FW];generalize hH_H3:Heap.new _ _=H3;have hnH3:H3.n=H2.n+12:=by rw[←hH_H3];rfl
 have kH3:Keep H2.n H2 H3:=⟨by omega,fun x hx _=>by
  have gx:=congrArg (fun h0=>Heap.get h0 x) hH_H3.symm;simp(disch:=omega) only[ai,↓ah,seval] at gx;exact gx⟩
 clear hH_H3;have k03:Keep H.n H H3:=kk.trans (kH3.lower (by omega));have gt3:=(k03.2 tb hlt hlt).trans ht;refine ND gt3 (by omega) (by omega) fun H4 k4=>?_;have hn4:=k4.1;have k04:Keep H.n H H4:=k03.trans (k4.lower (by omega));have r04:=ae ((k4.2 H.n (by omega) (by omega)).trans ((kH3.2 H.n (by omega) (by omega)).trans g0));clear r0 ry gy;simp(maxSteps:=4000000) (disch:=omega) only[ai,↓ah,seval,Pd,r04,ak,↓FR,FW];refine SA (by omega) fun H5 b5 k5=>?_;have hn5:=k5.1;have k05:Keep H.n H H5:=k04.trans (k5.lower (by omega));have g05:=(k5.2 H.n (by omega) (by omega)).trans ((k4.2 H.n (by omega) (by omega)).trans ((kH3.2 H.n (by omega) (by omega)).trans g0));have r05:=ae g05;have gt5:=(k05.2 tb hlt hlt).trans ht;have gy5:=(k05.2 yb hlt' hlt').trans hy;have rt5:=ae gt5;have ry5:=ae gy5;have et:nil6.length=6:=rfl;clear r04 gt3;simp(maxSteps:=4000000) (disch:=omega) only[ai,↓ah,seval,Pd,Yq,ij,c63,r05,rt5,ry5,ez,et,zy6,zy,nil6,iU,i4,ak,show ¬H5.n=tb by omega,show ¬H5.n=yb by omega,show ¬H5.n=H.n by omega,↓FR,FW];exact hR _
def M0:Mc:=⟨0,List.replicate 80 [],List.replicate 6 oh,List.replicate 6 [],[],[]⟩
theorem Lj:Valid M0.t:=⟨by decide,by simp[M0],by simp[M0],by simp[M0]⟩
theorem N3:aN M0.t=[]:=by decide
theorem N4:aG M0.t=[]:=by decide
def L0(n:Nat):Ly:=⟨n+3,n+10,n+17,.sl (n+1) 0 0 0 true,.sl (n+2) 0 0 0 true,
 [⟨oh,.sl (n+4) 0 0 0 true⟩,⟨oh,.sl (n+5) 0 0 0 true⟩,⟨oh,.sl (n+6) 0 0 0 true⟩,⟨oh,.sl (n+7) 0 0 0 true⟩,⟨oh,.sl (n+8) 0 0 0 true⟩,⟨oh,.sl (n+9) 0 0 0 true⟩],
 [.sl (n+11) 0 0 0 true,.sl (n+12) 0 0 0 true,.sl (n+13) 0 0 0 true,.sl (n+14) 0 0 0 true,.sl (n+15) 0 0 0 true,.sl (n+16) 0 0 0 true],
 [[],[],[],[],[],[]],.sl (n+18) 0 0 0 true⟩
def E9(n:Nat):List Nat:=[n+19,n+3,n+10,n+17,n+11,n+12,n+13,n+14,n+15,n+16,n+18]
theorem Se{α:Type}[Cell α]{H:Heap}{b e z:Nat}(hz:Cell.z α=z)(h:H.get b=some (.cells false e z []))(hb:b < H.n):Own H b e 0 ([]:List α):=by
 have:=Own.mk' (H:=H) (b:=b) (e:=e) (l:=([]:List α)) hb hz h rfl
 exact this
theorem M8{yb tb ey et:Nat}{H:Heap}(hy:H.get yb=some (.cells false ey 5 zy6))(ht:H.get tb=some (.cells false et 1 nil6))(hlt:tb < H.n)(hlt':yb < H.n){lo:Nat}{Q:Out→Heap→Prop}(hlo:lo≤H.n)
  (h:∀H',Keep H.n H H'→MI H.n (H.n+19) H' (E9 H.n) (L0 H.n) M0→Q (.val (.ptr (H.n+19) 0)) H'):W E0 lo (.call 28 [.agg [.int .i64 0,.nilSlice,.nilSlice,.slice yb 0 6 6 true,.slice tb 0 6 6 true,.nilSlice,.nilSlice,.nilSlice]]) H Q:=by
 refine W.pure aX hlo ?_;have ry:=ae hy;have rt:=ae ht;have ez:zy6.length=30:=rfl;have e6:nil6.length=6:=rfl;rw[c28];simp(maxSteps:=4000000) (disch:=omega) only[ai,↓ah,seval,Yr,Yp,Yo,Ym,Zr,Zo,YQ,YP,ij,c65,c66,c67,Zf,Ze,X3,X2,ry,rt,ez,e6,zy6,nil6,zy,iU,i4,jG,eq,Nat.min_self,ak,show ¬H.n=tb by omega,show ¬H.n=yb by omega,↓FR,FW];generalize hH_HX:Heap.new _ _=HX;have hnHX:HX.n=H.n+20:=by rw[←hH_HX];rfl
 have g1:=congrArg (fun h0=>Heap.get h0 (H.n+1)) hH_HX.symm;simp(disch:=omega) only[ai,↓ah,seval] at g1;have g2:=congrArg (fun h0=>Heap.get h0 (H.n+2)) hH_HX.symm;simp(disch:=omega) only[ai,↓ah,seval] at g2;have g3:=congrArg (fun h0=>Heap.get h0 (H.n+3)) hH_HX.symm;simp(disch:=omega) only[ai,↓ah,seval] at g3;have g4:=congrArg (fun h0=>Heap.get h0 (H.n+4)) hH_HX.symm;simp(disch:=omega) only[ai,↓ah,seval] at g4;have g5:=congrArg (fun h0=>Heap.get h0 (H.n+5)) hH_HX.symm;simp(disch:=omega) only[ai,↓ah,seval] at g5;have g6:=congrArg (fun h0=>Heap.get h0 (H.n+6)) hH_HX.symm;simp(disch:=omega) only[ai,↓ah,seval] at g6;have g7:=congrArg (fun h0=>Heap.get h0 (H.n+7)) hH_HX.symm;simp(disch:=omega) only[ai,↓ah,seval] at g7;have g8:=congrArg (fun h0=>Heap.get h0 (H.n+8)) hH_HX.symm;simp(disch:=omega) only[ai,↓ah,seval] at g8;have g9:=congrArg (fun h0=>Heap.get h0 (H.n+9)) hH_HX.symm;simp(disch:=omega) only[ai,↓ah,seval] at g9;have g10:=congrArg (fun h0=>Heap.get h0 (H.n+10)) hH_HX.symm;simp(disch:=omega) only[ai,↓ah,seval] at g10;have g11:=congrArg (fun h0=>Heap.get h0 (H.n+11)) hH_HX.symm;simp(disch:=omega) only[ai,↓ah,seval] at g11;have g12:=congrArg (fun h0=>Heap.get h0 (H.n+12)) hH_HX.symm;simp(disch:=omega) only[ai,↓ah,seval] at g12;have g13:=congrArg (fun h0=>Heap.get h0 (H.n+13)) hH_HX.symm;simp(disch:=omega) only[ai,↓ah,seval] at g13;have g14:=congrArg (fun h0=>Heap.get h0 (H.n+14)) hH_HX.symm;simp(disch:=omega) only[ai,↓ah,seval] at g14;have g15:=congrArg (fun h0=>Heap.get h0 (H.n+15)) hH_HX.symm;simp(disch:=omega) only[ai,↓ah,seval] at g15;have g16:=congrArg (fun h0=>Heap.get h0 (H.n+16)) hH_HX.symm;simp(disch:=omega) only[ai,↓ah,seval] at g16;have g17:=congrArg (fun h0=>Heap.get h0 (H.n+17)) hH_HX.symm;simp(disch:=omega) only[ai,↓ah,seval] at g17;have g18:=congrArg (fun h0=>Heap.get h0 (H.n+18)) hH_HX.symm;simp(disch:=omega) only[ai,↓ah,seval] at g18;have g19:=congrArg (fun h0=>Heap.get h0 (H.n+19)) hH_HX.symm;simp(disch:=omega) only[ai,↓ah,seval] at g19
 have kHX:Keep H.n H HX:=⟨by omega,fun x hx _=>by
  have gx:=congrArg (fun h0=>Heap.get h0 x) hH_HX.symm;simp(disch:=omega) only[ai,↓ah,seval] at gx;exact gx⟩
 clear hH_HX;intro hk;clear ry rt hy ht;refine h _ hk ?_;generalize hN:H.n=n at *;have hon:∀x,(x < n+20)→x < HX.n:=fun x hx=>by omega
 have so:∀{α:Type} [Cell α] {x e z:Nat},Cell.z α=z→HX.get x=some (.cells false e z [])→x < n+20→Sl (HX.off (E9 n)) (.sl x 0 0 0 true) ([]:List α):=fun hz hg hx=>((Se hz hg (hon _ hx)).sl true).onto fun h=>absurd rfl h;have tg:∀{α:Type} [Cell α] {x e z:Nat},Cell.z α=z→HX.get x=some (.cells false e z [])→x < n+20→n≤x→Tg n HX e (.sl x 0 0 0 true) ([]:List α):=fun hz hg hx hx'=>⟨_,true,rfl,hx',Se hz hg (hon _ hx)⟩;have gyo:Own HX (n+3) 133 6 (L0 n).yl:=Own.mk' (hon _ (by omega)) PS g3 rfl;have gto:Own HX (n+10) 140 6 (L0 n).ws:=Own.mk' (hon _ (by omega)) mD g10 rfl
 have tgw:∀x,x=n+11∨x=n+12∨x=n+13∨x=n+14∨x=n+15∨x=n+16→Tg n HX 158 (.sl x 0 0 0 true) ([]:List Lv):=fun x hx=>by
  rcases hx with rfl | rfl | rfl | rfl | rfl | rfl
  ·exact tg AO g11 (by omega) (by omega)
  ·exact tg AO g12 (by omega) (by omega)
  ·exact tg AO g13 (by omega) (by omega)
  ·exact tg AO g14 (by omega) (by omega)
  ·exact tg AO g15 (by omega) (by omega)
  ·exact tg AO g16 (by omega) (by omega)
 have hl6:(L0 n).rl.length=6:=rfl;have hw6:(L0 n).ws.length=6:=rfl
 refine{gm:=g19,rk:=by decide,gy:=gyo,yn:=rfl,ym:=rfl,yd:=?_,yo:=?_,bf:=?_,bb:=?_,bv:=Lj,gt:=gto,wn:=rfl,rn:=rfl,rg:=?_,rx:=?_,rd:=?_,rm:=rfl,gc:=⟨[],0,g17,rfl,by simp,by simp⟩,gf:=tg kJ g18 (by omega) (by omega),
        om:=by simp[E9],oy:=by simp[E9,L0],ot:=by simp[E9,L0],oc:=by simp[E9,L0],orw:=?_,of:=by simp[E9,L0,SV.blk],lo:=?_}
 ·intro x hx;simp only[L0,List.mem_cons,List.not_mem_nil,or_false] at hx;rcases hx with rfl | rfl | rfl | rfl | rfl | rfl
  ·exact so mE g4 (by omega)
  ·exact so mE g5 (by omega)
  ·exact so mE g6 (by omega)
  ·exact so mE g7 (by omega)
  ·exact so mE g8 (by omega)
  ·exact so mE g9 (by omega)
 ·intro y hy;rw[List.eq_of_mem_replicate hy];exact JJ
 ·rw[N3];exact⟨[],so mD g1 (by omega),rfl,fun i h=>absurd h (by simp)⟩
 ·rw[N4];exact⟨[],so mD g2 (by omega),rfl,fun i h=>absurd h (by simp)⟩
 ·intro i h1 h2;have hi:i=0∨i=1∨i=2∨i=3∨i=4∨i=5:=by omega
  rcases hi with rfl | rfl | rfl | rfl | rfl | rfl<;>exact tgw _ (by simp)
 ·intro i j h1 h2 he;have hi:i=0∨i=1∨i=2∨i=3∨i=4∨i=5:=by omega
  have hj:j=0∨j=1∨j=2∨j=3∨j=4∨j=5:=by omega
  rcases hi with rfl | rfl | rfl | rfl | rfl | rfl<;>rcases hj with rfl | rfl | rfl | rfl | rfl | rfl<;>first | rfl | (simp[L0,SV.blk] at he)
 ·intro r hr x hx
  have:r=[]:=by simpa [L0] using hr
  rw[this] at hx;cases hx
 ·intro w hw;simp only[L0,List.mem_cons,List.not_mem_nil,or_false] at hw;rcases hw with rfl | rfl | rfl | rfl | rfl | rfl<;>simp[E9,SV.blk]
 ·intro x hx;simp only[E9,List.mem_cons,List.not_mem_nil,or_false] at hx;omega
structure Crs where
 a:Id
 b:Id
 n:Int
 deriving Inhabited,DecidableEq
instance:Cell Crs where
 z:=5
 cs c:=[.int .u8 c.a.y,.int .i64 c.a.n,.int .u8 c.b.y,.int .i64 c.b.n,.int .i64 c.n]
 len _:=rfl
 one _:=rfl
 pos:=by omega
theorem KM(c:Crs):Cell.cs c=[.int .u8 c.a.y,.int .i64 c.a.n,.int .u8 c.b.y,.int .i64 c.b.n,.int .i64 c.n]:=rfl
theorem Es:Cell.z Crs=5:=rfl
theorem BF{v:SV}{l:List Crs}{H:Heap}{lo:Nat}{Q:Out→Heap→Prop}(hv:Sl H v l)(hl:l.length≤1000000)(hlo:lo≤H.n)
  (h:∀H' b,Keep H.n H H'→H.n≤b→Own H' b 149 l.length l→Q (.val (SV.sl b 0 l.length l.length true).iv) H'):W E0 lo (.call 83 [v.iv]) H Q:=by
 refine W.pure aX hlo ?_;rw[c83];obtain⟨H2,e1,e2,e3,e4⟩:=gI hv (z:=5) rfl 149 H.n [IV.int .u8 0,.int .i64 0,.int .u8 0,.int .i64 0,.int .i64 0] rfl (Nat.le_refl _);simp(disch:=omega) only[ai,↓ah,seval,B83,↓hv.ln,↓e1,Int.reducePow];exact fun hk=>h _ _ hk (Nat.le_refl _) e4
theorem DK{v:SV}{l:List Lv}{H:Heap}{lo:Nat}{Q:Out→Heap→Prop}(hv:Sl H v l)(hl:l.length≤1000000)(hlo:lo≤H.n)
  (h:∀H' b,Keep H.n H H'→H.n≤b→Own H' b 158 l.length l→Q (.val (SV.sl b 0 l.length l.length true).iv) H'):W E0 lo (.call 81 [v.iv]) H Q:=by
 refine W.pure aX hlo ?_;rw[Ze];obtain⟨H2,e1,e2,e3,e4⟩:=gI hv (z:=4) rfl 158 H.n [IV.int .u8 0,.bool false,.nilSlice,.nilSlice] rfl (Nat.le_refl _);simp(disch:=omega) only[ai,↓ah,seval,Zo,↓hv.ln,↓e1,Int.reducePow];exact fun hk=>h _ _ hk (Nat.le_refl _) e4
def KO(x y:Crs):Int:=if AM x.a y.a≠0 then AM x.a y.a else AM x.b y.b
theorem Hi(x y:Crs){H:Heap}{lo:Nat}{Q:Out→Heap→Prop}(hlo:lo≤H.n)(h:∀H',Keep H.n H H'→Q (.val (.int .i64 (KO x y))) H'):W E0 lo (.call 79 [.agg [.int .u8 x.a.y,.int .i64 x.a.n,.int .u8 x.b.y,.int .i64 x.b.n,.int .i64 x.n],.agg [.int .u8 y.a.y,.int .i64 y.a.n,.int .u8 y.b.y,.int .i64 y.b.n,.int .i64 y.n]]) H Q:=by
 refine gu _ hlo h fun R hR=>?_;clear h;rw[c79];simp(disch:=omega) only[ai,↓ah,seval,Uw,ak,↓FR,FW];generalize hH_H1:Heap.new _ _=H1;have hnH1:H1.n=H.n+2:=by rw[←hH_H1];rfl
 have g0:=congrArg (fun h0=>Heap.get h0 (H.n)) hH_H1.symm;simp(disch:=omega) only[ai,↓ah,seval] at g0;have g1:=congrArg (fun h0=>Heap.get h0 (H.n+1)) hH_H1.symm;simp(disch:=omega) only[ai,↓ah,seval] at g1
 have kH1:Keep H.n H H1:=⟨by omega,fun x hx _=>by
  have gx:=congrArg (fun h0=>Heap.get h0 x) hH_H1.symm;simp(disch:=omega) only[ai,↓ah,seval] at gx;exact gx⟩
 clear hH_H1;refine uh x.a y.a (by omega) fun H2 k2=>?_;have hn2:=k2.1;replace g0:=(k2.2 _ (by omega) (by omega)).trans g0;replace g1:=(k2.2 _ (by omega) (by omega)).trans g1;have r0:=ae g0;have r1:=ae g1;by_cases he:AM x.a y.a=0
 ·simp(disch:=omega) only[ai,↓ah,seval,Uw,he,r0,r1,ak,↓FR,FW]
  refine uh x.b y.b (by omega) fun H3 k3=>?_;simp(disch:=omega) only[ai,↓ah,seval,Uw,↓FR,FW]
  have:=hR H3
  unfold KO at this;rw[if_neg (fun h=>h he)] at this;exact this
 ·simp(disch:=omega) only[ai,↓ah,seval,Uw,he,↓FR,FW]
  have:=hR H2
  unfold KO at this;rw[if_pos he] at this;exact this
theorem JY{f b:SV}{t:List (List Id)}(hV:Valid t){r:Int}(hr: -4≤r∧r≤4){H:Heap}(hf:Sl2 H f (aN t))(hb:Sl2 H b (aG t)){lo:Nat}{Q:Out→Heap→Prop}(hlo:lo≤H.n)
  (hq:∀H' v,Keep H.n H H'→Fresh H.n H' 204 v (bJ (aN t) (aG t) r)→(bJ (aN t) (aG t) r).length≤320→Q (.val (.tuple [v.iv,.int .i64 0])) H'):W E0 lo (.call 119 [bv f b,.int .i64 r]) H Q:=by
 have hrb:d0 r=true:=rackB_iff.2 hr;have hc:=hV.check;have hF:=jI t;have hB:=gJ hV.len;obtain⟨h6,h6'⟩:=hV.len6;have ho:bB (aN t) (aG t) r=0:=by unfold bB;rw[hc,hrb];simp
 refine vG r hf hb (by omega) (by omega) h6 h6' hlo (fun H' _ hne=>absurd ho hne) fun H' v l k _ hf hp hs=>?_;rw[qu hc hrb hp hs] at hf;have h4:∀x∈aN t,x.length≤4:=fun l hl=>hV.four l (eD hl);have h4':∀x∈aG t,x.length≤4:=fun l hl=>hV.four l (cV hl);have hl:=hp.length_eq;have e1:=ld hF h4;have e2:=ld hB h4';rw[i9,qu hc hrb hp hs] at hl;exact hq H' v k hf (by omega)
def RV:Id:=⟨0,0⟩
theorem IU{α:Type}(l:List α)(z:α)(n i:Nat)(hn:l.length=n)(hi:i < l.length):(l.take i++List.replicate (n - i) z).set i l[i]=l.take (i+1)++List.replicate (n - (i+1)) z:=by
 subst hn;rw[List.set_append_right _ _ (by rw[List.length_take];omega),List.length_take,Nat.min_eq_left (by omega),Nat.sub_self];rw[show l.length - i=(l.length - (i+1))+1 by omega,List.replicate_succ,List.set_cons_zero,List.take_succ_eq_append_getElem hi,List.append_assoc];rfl
theorem Nx{f b:SV}{t:List (List Id)}(hV:Valid t){r:Int}(hr: -4≤r∧r≤4){H:Heap}(hf:Sl2 H f (aN t))(hb:Sl2 H b (aG t)){lo:Nat}{Q:Out→Heap→Prop}(hlo:lo≤H.n)
  (h:∀H' c,Keep H.n H H'→H.n≤c→Own H' c 138 (bJ (aN t) (aG t) r).length ((bJ (aN t) (aG t) r).map (·.id))→Q (.val (.slice c 0 (bJ (aN t) (aG t) r).length (bJ (aN t) (aG t) r).length true)) H'):
  W E0 lo (.call 64 [bv f b,.int .i64 r]) H Q:=by
 refine W.pure aX hlo ?_;rw[Zg];simp(disch:=omega) only[ai,↓ah,seval,Ux,bv,ak,↓FR,FW];rw[show IV.agg [f.iv,b.iv]=bv f b from rfl];generalize hH_H1:Heap.new _ _=H1;have hnH1:H1.n=H.n+1:=by rw[←hH_H1];rfl
 have g0:=congrArg (fun h0=>Heap.get h0 (H.n)) hH_H1.symm;simp(disch:=omega) only[ai,↓ah,seval] at g0
 have kH1:Keep H.n H H1:=⟨by omega,fun x hx _=>by
  have gx:=congrArg (fun h0=>Heap.get h0 x) hH_H1.symm;simp(disch:=omega) only[ai,↓ah,seval] at gx;exact gx⟩
 clear hH_H1;refine JY hV hr (hf.keep kH1) (hb.keep kH1) (by omega) fun H2 v k2 f2 hl2=>?_;have hn2:=k2.1;generalize bJ (aN t) (aG t) r=l at *;have sv:=f2.sl;obtain⟨n,hln⟩:∃n:Nat,n=l.length:=⟨_,rfl⟩;rw[←hln] at h hl2;have hlv:=sv.ln;rw[←hln] at hlv;simp(disch:=omega) only[ai,↓ah,seval,Ux,↓hlv,ak,Int.reducePow,↓FR,FW];have hO:=Own.mksl (H:=H2) (e:=138) (n:=n) kJ RV;have kk:Keep H.n H H2:=kH1.trans (k2.lower (by omega));obtain⟨c,hc⟩:∃c,c=H2.n:=⟨_,rfl⟩;rw[show Cell.cs RV=[IV.int .u8 0,IV.int .i64 0] from rfl,←hc] at hO;rw[←hc];obtain⟨H3,hH3⟩:∃H3,H3=H2.new (.cells false 138 2 (iU n [IV.int .u8 0,IV.int .i64 0])):=⟨_,rfl⟩;have hn3:H3.n=H2.n+1:=by rw[hH3];rfl
 have k23:Keep H2.n H2 H3:=by rw[hH3];exact .new _ _
 rw[←hH3] at hO⊢
 refine aM (fun k fr H'=>∃i,i+k=n∧KeepO [c] H3 H'∧Own H' c 138 n ((l.map (·.id)).take i++List.replicate (n - i) RV)∧fr.marks=[]∧fr.tm.length=33∧fr.tm.getD 7 IV.undef=.slice c 0 n n true∧fr.tm.getD 19 IV.undef=v.iv∧fr.tm.getD 20 IV.undef=.int .i64 n∧fr.tm.getD 21 IV.undef=.int .i64 i) ?_ n ⟨0,by omega,KeepO.refl _ _,by simpa using hO,rfl,rfl,rfl,rfl,rfl,rfl⟩
 rintro k ⟨tm,mk⟩ H' ⟨i,hik,hk,hO',rfl,htm,t7,t19,t20,t21⟩ L hN hJ;have hn':=hk.1
 have hvl:v.blk < c∨l=[]:=by
  rcases f2 with⟨_,e⟩ | ⟨b,rfl,_,o⟩
  ·exact .inr e
  ·left;show b < c;rw[hc];exact o.2.1
 have hv':Sl H' v l:=(sv.keep k23).same hn' fun hl=>by
  rcases hvl with h1 | h1
  ·exact hk.2 _ (by omega) (by simp;omega)
  ·exact absurd h1 hl
 have hlm:(l.map (·.id)).length=n:=by rw[List.length_map,hln]
 rw[Q4 tm htm,t7,t19,t20,t21];by_cases hi:i < n
 ·have r1:=hv'.read iX i (by omega)
  have hset:=IU (l.map (·.id)) RV n i hlm (by omega)
  rw[List.getElem_map] at hset
  obtain⟨m,hm⟩:∃m,m=(l.map (·.id)).take i++List.replicate (n - i) RV:=⟨_,rfl⟩
  have hll:m.length=n:=by rw[hm,List.length_append,List.length_take,List.length_replicate];omega
  rw[←hm] at hO' hset;have h0:Own H' c 138 m.length m:=by rw[hll];exact hO'
  have gf:=h0.full;rw[kJ] at gf;have hfl:(aB m).length=n*2:=by rw[ao,hll];rfl
  have hcn:=hO'.2.1;have hO2:=h0.keepO (KeepO.of (ow:=[]) (Keep.newPut (H:=H') (o:=.cells false 204 5 [.int .u8 0,.int .i64 0,.int .u8 0,.int .i64 0,.int .i64 0]) (o':=.cells false 204 5 (Cell.cs l[i])))) (by simp);have hO3:=Own.put hO2 kJ i (by omega) l[i].id;rw[hset,hll] at hO3;rw[yc,show Cell.cs l[i].id=[IV.int .u8 l[i].id.y,IV.int .i64 l[i].id.n] from rfl] at hO3;clear hO2 hO' hset h0 hm;simp(disch:=omega) only[ai,↓ah,seval,RF,↓hv'.idx,r1,yc,gf,hfl,show ¬H'.n=c by omega,show ¬c=H'.n by omega,ak,Int.toNat_natCast,↓FR,FW];exact hN (k - 1) _ _ (by omega) ⟨i+1,by omega,(hk.trans (KeepO.of (ow:=[c]) Keep.newPut) fun x hx=>.inl hx).trans (KeepO.put (by simp)) fun x hx=>.inl hx,hO3,rfl,rfl,rfl,rfl,rfl,rfl⟩
 ·rw[List.take_of_length_le (by omega),show n - i=0 by omega,List.replicate_zero,List.append_nil] at hO';simp(disch:=omega) only[ai,↓ah,seval,RF,hJ];have kf:Keep H.n H H':=⟨by have:=kk.1;omega,fun x h1 h2=>(hk.2 x (by have:=kk.1;omega) (by have:=kk.1;simp;omega)).trans ((k23.2 x (by have:=kk.1;omega) (by have:=kk.1;omega)).trans (kk.2 x h1 h2))⟩;exact fun _=>h H' c kf (by have:=kk.1;omega) hO'
def rY(tm:List IV)(h:tm.length=95):=(bL tm 95 h).trans (by simp only[List.range,List.range.loop,List.map_cons,List.map_nil];exact rfl)
theorem Gh{n0 mb rb tb:Nat}{w3 r f b y c fa:IV}{H:Heap}{ws:List SV}{rl:List (List Lv)}(gm:H.get mb=some (.cells false 147 7 [r,f,b,y,.slice tb 0 6 6 true,c,fa]))
  (gt:Own H tb 140 6 ws) (wn:ws.length=6) (rn:rl.length=6) (rg:∀(i:Nat) (h:i < ws.length) (h':i < rl.length),Tg n0 H 158 ws[i] rl[i]) (hl:∀x∈rl,x.length≤1000000)
  {tm:List IV} {lo:Nat} {Q:Out→Heap→Prop} (hlo:lo≤tb) (hlt:tb < H.n) (hlm:mb < H.n) (htm:tm.length=95) (t0:tm.getD 0 IV.undef=.ptr mb 0) (t2:tm.getD 2 IV.undef=.ptr rb 0) (t3:tm.getD 3 IV.undef=w3) (t39:tm.getD 39 IV.undef=.slice tb 0 6 6 true) (t40:tm.getD 40 IV.undef=.int .i64 6) (t41:tm.getD 41 IV.undef=.int .i64 0)
  (hQ:∀H' tm',KeepO [tb] H H'→tm'.length=95→tm'.getD 0 IV.undef=.ptr mb 0→tm'.getD 2 IV.undef=.ptr rb 0→tm'.getD 3 IV.undef=w3→Q (.ex (.jmp (.exit 2)) ⟨tm',[]⟩) H'):
  W E0 lo (.code (.loop AF) none ⟨tm,[]⟩) H Q:=by
 have e1:mb≠tb:=fun e=>by obtain⟨_,_,r,h3,_⟩:=gt;rw[←e,gm] at h3;cases h3
 refine aM (fun k fr H'=>∃i ws',i+k=6∧KeepO [tb] H H'∧Own H' tb 140 6 ws'∧ws'.length=6∧(∀(j:Nat) (h:j < ws.length) (h':j < ws'.length),i≤j→ws'[j]=ws[j])∧fr.marks=[]∧fr.tm.length=95∧fr.tm.getD 0 IV.undef=.ptr mb 0∧fr.tm.getD 2 IV.undef=.ptr rb 0∧fr.tm.getD 3 IV.undef=w3∧fr.tm.getD 39 IV.undef=.slice tb 0 6 6 true∧fr.tm.getD 40 IV.undef=.int .i64 6∧fr.tm.getD 41 IV.undef=.int .i64 i) ?_ 6
  ⟨0,ws,by omega,KeepO.refl _ _,gt,wn,fun j _ _ _=>rfl,rfl,htm,t0,t2,t3,t39,t40,t41⟩
 clear htm t0 t2 t3 t39 t40 t41;rintro k ⟨tm,mk⟩ H' ⟨i,ws',hik,hk,hO,hw6,hws,rfl,htm,t0,t2,t3,t39,t40,t41⟩ L hN hJ;have hn':=hk.1;rw[rY tm htm,t0,t2,t3,t39,t40,t41];by_cases hi:i < 6
 ·have hiw:i < ws.length:=by omega
  have hir:i < rl.length:=by omega
  have hi':i < ws'.length:=by omega
  have hwi:=hws i hiw hi' (Nat.le_refl _)
  have r1:H'.read tb i 1=some [ws[i].iv]:=by
   have:=(hO.sl true).read mD i hi'
   rw[qW,hwi] at this;simpa [SV.blk,SV.off] using this
  have hne:ws[i].blk≠tb:=fun e=>by
   obtain⟨b,ex,hb,_,_,_,r,h3,_⟩:=rg i hiw hir;rw[hb] at e;have e:b=tb:=e;obtain⟨_,_,r',h4,_⟩:=gt;rw[e,h4] at h3;cases h3
  have hv:=((rg i hiw hir).keepO hk (by simpa using hne)).sl;have gm':=(hk.2 mb hlm (by simpa using e1)).trans gm;have rm:=ae gm';have hll:=hl _ (List.getElem_mem hir);have h0:Own H' tb 140 ws'.length ws':=by rw[hw6];exact hO
  simp(disch:=omega) only[ai,↓ah,seval,Pc,r1,rm,Nat.mul_one,Int.toNat_natCast,ak,↓FR,FW]
  refine DK hv hll (by omega) fun H2 b2 k2 hb2 o2=>?_;have hn2:=k2.1;have h2:=h0.keep k2;have gf:=h2.full;rw[mD] at gf;have hfl:(aB ws').length=6:=by rw[ao,hw6];rfl
  have hO3:=Own.put h2 mD i hi' (.sl b2 0 rl[i].length rl[i].length true);rw[qW,Nat.mul_one,hw6] at hO3;simp(disch:=omega) only[ai,↓ah,seval,Pc,gf,hfl,Nat.mul_one,Int.toNat_natCast,ak,↓FR,FW];refine hN (k - 1) _ _ (by omega) ⟨i+1,_,by omega,(hk.trans (KeepO.of (ow:=[tb]) k2) fun x hx=>.inl hx).trans (KeepO.put (by simp)) fun x hx=>.inl hx,hO3,by rw[List.length_set,hw6],fun j h h' hj=>?_,rfl,rfl,rfl,rfl,rfl,rfl,rfl,rfl⟩;rw[List.getElem_set_ne (by omega)];exact hws j h (by rw[List.length_set] at h';exact h') (by omega)
 ·simp(disch:=omega) only[ai,↓ah,seval,Pc,hJ]
  exact hQ H' _ hk rfl rfl rfl rfl
theorem F0{mb rb cb yb tb e:Nat}{r:Int}{f b fv:SV}{c:IV}{t:List (List Id)}{l:List Crs}{fa:List Id}{z8:List IV}{H:Heap}(gm:H.get mb=some (.cells false 147 7 [.int .i64 r,f.iv,b.iv,.slice yb 0 6 6 true,.slice tb 0 6 6 true,c,fv.iv]))
  (hV:Valid t) (hr: -4≤r∧r≤4) (hf:Sl2 H f (aN t)) (hb:Sl2 H b (aG t)) (hc:Sl H (.sl cb 0 l.length l.length true) l) (hcl:l.length≤1000000) (hfv:Sl H fv fa) (hfl:fa.length≤1000000)
  (hrb:H.get rb=some (.cells false e 8 z8)) (hz8:z8.length=8) (hrm:rb≠mb) {tm:List IV} {lo:Nat} {Q:Out→Heap→Prop} (hlo:lo≤rb) (hlr:rb < H.n) (hlm:mb < H.n) (htm:tm.length=95) (t0:tm.getD 0 IV.undef=.ptr mb 0) (t2:tm.getD 2 IV.undef=.ptr rb 0) (t3:tm.getD 3 IV.undef=.slice cb 0 l.length l.length true)
  (hQ:∀H' tm' c1 c2 c3,tm'.length=95→tm'.getD 2 IV.undef=.ptr rb 0→H'.get rb=some (.cells false e 8 [.int .i64 r,f.iv,b.iv,.slice yb 0 6 6 true,.slice tb 0 6 6 true,.slice c1 0 l.length l.length true,.slice c2 0 (bJ (aN t) (aG t) r).length (bJ (aN t) (aG t) r).length true,.slice c3 0 fa.length fa.length true])→Q (.ex (.jmp .ret) ⟨tm',[]⟩) H'):
  W E0 lo (.code (.seq AE (.seq AD .ret)) none ⟨tm,[]⟩) H Q:=by
 have rm:=ae gm;rw[rY tm htm,t0,t2,t3];simp(disch:=omega) only[ai,↓ah,seval,CR,rm,ak,↓FR,FW];refine BF hc hcl (by omega) fun H2 c1 k2 hb1 o2=>?_;have hn2:=k2.1;have gm2:=(k2.2 mb hlm hlm).trans gm;have rm2:=ae gm2;clear rm;simp(disch:=omega) only[ai,↓ah,seval,CR,rm2,ak,↓FR,FW];rw[show IV.agg [f.iv,b.iv]=bv f b from rfl];refine Nx hV hr (hf.keep k2) (hb.keep k2) (by omega) fun H3 c2 k3 hb2 o3=>?_;have hn3:=k3.1;have k23:Keep H.n H H3:=k2.trans (k3.lower hn2);have gm3:=(k23.2 mb hlm hlm).trans gm;have rm3:=ae gm3;clear rm2;simp(disch:=omega) only[ai,↓ah,seval,CR,rm3,ak,↓FR,FW];refine vO (hfv.keep k23) hfl (by omega) fun H4 c3 k4 hb3 o4=>?_;have hn4:=k4.1;have k24:Keep H.n H H4:=k23.trans (k4.lower (by omega));have gm4:=(k24.2 mb hlm hlm).trans gm;have gr4:=(k24.2 rb hlr hlr).trans hrb;have rm4:=ae gm4;clear rm3;simp(disch:=omega) only[ai,↓ah,seval,CR,rm4,gm4,gr4,hz8,ak,show ¬H4.n=mb by omega,show ¬mb=H4.n by omega,show ¬H4.n=rb by omega,show ¬rb=H4.n by omega,show ¬rb=mb from hrm,show ¬mb=rb from Ne.symm hrm,↓FR,FW]
 obtain⟨z1,z2,z3,z4,z5,z6,z7,z9,hz⟩:∃a b c d e f g h,z8=[a,b,c,d,e,f,g,h]:=by
  match z8,hz8 with
  | [a,b,c,d,e,f,g,h],_=>exact⟨a,b,c,d,e,f,g,h,rfl⟩
 subst hz;refine hQ _ _ c1 c2 c3 rfl rfl ?_;rw[aa,if_pos rfl];rfl
structure MOk(k:Nat)(M:Mc):Prop where
 rows:M.rows.flatten.length≤2048
 fa:M.fa.length≤4*k
 cr:CrOk M.cr
 crl:M.cr.length≤6000*k
theorem Hj(cr:List (Id×Id×Int))(a b:Id)(n:Int):(qX cr a b n).length≤cr.length+1:=by
 unfold qX;split
 ·rw[List.length_set];omega
 ·simp
theorem Hl(cr:List (Id×Id×Int))(a b:Id):(qY cr a b).length≤cr.length:=by
 unfold qY;split
 ·exact(iI _ _).length_le
 ·exact Nat.le_refl _
theorem Le{M M':Mc}{c:Cr}(h:wK M c=.ok M'):M'.cr.length≤M.cr.length+1:=by
 unfold wK at h;split at h
 ·cases h
 split at h
 ·injection h with h;subst h;exact Nat.le_trans (Hl _ _ _) (Nat.le_succ _)
 ·injection h with h;subst h;exact Hj _ _ _ _
theorem yk:∀{l:List Cr} {M M':Mc},gQ l M=.ok M'→M'.cr.length≤M.cr.length+l.length
 | [],M,M',h=>by injection h with h;subst h;simp
 | c::l,M,M',h=>by
   unfold gQ at h;split at h
   ·cases h
   ·rename_i M1 h1;have a:=Le h1;have b:=yk h;rw[List.length_cons];omega
theorem FX{M M':Mc}{d:Int}(hv:Valid M.t)(h:stepM M d=.ok M'):M'.cr.length≤M.cr.length+640:=by
 have hB:=gJ hv.len;have hs:=xp (fs:=aN M.t) (bs:=aG M.t) (by omega) (fun x hx=>hv.four x (eD hx)) (fun x hx=>hv.four x (cV hx)) M.rack d;unfold stepM at h;split at h
 ·cases h
 split at h
 ·cases h
 ·have:=yk h
  simp only at this;omega
theorem xK:∀(n:Nat) {M M':Mc} {r:Int},Valid M.t→CrOk M.cr→nh n M r=.ok M'→M'.cr.length≤M.cr.length+640*n
 | 0,M,M',r,hv,hc,h=>by injection h with h;subst h;omega
 | n+1,M,M',r,hv,hc,h=>by
   rw[jA n M] at h;split at h
   ·injection h with h;subst h;omega
   ·split at h
    ·cases h
    ·rename_i M1 h1;obtain⟨_,a2,a3,a4,a5⟩:=qh hc h1;have b:=FX hv h1;have c:=xK n (by rw[a2];exact hv) (by exact a5) h;simp only at c;omega
theorem sM{α:Type}:∀(l:List (List α)) (i:Nat) (x:α),(l.set i (l.getD i []++[x])).flatten.length≤l.flatten.length+1
 | [],i,x=>by simp
 | a::l,0,x=>by simp[List.length_append];omega
 | a::l,i+1,x=>by
   have:=sM l i x
   simp only[List.set_cons_succ,List.flatten_cons,List.length_append,List.getD_cons_succ] at this⊢;omega
theorem BJ{k:Nat}{M M':Mc}{o:Opn}{thr st:List Id}(hm:MOk k M)(h:sI M o thr st=.ok M'):MOk (k+1) M':=by
 unfold sI at h;split at h
 ·cases h
 split at h
 ·cases h
 split at h
 ·cases h
 rename_i hr;split at h
 ·cases h
 ·injection h with h;subst h
  have:=sM M.rows (o.y - 1).toNat ⟨o.b,(M.ys.getD (o.y - 1).toNat oh).new,thr,(M.ys.getD (o.y - 1).toNat oh).pend⟩
  exact⟨by show(M.rows.set _ _).flatten.length≤_;omega,by have:=hm.fa;show M.fa.length≤_;omega,hm.cr,by have:=hm.crl;show M.cr.length≤_;omega⟩
theorem MOk.same{k:Nat}{M M':Mc}(hm:MOk k M)(h1:M'.rows=M.rows)(h2:M'.fa=M.fa)(h3:M'.cr=M.cr):MOk (k+1) M':=
 ⟨by rw[h1];exact hm.rows,by rw[h2];have:=hm.fa;omega,by rw[h3];exact hm.cr,by rw[h3];have:=hm.crl;omega⟩
theorem Rc{k:Nat}{M M':Mc}{o:Opn}(hm:MOk k M)(hv:Valid M.t)(h:NK M o=.ok M'):MOk (k+1) M':=by
 unfold NK at h;split at h
 ·cases h
 rename_i he;have he:zH o=0:=Classical.not_not.1 he;obtain⟨r1,r2,k1,k8,p1,p2,p4,p7⟩:=zG he;split at h
 ·unfold RR at h;split at h
  ·cases h
  ·injection h with h;subst h;exact hm.same rfl rfl rfl
 split at h
 ·unfold GG at h;split at h
  ·injection h with h;subst h;exact hm.same rfl rfl rfl
  ·cases h
 split at h
 ·unfold Fb at h;obtain⟨a1,a2,a3,a4⟩:=BC 8 hm.cr h;have a5:=xK 8 hv hm.cr h;exact⟨by rw[a2];exact hm.rows,by rw[a3];have:=hm.fa;omega,a4,by have:=hm.crl;omega⟩
 split at h
 ·unfold BN at h;split at h
  ·cases h
  ·split at h
   ·cases h
   ·rename_i M1 h1;obtain⟨q1,q2,q3,q4,q5⟩:=iM h1;have hm1:MOk k M1:=⟨by rw[q3];exact hm.rows,by rw[q5];exact hm.fa,by rw[q4];exact hm.cr,by rw[q4];exact hm.crl⟩;exact BJ hm1 h
 split at h
 ·unfold AW at h;split at h
  ·cases h
  ·split at h
   ·cases h
   ·rename_i M1 h1;obtain⟨q1,q2,q3,q4,q5⟩:=iM h1;have hm1:MOk k M1:=⟨by rw[q3];exact hm.rows,by rw[q5];exact hm.fa,by rw[q4];exact hm.cr,by rw[q4];exact hm.crl⟩;split at h
    ·cases h
    ·exact BJ hm1 h
 split at h
 ·unfold BE at h;split at h
  ·cases h
  ·obtain⟨q1,q2,q3,q4,q5⟩:=iM h;exact hm.same q3 q5 q4
 split at h
 ·unfold AP at h;split at h
  ·cases h
  split at h
  ·cases h
  split at h
  ·cases h
  split at h
  ·cases h
  ·injection h with h;subst h;exact hm.same rfl rfl rfl
 ·unfold Cc at h;split at h
  ·cases h
  split at h
  ·cases h
  ·injection h with h;subst h
   have h4:(wT M o).length≤4:=by
    have:=jc (aN M.t) (aG M.t) o.b o.a 4 (fun l hl=>hv.four l (eD hl)) (fun l hl=>hv.four l (cV hl))
    rw[iR M.t (p7 (by omega))] at this;exact this
   exact⟨hm.rows,by show(M.fa++wT M o).length≤_;rw[List.length_append];have:=hm.fa;omega,hm.cr,by have:=hm.crl;show M.cr.length≤_;omega⟩
theorem xM{M:Mc}{o:Opn}{thr st:List Id}{e:Int}(h:sI M o thr st=.error e):¬e=0:=by
 unfold sI at h;split at h
 ·injection h with h;subst h;decide
 split at h
 ·injection h with h;subst h;decide
 split at h
 ·injection h with h;subst h;decide
 split at h
 ·injection h with h;subst h;assumption
 ·cases h
theorem xL:∀(n:Nat) {M:Mc} {r e:Int},nh n M r=.error e→¬e=0
 | 0,M,r,e,h=>by cases h
 | n+1,M,r,e,h=>by
   rw[jA n M] at h;split at h
   ·cases h
   ·split at h
    ·rename_i h1;injection h with h;subst h;exact rD h1
    ·exact xL n h
theorem Fo{M:Mc}{o:Opn}{e:Int}(h:NK M o=.error e):¬e=0:=by
 unfold NK at h;split at h
 ·injection h with h;subst h;assumption
 split at h
 ·unfold RR at h;split at h
  ·injection h with h;subst h;decide
  ·cases h
 split at h
 ·unfold GG at h;split at h
  ·cases h
  ·injection h with h;subst h;decide
 split at h
 ·exact xL 8 h
 split at h
 ·unfold BN at h;split at h
  ·rename_i h1;injection h with h;subst h;rw[ie h1];decide
  ·split at h
   ·rename_i h1;injection h with h;subst h;exact lq h1
   ·exact xM h
 split at h
 ·unfold AW at h;split at h
  ·rename_i h1;injection h with h;subst h;rw[ie h1];decide
  ·split at h
   ·rename_i h1;injection h with h;subst h;exact lq h1
   ·split at h
    ·injection h with h;subst h;decide
    ·exact xM h
 split at h
 ·unfold BE at h;split at h
  ·rename_i h1;injection h with h;subst h;rw[ie h1];decide
  ·exact lq h
 split at h
 ·unfold AP at h;split at h
  ·injection h with h;subst h;decide
  split at h
  ·injection h with h;subst h;decide
  split at h
  ·injection h with h;subst h;decide
  split at h
  ·injection h with h;subst h;assumption
  ·cases h
 ·unfold Cc at h;split at h
  ·injection h with h;subst h;decide
  split at h
  ·injection h with h;subst h;assumption
  ·cases h
def ql(i:Nat)(M:Mc):List Opn→Except (Nat×Int) Mc
 | []=>.ok M
 | o::l=>match NK M o with
   | .error e=>.error (i,e)
   | .ok M'=>ql (i+1) M' l
def jN(l:List Opn):Int:=match ql 0 M0 l with
 | .error p=>p.2
 | .ok _=>0
def Ji(l:List Opn):Nat:=match ql 0 M0 l with
 | .error p=>p.1
 | .ok _=>l.length
theorem S7:MOk 0 M0:=⟨by decide,by decide,(fun e he=>by cases he),by decide⟩
def aan(k:Int):Int:=if k=4∨k=5∨k=6 then 1 else if k=7 then 2 else if k=8 then 3 else 0
def WW(tm:List IV)(h:tm.length=67):=(bL tm 67 h).trans (by simp only[List.range,List.range.loop,List.map_cons,List.map_nil];exact rfl)
structure Vis(L x:Nat)(v:SV)(l:List Opn)(n0 lo:Nat)(J:Heap→Prop):Prop where
 hx:∀H',J H'→H'.get x=some (.cells false 22 1 [v.iv])∧Sl H' v l∧x < H'.n∧n0≤H'.n
 keep:∀H' H'',J H'→Keep H'.n H' H''→J H''
 step:∀(a n:Nat) (H':Heap),J H'→a+n≤l.length→∀K:Out→Heap→Prop,(∀H'',J H''→H'.n≤H''.n→(∀y,n0≤y→y < H'.n→(∃cs,H'.get y=some (.cells false 56 6 cs))→H''.get y=H'.get y)→K (.val (.bool true)) H'')→W E0 lo (.apply (.yield L) [.agg [.int .i64 a,.int .i64 n]]) H' K
def Y1(z:Nat)(H:Heap)(v:SV):Prop:=
 match v with
 | .nil=>True
 | .sl b _ _ _ ex=>ex=true∨rX H b z=true
def psl(v:SV)(a n:Nat):SV:=
 match v with
 | .nil=>.nil
 | .sl b o _ c ex=>.sl b (o+a*6) n (c - a) ex
def CJ(n0 L nb:Nat)(lp:IObj)(Hs:Heap)(H':Heap):Prop:=(∃n:Int,H'.get nb=some (.cells false 3 1 [.int .i64 n]))∧H'.get L=some lp∧n0≤H'.n∧∀y,y < n0→y≠nb→y≠L→H'.get y=Hs.get y
def WZ(tm:List IV)(h:tm.length=34):=(bL tm 34 h).trans (by simp only[List.range,List.range.loop,List.map_cons,List.map_nil];exact rfl)
def Sw(H:Heap)(b:Nat):Prop:=∃n:Int,H.get b=some (.cells false 3 1 [.int .i64 n])
def TJ(n0 L nb rb:Nat)(lp:IObj)(Hs:Heap)(H':Heap):Prop:=Sw H' nb∧Sw H' rb∧H'.get L=some lp∧n0≤H'.n∧∀y,y < n0→y≠nb→y≠rb→y≠L→H'.get y=Hs.get y
structure N64 where
 n:Int
 deriving Inhabited
instance:Cell N64 where
 z:=1
 cs x:=[.int .i64 x.n]
 len _:=rfl
 one _:=rfl
 pos:=by omega
def LM(es:List (IV×IV×Nat)):Prop:=∀e∈es,∃k n:Int,e.1=.int .u8 k∧e.2.1=.int .i64 n
end Go.Iso.Gen
end
