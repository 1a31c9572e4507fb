/-
  machines that run.
-/
import Derived.Test.YtpnbiapmndbhgaaGreatDoorFnU
set_option linter.unusedSimpArgs false
set_option linter.unusedVariables false
set_option maxHeartbeats 16000000
set_option maxRecDepth 20000
set_option linter.defProp false
section
namespace Go.Iso.Gen
open Go.Iso
theorem xG{α β:Type}{f:Nat→α→β}{l:List α}{x:β}(h:x∈l.mapIdx f):∃i a,a∈l∧x=f i a:=by
 obtain⟨i,hi,rfl⟩:=List.mem_iff_getElem.1 h;rw[List.length_mapIdx] at hi;exact⟨i,l[i],bQ _,by rw[Bk]⟩
theorem Pl{t:List (List Id)}(hv:Valid t)(r d p:Int):∀q∈kJ (aJ t) r d p,OkP q:=by
 have key:∀q∈kL (aJ t) r d p,OkP q:=by
  intro q hq;unfold kL at hq;obtain⟨l,hl,hq⟩:=List.mem_flatten.1 hq;obtain⟨i,st,hst,rfl⟩:=xG hl;unfold uh at hq;split at hq
  ·obtain⟨id,hid,rfl⟩:=List.mem_map.1 hq;refine⟨hv.named id (List.mem_flatten.2 ⟨st,dM hst,hid⟩),?_⟩
   show yK d=0∨yK d=1
   unfold yK;split<;>simp
  ·cases hq
 intro q hq;unfold kJ at hq;split at hq
 ·exact key q (List.mem_reverse.1 hq)
 ·exact key q hq
theorem Pm{t:List (List Id)}(hv:Valid t)(r d p:Int):(kJ (aJ t) r d p).length≤1000:=by
 have h:=th (bs:=aJ t) (fun x hx=>hv.four x (dM hx)) r d p (aJ t).length (au _);rw[tk] at h;have hB:=iy hv.len;unfold kJ;split
 ·rw[kI];omega
 ·omega
theorem LU(fs bs:List (List Id))(r d:Int):∀c∈lK fs bs r d,c.s=1∨c.s= -1:=by
 have key:∀c∈kz fs bs r d,c.s=1∨c.s= -1:=by
  intro c hc;unfold kz at hc;obtain⟨l,hl,hc⟩:=List.mem_flatten.1 hc;obtain⟨i,st,hst,rfl⟩:=xG hl;unfold pU at hc;obtain⟨id,hid,hc⟩:=List.mem_flatMap.1 hc;obtain⟨x,hx,rfl⟩:=List.mem_map.1 hc;unfold Hp;split
  ·exact .inl rfl
  ·exact .inr rfl
 intro c hc;unfold lK at hc;split at hc
 ·exact key c (List.mem_reverse.1 hc)
 ·exact key c hc
def CrOk(cr:List (Id×Id×Int)):Prop:=∀e∈cr, -1048576≤e.2.2∧e.2.2≤1048576
theorem Ee(a b:Id):∀(cr:List (Id×Id×Int)) (i:Nat) {j:Nat} {v:Int},uP a b cr i=some (j,v)→∃e∈cr,e.2.2=v
 | [],_,_,_,h=>by cases h
 | (x,y,n)::cr,i,j,v,h=>by
   unfold uP at h;split at h
   ·injection h with h;injection h with h1 h2;exact⟨_,nQ,h2⟩
   ·obtain⟨e,he,hv⟩:=Ee a b cr (i+1) h;exact⟨e,cP _ he,hv⟩
theorem CrOk.val{cr:List (Id×Id×Int)}(h:CrOk cr)(a b:Id): -1048576≤ma cr a b∧ma cr a b≤1048576:=by
 unfold ma
 cases e:uP a b cr 0 with
 | none=>simp
 | some p=>
   obtain⟨j,v⟩:=p;obtain⟨x,hx,hv⟩:=Ee a b cr 0 e
   have:=h x hx
   simp only[dI,ig];omega
theorem CrOk.set{cr:List (Id×Id×Int)}(h:CrOk cr)(a b:Id){n:Int}(hn: -1048576≤n∧n≤1048576):CrOk (sq cr a b n):=by
 unfold sq;split
 ·intro e he;rcases rv he with he | rfl
  ·exact h e he
  ·exact hn
 ·intro e he;rcases List.mem_append.1 he with he | he
  ·exact h e he
  ·rw[List.mem_singleton.1 he];exact hn
theorem CrOk.del{cr:List (Id×Id×Int)}(h:CrOk cr)(a b:Id):CrOk (sr cr a b):=by
 unfold sr;split
 ·exact fun e he=>h e ((je cr _).subset he)
 ·exact h
theorem Hx{M M':Mc}{c:Cr}(hc:CrOk M.cr)(h:yz M c=.ok M'):M'.rack=M.rack∧M'.t=M.t∧M'.ys=M.ys∧M'.rows=M.rows∧M'.fa=M.fa∧CrOk M'.cr:=by
 unfold yz at h;split at h
 ·cases h
 rename_i h1;split at h
 ·injection h with h;subst h;exact⟨rfl,rfl,rfl,rfl,rfl,hc.del _ _⟩
 ·injection h with h;subst h;exact⟨rfl,rfl,rfl,rfl,rfl,hc.set _ _ (by omega)⟩
theorem Ev{M:Mc}{c:Cr}{e:Int}(h:yz M c=.error e):e=3:=by
 unfold yz at h;split at h
 ·injection h with h;exact h.symm
 ·split at h<;>cases h
def iI:List Cr→Mc→Except Int Mc
 | [],M=>.ok M
 | c::l,M=>match yz M c with
   | .error e=>.error e
   | .ok M'=>iI l M'
theorem Eu:∀{l:List Cr} {M M':Mc},CrOk M.cr→iI l M=.ok M'→M'.rack=M.rack∧M'.t=M.t∧M'.ys=M.ys∧M'.rows=M.rows∧M'.fa=M.fa∧CrOk M'.cr
 | [],M,M',hc,h=>by injection h with h;subst h;exact⟨rfl,rfl,rfl,rfl,rfl,hc⟩
 | c::l,M,M',hc,h=>by
   unfold iI at h
   cases e:yz M c with
   | error x=>rw[e] at h;cases h
   | ok M1=>
     rw[e] at h;obtain⟨a1,a2,a3,a4,a5,a6⟩:=Hx hc e;obtain⟨b1,b2,b3,b4,b5,b6⟩:=Eu a6 h;exact⟨b1.trans a1,b2.trans a2,b3.trans a3,b4.trans a4,b5.trans a5,b6⟩
def xr(t:List (List Id))(r d:Int)(y:Yn):Except Int Yn:=
 if y.inn=false then .ok y
 else if ll (aO t) (aJ t) r d y.place≠0 then .error (ll (aO t) (aJ t) r d y.place)
 else if 4096 < (oj y y.place (kJ (aJ t) r d y.place)).pend.length then .error 3
 else .ok (oj y y.place (kJ (aJ t) r d y.place))
def mP(t:List (List Id))(r d:Int):List Yn→Except Int (List Yn)
 | []=>.ok []
 | y::ys=>match xr t r d y with
   | .error e=>.error e
   | .ok y'=>match mP t r d ys with
     | .error e=>.error e
     | .ok ys'=>.ok (y'::ys')
theorem ue(t:List (List Id))(r d:Int)(y:Yn)(ys:List Yn):mP t r d (y::ys)=match xr t r d y with
  | .error e=>.error e
  | .ok y'=>match mP t r d ys with
    | .error e=>.error e
    | .ok ys'=>.ok (y'::ys'):=rfl
def stepM(M:Mc)(d:Int):Except Int Mc:=match mP M.t M.rack d M.ys with
 | .error e=>.error e
 | .ok ys=>if jp (aO M.t) (aJ M.t) M.rack d≠0 then .error (jp (aO M.t) (aJ M.t) M.rack d) else iI (lK (aO M.t) (aJ M.t) M.rack d) {M with ys:=ys}
def BG(tm:List IV)(h:tm.length=92):=(cS tm 92 h).trans (by simp only[List.range,List.range.loop,bI,bj];exact rfl)
theorem Tabs.keepO{H H':Heap}{ow:List Nat}(h:Tabs tabs H)(k:KeepO ow H H'){n0:Nat}(hn:tabs.length≤n0)(ho:∀x∈ow,n0≤x):Tabs tabs H':=
 h.keep k.1 fun i hi=>k.2 i (by have:=h.1;omega) fun hx=>by have:=ho i hx;omega
theorem Ns{n0 mb:Nat}{H:Heap}{ow:List Nat}{L:Ly}{M:Mc}(h:MI n0 mb H ow L M)(hcr:CrOk M.cr){v:SV}{l:List Cr}(hsg:∀c∈l,c.s=1∨c.s= -1)(hvb:∀H',KeepO ow H H'→Sl H' v l){tm:List IV}{lo:Nat}{Q:Out→Heap→Prop}(hlo:lo≤n0)(hn:n0≤H.n)
  (htm:tm.length=92) (t0:tm.getD 0 IV.undef=.ptr mb 0) (t79:tm.getD 79 IV.undef=v.iv) (t80:tm.getD 80 IV.undef=.int .i64 l.length) (t81:tm.getD 81 IV.undef=.int .i64 0)
  (hl:l.length≤1000000)
  (he:∀e H' tm',iI l M=.error e→KeepO ow H H'→tm'.length=92→tm'.getD 4 IV.undef=.int .i64 e→Q (.ex (.jmp .ret) ⟨tm',[]⟩) H')
  (hq:∀M' H' ow' L' tm',iI l M=.ok M'→KeepO ow H H'→(∀x∈ow,x∈ow')→(∀x∈ow',x∈ow∨H.n≤x)→MI n0 mb H' ow' L' M'→tm'.length=92→Q (.ex (.jmp (.exit 2)) ⟨tm',[]⟩) H'):
  W E0 lo (.code (.loop CB) none ⟨tm,[]⟩) H Q:=by
 refine aP (fun k fr H'=>∃(i:Nat) (ow':List Nat) (L':Ly) (M':Mc),i+k=l.length∧KeepO ow H H'∧(∀x∈ow,x∈ow')∧(∀x∈ow',x∈ow∨H.n≤x)∧MI n0 mb H' ow' L' M'∧CrOk M'.cr∧iI l M=iI (l.drop i) M'∧fr.marks=[]∧fr.tm.length=92∧fr.tm.getD 0 IV.undef=.ptr mb 0∧fr.tm.getD 79 IV.undef=v.iv∧fr.tm.getD 80 IV.undef=.int .i64 l.length∧fr.tm.getD 81 IV.undef=.int .i64 i) ?_ l.length
  ⟨0,ow,L,M,by omega,KeepO.refl _ _,fun _ hx=>hx,fun _ hx=>.inl hx,h,hcr,rfl,rfl,htm,t0,t79,t80,t81⟩
 clear htm t0 t79 t80 t81;rintro k ⟨tm,mk⟩ H' ⟨i,ow',L',M',hik,hk,ha,hb,hM,hc,hadd,rfl,htm,t0,t79,t80,t81⟩ L1 hN hJ;have hv:=hvb H' hk;have hn':=hk.1;rw[BG tm htm,t0,t79,t80,t81];by_cases hi:i < l.length
 ·have r1:=hv.read ajz i hi;have hd:l.drop i=l[i]::l.drop (i+1):=qh hi;have hsi:=hsg _ (bQ hi);simp(disch:=omega) only[ak,↓aj,seval,pa,↓hv.idx,r1,amz,ar,↓FR,FW];have kN:Keep H'.n H' ((H'.new (.cells false 248 5 [.int .u8 0,.int .i64 0,.int .u8 0,.int .i64 0,.int .i64 0])).put H'.n (.cells false 248 5 [.int .u8 l[i].a.y,.int .i64 l[i].a.n,.int .u8 l[i].b.y,.int .i64 l[i].b.n,.int .i64 l[i].s])):=Keep.newPut;refine adi (hM.keep kN) hsi (hc.val _ _) hlo (by rw[af,ac];omega) ⟨fun e H2 he2 k2=>?_,fun M2 H2 ow2 L2 he2 k2 ha2 hb2 hM2=>?_⟩
  ·have hz:=Ev he2;subst hz;have hk2:=(hk.trans (KeepO.of (ow:=ow') kN) hb).trans k2 fun x hx=>hb x hx;have hae:iI l M=.error 3:=by rw[hadd,hd];unfold iI;rw[he2]
   simp(disch:=omega) only[ak,↓aj,seval,pa,hJ,↓FR,FW]
   exact he 3 _ _ hae hk2 rfl rfl
  ·have hk2:=(hk.trans (KeepO.of (ow:=ow') kN) hb).trans k2 fun x hx=>hb x hx
   have hb2':∀x∈ow2,x∈ow∨H.n≤x:=fun x hx=>by
    rcases hb2 x hx with h | h
    ·exact hb x h
    ·rw[af,ac] at h;right;omega
   have hae:iI l M=iI (l.drop (i+1)) M2:=by
                                                  rw[hadd,hd];conv=>lhs;unfold iI
                                                  rw[he2]
   simp(disch:=omega) only[ak,↓aj,seval,pa,↓FR,FW]
   exact hN (k - 1) _ _ (by omega) ⟨i+1,ow2,L2,M2,by omega,hk2,fun x hx=>ha2 x (ha x hx),hb2',hM2,(Hx hc he2).2.2.2.2.2,hae,rfl,rfl,rfl,rfl,rfl,rfl⟩
 ·have hae:iI l M=.ok M':=by rw[hadd,Bp (by omega)];rfl
  simp(disch:=omega) only[ak,↓aj,seval,pa,hJ]
  exact hq M' H' ow' L' _ hae hk ha hb hM rfl
theorem CW{n0 mb:Nat}{H:Heap}{ow:List Nat}{L:Ly}{M:Mc}(h:MI n0 mb H ow L M)(ht:Tabs tabs H)(hn1:tabs.length≤n0)(hcr:CrOk M.cr){d:Int}(hd:d=0∨d=1){lo:Nat}{Q:Out→Heap→Prop}(hlo:lo≤n0)(hn:n0≤H.n)
  (hq:MQ n0 mb H ow (stepM M d) Q):W E0 lo (.call 124 [.ptr mb 0,.int .u8 d]) H Q:=by
 have rm:=ah h.gm;have hlt:=h.lo _ h.om;obtain⟨h6,h6'⟩:=h.bv.len6;have hF:=kh M.t;have hB:=iy h.bv.len;rw[arT];simp(disch:=omega) only[ak,↓aj,seval,alN,rm,ar,↓FR,FW]
 refine aP (fun k fr H'=>∃(i:Nat) (L':Ly) (done:List Yn),i+k=6∧KeepO ow H H'∧MI n0 mb H' ow L' {M with ys:=done++M.ys.drop i}∧L'.yb=L.yb∧done.length=i∧
   (∀rest,mP M.t M.rack d (M.ys.drop i)=.ok rest→mP M.t M.rack d M.ys=.ok (done++rest))∧(∀e,mP M.t M.rack d (M.ys.drop i)=.error e→mP M.t M.rack d M.ys=.error e)∧fr.marks=[]∧fr.tm.length=92∧fr.tm.getD 0 IV.undef=.ptr mb 0∧fr.tm.getD 1 IV.undef=.int .u8 d∧fr.tm.getD 17 IV.undef=.slice L.yb 0 6 6 true∧fr.tm.getD 18 IV.undef=.int .i64 6∧fr.tm.getD 19 IV.undef=.int .i64 i) ?_ 6
  ⟨0,L,[],by omega,KeepO.refl _ _,h,rfl,rfl,fun _ h=>h,fun _ h=>h,rfl,rfl,rfl,rfl,rfl,rfl,rfl⟩
 clear rm;rintro k ⟨tm,mk⟩ H' ⟨i,L',done,hik,hk,hM,hyb,hdl,hp1,hp2,rfl,htm,t0,t1,t17,t18,t19⟩ L1 hN hJ;have hn':=hk.1;rw[BG tm htm,t0,t1,t17,t18,t19];by_cases hi:i < 6
 ·have hyl:i < L'.yl.length:=by rw[hM.yn];exact hi
  have hys:i < M.ys.length:=by rw[h.ysn];exact hi
  have hdr:M.ys.drop i=M.ys[i]::M.ys.drop (i+1):=qh hys
  have hyi:L'.yl[i].y=M.ys[i]:=by
   have hlen2:i < (done++M.ys.drop i).length:=by rw[bn,lN];omega
   have:=hM.ysI hyl hlen2
   rw[this,zw (by omega),List.getElem_drop];congr 1;omega
  have ry:=hM.readY hyl;rw[ur,hyb] at ry;have hokY:OkY L'.yl[i].y:=h.yo _ (by rw[hyi];exact bQ _);have hlty:=hM.lo _ hM.oy;rw[hyb] at hlty;have hltm:=hM.lo _ hM.om;rw[hdr] at hp1 hp2;rw[ue] at hp1 hp2;rw[←hyi] at hp1 hp2;have kN:∀o1 o2,Keep H'.n H' ((H'.new o1).put H'.n o2):=fun o1 o2=>Keep.newPut
  cases hin:L'.yl[i].y.inn with
  | false=>
    have hpy:xr M.t M.rack d L'.yl[i].y=.ok L'.yl[i].y:=by unfold xr;rw[if_pos hin]
    rw[hpy] at hp1 hp2;simp only at hp1 hp2
    have hM2:MI n0 mb H' ow L' {M with ys:=(done++[L'.yl[i].y])++M.ys.drop (i+1)}:=by
     rw[cO,List.singleton_append,hyi,←hdr];exact hM
    simp(disch:=omega) only[ak,↓aj,seval,pa,ry,ar,hin,↓FR,FW]
    exact hN (k - 1) _ _ (by omega) ⟨i+1,L',done++[L'.yl[i].y],by omega,hk.trans (KeepO.of (ow:=ow) (kN _ _)) fun x hx=>.inl hx,hM2.keep (kN _ _),hyb,by rw[bn,hdl];rfl,
     fun rest hr=>by have:=hp1 (L'.yl[i].y::rest) (by rw[hr]);rw[this,cO];rfl,fun e hr=>hp2 e (by rw[hr]),rfl,rfl,rfl,rfl,rfl,rfl,rfl⟩
  | true=>
    have htH:=Tabs.keepO ht hk hn1 fun x hx=>(h.lo x hx).1;have hMk:=hM.keep (kN (.cells false 133 5 [.bool false,.int .i64 0,.int .i64 0,.bool false,.nilSlice]) (.cells false 133 5 [.bool true,.int .i64 L'.yl[i].y.place,.int .i64 L'.yl[i].y.count,.bool L'.yl[i].y.new,L'.yl[i].v.iv]));have rm:=ah hM.gm
    have hpy:xr M.t M.rack d L'.yl[i].y=if ll (aO M.t) (aJ M.t) M.rack d L'.yl[i].y.place≠0 then .error (ll (aO M.t) (aJ M.t) M.rack d L'.yl[i].y.place)
     else if 4096 < (oj L'.yl[i].y L'.yl[i].y.place (kJ (aJ M.t) M.rack d L'.yl[i].y.place)).pend.length then .error 3 else .ok (oj L'.yl[i].y L'.yl[i].y.place (kJ (aJ M.t) M.rack d L'.yl[i].y.place)):=by unfold xr;rw[if_neg (by rw[hin];decide)]
    simp(disch:=omega) only[ak,↓aj,seval,pa,ry,rm,ar,hin,show ¬H'.n=mb by omega,↓FR,FW]
    refine MD M.rack d L'.yl[i].y.place (htH.keep' (kN _ _)) (show Sl2 _ L'.f (aO M.t) from hMk.bf.unoff) (show Sl2 _ L'.b (aJ M.t) from hMk.bb.unoff) (by omega) (by omega) h6 h6' (by rw[af,ac];omega) (by omega) (fun H3 k3 he=>?_) fun H3 w k3 he f3=>?_
    ·have hme:stepM M d=.error (ll (aO M.t) (aJ M.t) M.rack d L'.yl[i].y.place):=by
      unfold stepM;rw[hp2 _ (by rw[hpy,if_pos he])]
     rw[hme] at hq;generalize ll (aO M.t) (aJ M.t) M.rack d L'.yl[i].y.place=e at he hq;simp(disch:=omega) only[ak,↓aj,seval,pa,he,hJ,↓FR,FW];exact hq.1 e _ rfl (hk.trans (KeepO.of (ow:=ow) ((kN _ _).trans (k3.lower (by rw[af,ac];omega)))) fun x hx=>.inl hx)
    ·rw[if_neg (fun h=>h he)] at hpy;have hn3:=k3.1;rw[af,ac] at hn3;have g3:=k3.2 H'.n (by rw[af,ac];omega) (by rw[af,ac];omega);rw[ae,if_pos rfl] at g3;have kk:Keep H'.n H' H3:=(kN _ _).trans (k3.lower (by rw[af,ac];omega));have hM3:=hM.keep kk;have r3:=ah g3;have rm3:=ah hM3.gm;have hv3:=(hM3.yd _ (bQ hyl)).unoff;have su:=f3.sl;have hle:=Pm h.bv M.rack d L'.yl[i].y.place;have hmo:=Pl h.bv M.rack d L'.yl[i].y.place;have hodd:=hokY.pl hin;generalize kJ (aJ M.t) M.rack d L'.yl[i].y.place=ml at *;clear rm hMk k3 ry;simp(disch:=omega) only[ak,↓aj,seval,pa,r3,rm3,hyb,ar,↓FR,FW];have hag:(IV.agg [.bool true,.int .i64 L'.yl[i].y.place,.int .i64 L'.yl[i].y.count,.bool L'.yl[i].y.new,L'.yl[i].v.iv])=.agg (nD L'.yl[i].y L'.yl[i].v):=by unfold nD;rw[hin]
     rw[hag];refine aeF hokY hodd hv3 su (by omega) hmo (by omega) (fun H4 e k4 hc=>?_) fun H4 b4 k4 _ hle4 hb4 o4=>?_
     ·obtain⟨hlong,rfl⟩:4096 < (oj L'.yl[i].y L'.yl[i].y.place ml).pend.length∧e=3:=by
       rcases hc with⟨h1,_⟩ | ⟨_,h2,h3⟩
       ·rw[hin] at h1;cases h1
       ·exact⟨h2,h3⟩
      have hme:stepM M d=.error 3:=by
       unfold stepM;rw[hp2 _ (by rw[hpy,if_pos hlong])]
      rw[hme] at hq;have hM4:=hM3.keep k4;have gy4:=hM4.fullY;rw[hyb] at gy4;have hfl:(aG L'.yl).length=30:=by rw[aw,hM.yn];rfl
      simp(disch:=omega) only[ak,↓aj,seval,pa,nD,gy4,hfl,hJ,↓FR,FW]
      refine hq.1 3 _ rfl ((hk.trans (KeepO.of (ow:=ow) (kk.trans (k4.lower (by omega)))) fun x hx=>.inl hx).trans (KeepO.put h.oy) fun x hx=>.inl hx)
     ·rw[if_neg (by omega)] at hpy;rw[hpy] at hp1 hp2;simp only at hp1 hp2;have hM4:=hM3.keep k4;have gy4:=hM4.fullY;rw[hyb] at gy4;have hfl:(aG L'.yl).length=30:=by rw[aw,hM.yn];rfl
      have hb4':b4∉ow:=fun hx=>by have:=(hM.lo _ hx).2;omega
      have h5:=hM4.setY hi (Pc hokY hodd hin hmo hle4) (v:=.sl b4 0 (oj L'.yl[i].y L'.yl[i].y.place ml).pend.length (oj L'.yl[i].y L'.yl[i].y.place ml).pend.length true) ((o4.sl true).onto fun _=>hb4');rw[hyb] at h5
      have hset:(done++M.ys.drop i).set i (oj L'.yl[i].y L'.yl[i].y.place ml)=(done++[oj L'.yl[i].y L'.yl[i].y.place ml])++M.ys.drop (i+1):=by
       rw[hdr,List.set_append_right _ _ (by omega),hdl,Nat.sub_self,List.set_cons_zero,cO];rfl
      have h5:MI n0 mb _ ow _ {M with ys:=(done++M.ys.drop i).set i (oj L'.yl[i].y L'.yl[i].y.place ml)}:=h5;rw[hset] at h5;clear hM3 su hv3 o4 hmo f3 rm3;simp(disch:=omega) only[ak,↓aj,seval,pa,nD,gy4,hfl,↓FR,FW]
      exact hN (k - 1) _ _ (by omega) ⟨i+1,_,done++[oj L'.yl[i].y L'.yl[i].y.place ml],by omega,
       (hk.trans (KeepO.of (ow:=ow) (kk.trans (k4.lower (by omega)))) fun x hx=>.inl hx).trans (KeepO.put h.oy) fun x hx=>.inl hx,h5,rfl,by rw[bn,hdl];rfl,
       fun rest hr=>by have:=hp1 (oj L'.yl[i].y L'.yl[i].y.place ml::rest) (by rw[hr]);rw[this,cO];rfl,fun e hr=>hp2 e (by rw[hr]),rfl,rfl,rfl,rfl,rfl,rfl,rfl⟩
 ·have hdn:M.ys.drop i=[]:=Bp (by rw[h.ysn];omega);rw[hdn] at hM hp1 hp2;rw[iF] at hM;have hpp:=hp1 [] rfl;rw[iF] at hpp;unfold stepM at hq;rw[hpp] at hq;simp only at hq;have hi6:i=6:=by omega
  have htH:=Tabs.keepO ht hk hn1 fun x hx=>(h.lo x hx).1;have rm:=ah hM.gm;clear hp1 hp2 hN;simp(disch:=omega) only[ak,↓aj,seval,pa,hi6,hJ,rm,ar,↓FR,FW];refine O4 M.rack d htH (show Sl2 _ L'.f (aO M.t) from hM.bf.unoff) (show Sl2 _ L'.b (aJ M.t) from hM.bb.unoff) (by omega) (by omega) h6 h6' (by omega) (by omega) (fun H3 k3 he=>?_) fun H3 v k3 he f3=>?_
  ·rw[if_pos he] at hq;generalize jp (aO M.t) (aJ M.t) M.rack d=e at he hq;simp(disch:=omega) only[ak,↓aj,seval,alN,he,↓FR,FW];exact hq.1 e _ rfl (hk.trans (KeepO.of (ow:=ow) k3) fun x hx=>.inl hx)
  ·rw[if_neg (fun h=>h he)] at hq;have hM3:=hM.keep k3;have hn3:=k3.1;have su:=f3.sl;have hk3:KeepO ow H H3:=hk.trans (KeepO.of (ow:=ow) k3) fun x hx=>.inl hx
   have hvb:∀H5,KeepO ow H3 H5→Sl H5 v (lK (aO M.t) (aJ M.t) M.rack d):=fun H5 k5=>by
    rcases f3 with⟨rfl,e⟩ | ⟨b,rfl,hb,o⟩
    ·rw[e];exact Sl.empty
    ·exact(o.keepO k5 fun hx=>by have:=(hM.lo _ hx).2;omega).sl true
   have hsg:=LU (aO M.t) (aJ M.t) M.rack d;have hl:(lK (aO M.t) (aJ M.t) M.rack d).length≤1000000:=by have:=ze (fs:=aO M.t) (bs:=aJ M.t) (by omega) (fun x hx=>h.bv.four x (fD hx)) (fun x hx=>h.bv.four x (dM hx)) M.rack d;omega
   generalize lK (aO M.t) (aJ M.t) M.rack d=l at *;simp(disch:=omega) only[ak,↓aj,seval,vv,vu,vt,vr,vq,vp,vo,vn,vm,vl,qV,qU,qT,qS,qR,qQ,qP,qO,qN,qM,qL,qK,qJ,Aq,GG,↓su.ln,↓FR,FW];refine Ns (M:={M with ys:=done}) hM3 hcr hsg hvb hlo (by omega) rfl rfl rfl rfl rfl hl (fun e H5 N0 he5 k5 hl5 h45=>?_) fun M5 H5 ow5 L5 N0 he5 k5 ha5 hb5 hM5 hl5=>?_
   ·rw[BG N0 hl5,h45];simp(disch:=omega) only[ak,↓aj,seval,vv,vu,vt,vr,vq,vp,vo,vn,vm,vl,qV,qU,qT,qS,qR,qQ,qP,qO,qN,qM,qL,qK,qJ,Aq,GG];exact hq.1 e _ he5 (hk3.trans k5 fun x hx=>.inl hx)
   ·rw[BG N0 hl5];simp(disch:=omega) only[ak,↓aj,seval,vv,vu,vt,vr,vq,vp,vo,vn,vm,vl,qV,qU,qT,qS,qR,qQ,qP,qO,qN,qM,qL,qK,qJ,Aq,GG];refine hq.2 _ _ _ _ he5 (hk3.trans k5 fun x hx=>.inl hx) ha5 (fun x hx=>?_) hM5;rcases hb5 x hx with h | h
    ·exact .inl h
    ·right;omega
def aku(tm:List IV)(h:tm.length=42):=(cS tm 42 h).trans (by simp only[List.range,List.range.loop,bI,bj];exact rfl)
def nW:Nat→Mc→Int→Except Int Mc
 | 0,M,_=>.ok M
 | n+1,M,r=>if M.rack=r then .ok M else match stepM M (if r < M.rack then 0 else 1) with
   | .error e=>.error e
   | .ok M'=>nW n {M' with rack:=if r < M.rack then M.rack - 1 else M.rack+1} r
theorem j5(n:Nat)(M:Mc)(r:Int):nW (n+1) M r=if M.rack=r then .ok M else match stepM M (if r < M.rack then 0 else 1) with
  | .error e=>.error e
  | .ok M'=>nW n {M' with rack:=if r < M.rack then M.rack - 1 else M.rack+1} r:=rfl
theorem Pi(n:Nat){M:Mc}{r:Int}(h:M.rack=r):nW n M r=.ok M:=by
 cases n with
 | zero=>rfl
 | succ n=>rw[j5,if_pos h]
theorem qZ{M M':Mc}{d:Int}(hc:CrOk M.cr)(h:stepM M d=.ok M'):M'.rack=M.rack∧M'.t=M.t∧M'.rows=M.rows∧M'.fa=M.fa∧CrOk M'.cr:=by
 unfold stepM at h;split at h
 ·cases h
 ·split at h
  ·cases h
  ·obtain⟨a1,a2,a3,a4,a5,a6⟩:=Eu (by exact hc) h;exact⟨a1,a2,a4,a5,a6⟩
theorem sO{M:Mc}{d e:Int}(h:stepM M d=.error e):¬e=0:=by
 have adds:∀(l:List Cr) (M:Mc) (e:Int),iI l M=.error e→¬e=0:=by
  intro l
  induction l with
  | nil=>intro M e h;cases h
  | cons c l ih=>
    intro M e h;unfold iI at h;split at h
    ·rename_i h2;injection h with h;subst h;rw[Ev h2];decide
    ·exact ih _ _ h
 have pass:∀(l:List Yn) (e:Int),mP M.t M.rack d l=.error e→¬e=0:=by
  intro l
  induction l with
  | nil=>intro e h;cases h
  | cons y l ih=>
    intro e h;rw[ue] at h;split at h
    ·rename_i h2;injection h with h;subst h;unfold xr at h2;split at h2
     ·cases h2
     split at h2
     ·injection h2 with h2;subst h2;assumption
     split at h2
     ·injection h2 with h2;subst h2;decide
     ·cases h2
    ·split at h
     ·rename_i h2;injection h with h;subst h;exact ih _ h2
     ·cases h
 unfold stepM at h;split at h
 ·rename_i h2;injection h with h;subst h;exact pass _ _ h2
 ·split at h
  ·injection h with h;subst h;assumption
  ·exact adds _ _ _ h
theorem Dz:∀(n:Nat) {M M':Mc} {r:Int},CrOk M.cr→nW n M r=.ok M'→M'.t=M.t∧M'.rows=M.rows∧M'.fa=M.fa∧CrOk M'.cr
 | 0,M,M',r,hc,h=>by injection h with h;subst h;exact⟨rfl,rfl,rfl,hc⟩
 | n+1,M,M',r,hc,h=>by
   rw[j5] at h;split at h
   ·injection h with h;subst h;exact⟨rfl,rfl,rfl,hc⟩
   ·split at h
    ·cases h
    ·rename_i M1 h1;obtain⟨_,a2,a3,a4,a5⟩:=qZ hc h1;obtain⟨b1,b2,b3,b4⟩:=Dz n (by exact a5) h;exact⟨b1.trans a2,b2.trans a3,b3.trans a4,b4⟩
def Hb(M:Mc)(o:Opn):Except Int Mc:=nW 8 M o.r
theorem ML{n0 mb:Nat}{H:Heap}{ow:List Nat}{L:Ly}{M:Mc}(h:MI n0 mb H ow L M)(ht:Tabs tabs H)(hn1:tabs.length≤n0)(hcr:CrOk M.cr){o:Opn}(hr: -4≤o.r∧o.r≤4){lo:Nat}{Q:Out→Heap→Prop}(hlo:lo≤n0)(hn:n0≤H.n)
  (hq:MQ n0 mb H ow (Hb M o) Q):W E0 lo (.call 71 [.ptr mb 0,.agg [.int .u8 o.k,.int .u8 o.d,.int .u8 o.b,.int .i64 o.a,.int .u8 o.y,.int .i64 o.r]]) H Q:=by
 unfold Hb at hq;rw[c71];simp(disch:=omega) only[ak,↓aj,seval,B71,ar,↓FR,FW];generalize hH_H1:Heap.new _ _=H1;have hnH1:H1.n=H.n+1:=by rw[←hH_H1];rfl
 have g0:=congrArg (fun h0=>Heap.get h0 (H.n)) hH_H1.symm;simp(disch:=omega) only[ak,↓aj,seval] at g0
 have kH1:Keep H.n H H1:=⟨by omega,fun x hx _=>by
  have gx:=congrArg (fun h0=>Heap.get h0 x) hH_H1.symm;simp(disch:=omega) only[ak,↓aj,seval] at gx;exact gx⟩
 clear hH_H1;have h1:=h.keep kH1;have ht1:=ht.keep' kH1;have hrk:=h.rk;have hq1:=hq.after (KeepO.of kH1) (fun _ hx=>hx) fun _ hx=>.inl hx
 refine aP (fun k fr H'=>∃(ow':List Nat) (L':Ly) (M':Mc),M'.rack - o.r≤k∧o.r - M'.rack≤k∧KeepO ow H1 H'∧(∀x∈ow,x∈ow')∧(∀x∈ow',x∈ow∨H1.n≤x)∧MI n0 mb H' ow' L' M'∧CrOk M'.cr∧nW 8 M o.r=nW k M' o.r∧fr.marks=[]∧fr.tm.length=42∧fr.tm.getD 0 IV.undef=.ptr mb 0∧fr.tm.getD 3 IV.undef=.ptr H.n 0) ?_ 8
  ⟨ow,L,M,by omega,by omega,KeepO.refl _ _,fun _ hx=>hx,fun _ hx=>.inl hx,h1,hcr,rfl,rfl,rfl,rfl,rfl⟩
 rintro k ⟨tm,mk⟩ H' ⟨ow',L',M',hk1,hk2,hk,ha,hb,hM,hc,hmv,rfl,htm,t0,t3⟩ L1 hN hJ;have hx0:H.n∉ow:=fun hx=>by have:=(h.lo _ hx).2;omega
 have hx0':H.n∉ow':=fun hx=>by rcases hb _ hx with hx | hx;exact hx0 hx;omega
 have hn':=hk.1;have g0':=(hk.2 H.n (by omega) hx0).trans g0;have r0:=ah g0';have rm:=ah hM.gm;have hrk':=hM.rk;rw[aku tm htm,t0,t3];by_cases he:M'.rack=o.r
 ·have hok:nW 8 M o.r=.ok M':=by rw[hmv,Pi _ he]
  rw[hok] at hq1;simp(disch:=omega) only[ak,↓aj,seval,GK,r0,rm,he,ar,hJ,↓FR,FW];exact hq1.2 _ _ _ _ rfl hk ha hb hM
 ·obtain⟨n,rfl⟩:∃n,k=n+1:=⟨k - 1,by omega⟩
  rw[j5 n M',if_neg he] at hmv;have htH:=Tabs.keepO ht1 hk hn1 fun x hx=>(h.lo x hx).1;have hmbo:mb≠H.n:=fun e=>hx0' (e▸hM.om);by_cases hlt:o.r < M'.rack
  ·rw[if_pos hlt,if_pos hlt] at hmv;simp(disch:=omega) only[ak,↓aj,seval,GK,r0,rm,he,hlt,ar,↓FR,FW];refine CW hM htH hn1 hc (.inl rfl) hlo (by omega) ⟨fun e H2 he2 k2=>?_,fun M2 H2 ow2 L2 he2 k2 ha2 hb2 hM2=>?_⟩
   ·rw[he2] at hmv;simp only at hmv;rw[hmv] at hq1;have hz:=sO he2;simp(disch:=omega) only[ak,↓aj,seval,GK,hJ,↓FR,FW];exact hq1.1 e _ rfl (hk.trans k2 fun x hx=>hb x hx)
   ·rw[he2] at hmv;simp only at hmv;obtain⟨a1,a2,a3,a4,a5⟩:=qZ hc he2;have gm2:=hM2.gm;have hlm:=(hM2.lo _ hM2.om).1;have h3:=hM2.setM (r:=M'.rack - 1) (by omega) hM2.bf hM2.bb hM2.bv;simp(disch:=omega) only[ak,↓aj,seval,GK,gm2,↓FR,FW]
    exact hN n _ _ (by omega) ⟨ow2,_,_,by show M'.rack - 1 - o.r≤_;omega,by show o.r - (M'.rack - 1)≤_;omega,(hk.trans k2 fun x hx=>hb x hx).trans (KeepO.put (ow:=ow2) hM2.om) fun x hx=>by
      rcases hb2 x hx with h | h
      ·exact hb x h
      ·right;omega,fun x hx=>ha2 x (ha x hx),fun x hx=>by
      rcases hb2 x hx with h | h
      ·exact hb x h
      ·right;omega,h3,a5,hmv,rfl,rfl,rfl,rfl⟩
  ·rw[if_neg hlt,if_neg hlt] at hmv;simp(disch:=omega) only[ak,↓aj,seval,GK,r0,rm,he,hlt,ar,↓FR,FW];refine CW hM htH hn1 hc (.inr rfl) hlo (by omega) ⟨fun e H2 he2 k2=>?_,fun M2 H2 ow2 L2 he2 k2 ha2 hb2 hM2=>?_⟩
   ·rw[he2] at hmv;simp only at hmv;rw[hmv] at hq1;have hz:=sO he2;simp(disch:=omega) only[ak,↓aj,seval,GK,hJ,↓FR,FW];exact hq1.1 e _ rfl (hk.trans k2 fun x hx=>hb x hx)
   ·rw[he2] at hmv;simp only at hmv;obtain⟨a1,a2,a3,a4,a5⟩:=qZ hc he2;have gm2:=hM2.gm;have hlm:=(hM2.lo _ hM2.om).1;have h3:=hM2.setM (r:=M'.rack+1) (by omega) hM2.bf hM2.bb hM2.bv;simp(disch:=omega) only[ak,↓aj,seval,GK,gm2,↓FR,FW]
    exact hN n _ _ (by omega) ⟨ow2,_,_,by show M'.rack+1 - o.r≤_;omega,by show o.r - (M'.rack+1)≤_;omega,(hk.trans k2 fun x hx=>hb x hx).trans (KeepO.put (ow:=ow2) hM2.om) fun x hx=>by
      rcases hb2 x hx with h | h
      ·exact hb x h
      ·right;omega,fun x hx=>ha2 x (ha x hx),fun x hx=>by
      rcases hb2 x hx with h | h
      ·exact hb x h
      ·right;omega,h3,a5,hmv,rfl,rfl,rfl,rfl⟩
def Ew:List (IV×IV×Nat):=[(.int .u8 1,.fn 69 [] [],0),(.int .u8 2,.fn 70 [] [],1),(.int .u8 3,.fn 71 [] [],2),(.int .u8 4,.fn 72 [] [],3),
 (.int .u8 5,.fn 73 [] [],4),(.int .u8 6,.fn 74 [] [],5),(.int .u8 7,.fn 75 [] [],6),(.int .u8 8,.fn 76 [] [],7)]
theorem Gn{H:Heap}{lo:Nat}{Q:Out→Heap→Prop}(hlo:lo≤H.n)(h:∀H',Keep H.n H H'→H'.get H.n=some (.map Ew 8)→H.n < H'.n→Q (.val (.map H.n)) H'):W E0 lo (.call 29 []) H Q:=by
 refine W.pure bJ hlo ?_;rw[c29];simp(disch:=omega) only[ak,↓aj,seval,B29,aB,aI,dQ,cv,aQ,IV.cells,bS,rL,isK];refine fun hk=>h _ hk ?_ ?_
 ·simp only[ae,al,if_true];rfl
 ·simp only[af,ac];omega
def doM(M:Mc)(o:Opn):Except Int Mc:=
 if O6 o≠0 then .error (O6 o)
 else if o.k=1 then inM M o else if o.k=2 then MC M o else if o.k=3 then Hb M o else if o.k=4 then DK M o
 else if o.k=5 then CS M o else if o.k=6 then DA M o else if o.k=7 then CM M o else D8 M o
theorem amx{n0 mb:Nat}{H:Heap}{ow:List Nat}{L:Ly}{M:Mc}(h:MI n0 mb H ow L M)(ht:Tabs tabs H)(hn1:tabs.length≤n0)(hcr:CrOk M.cr)(hrl:M.rows.flatten.length≤2048)(hfa:M.fa.length≤1000000){ab:Nat}(hab:H.get ab=some (.map Ew 8)){o:Opn}{lo:Nat}{Q:Out→Heap→Prop}(hlo:lo≤n0)(hn:n0≤H.n)(hal:ab < H.n)
  (hq:MQ n0 mb H ow (doM M o) Q):W E0 lo (.call 30 [.ptr mb 0,.map ab,.agg [.int .u8 o.k,.int .u8 o.d,.int .u8 o.b,.int .i64 o.a,.int .u8 o.y,.int .i64 o.r]]) H Q:=by
 unfold doM at hq;rw[c30];simp(disch:=omega) only[ak,↓aj,seval,uH,ar,↓FR,FW];generalize hH_H1:Heap.new _ _=H1;have hnH1:H1.n=H.n+1:=by rw[←hH_H1];rfl
 have g0:=congrArg (fun h0=>Heap.get h0 (H.n)) hH_H1.symm;simp(disch:=omega) only[ak,↓aj,seval] at g0
 have kH1:Keep H.n H H1:=⟨by omega,fun x hx _=>by
  have gx:=congrArg (fun h0=>Heap.get h0 x) hH_H1.symm;simp(disch:=omega) only[ak,↓aj,seval] at gx;exact gx⟩
 clear hH_H1;refine xv o (by omega) fun H2 k2=>?_;have hn2:=k2.1;replace g0:=(k2.2 _ (by omega) (by omega)).trans g0;have kk:Keep H.n H H2:=kH1.trans (k2.lower (by omega));have hq2:=hq.after (KeepO.of kk) (fun _ hx=>hx) fun _ hx=>.inl hx;by_cases he:O6 o=0
 ·rw[if_neg (fun h=>h he)] at hq2;obtain⟨r1,r2,k1,k8,p1,p2,p4,p7⟩:=Fu he;have r0:=ah g0;have h2:=h.keep kk;have ht2:=ht.keep' kk;have ga:=(kk.2 ab hal hal).trans hab;have hE:∀e H',KeepO ow H2 H'→Q (.val (.int .i64 e)) H'→Q (.val (.int .i64 e)) H':=fun _ _ _ h=>h;have hcase:o.k=1∨o.k=2∨o.k=3∨o.k=4∨o.k=5∨o.k=6∨o.k=7∨o.k=8:=by omega
  have lk:∀(kn:Int) (f:Nat) (t:Nat),aI (false,[Pk.int]) (.int .u8 kn) Ew 0=some (some (f,((Ew[f]?).map (·.2.1)).getD .nilFunc))→ev1 (.lookup t (false,[.int]) .nilFunc false) [.map ab,.int .u8 kn] lo H2=some (((Ew[f]?).map (·.2.1)).getD .nilFunc,H2):=by
   intro kn f t hf;simp only[ev1,aB,ga,dI,cv,aQ,rL,isK,IV.cells,xj,nO,if_true,hf];rfl
  have mq:∀r,MQ n0 mb H2 ow r Q→MQ n0 mb H2 ow r Q:=fun _ h=>h;rcases hcase with hk | hk | hk | hk | hk | hk | hk | hk
  ·rw[if_pos hk] at hq2;have l1:∀t,ev1 (.lookup t (false,[.int]) .nilFunc false) [.map ab,.int .u8 o.k] lo H2=some (.fn 69 [] [],H2):=fun t=>by rw[hk];exact lk 1 0 t rfl
   have hm:=mq _ hq2;clear hq hq2 mq;simp(disch:=omega) only[ak,↓aj,seval,uH,he,r0,↓l1,ar,↓FR,FW];refine amq h2 (p1 hk).1 (p1 hk).2 hlo (by omega) ⟨fun e H' he' k'=>?_,fun M' H' ow' L' he' k' a b hM=>?_⟩
   ·simp(disch:=omega) only[ak,↓aj,seval,uH,↓FR,FW]
    exact hm.1 e _ he' k'
   ·simp(disch:=omega) only[ak,↓aj,seval,uH,↓FR,FW]
    exact hm.2 _ _ _ _ he' k' a b hM
  ·rw[if_neg (by omega),if_pos hk] at hq2;have l1:∀t,ev1 (.lookup t (false,[.int]) .nilFunc false) [.map ab,.int .u8 o.k] lo H2=some (.fn 70 [] [],H2):=fun t=>by rw[hk];exact lk 2 1 t rfl
   have hm:=mq _ hq2;clear hq hq2 mq;simp(disch:=omega) only[ak,↓aj,seval,uH,he,r0,↓l1,ar,↓FR,FW];refine aj3 h2 (p2 hk) hlo (by omega) ⟨fun e H' he' k'=>?_,fun M' H' ow' L' he' k' a b hM=>?_⟩
   ·simp(disch:=omega) only[ak,↓aj,seval,uH,↓FR,FW]
    exact hm.1 e _ he' k'
   ·simp(disch:=omega) only[ak,↓aj,seval,uH,↓FR,FW]
    exact hm.2 _ _ _ _ he' k' a b hM
  ·rw[if_neg (by omega),if_neg (by omega),if_pos hk] at hq2;have l1:∀t,ev1 (.lookup t (false,[.int]) .nilFunc false) [.map ab,.int .u8 o.k] lo H2=some (.fn 71 [] [],H2):=fun t=>by rw[hk];exact lk 3 2 t rfl
   have hm:=mq _ hq2;clear hq hq2 mq;simp(disch:=omega) only[ak,↓aj,seval,uH,he,r0,↓l1,ar,↓FR,FW];refine ML h2 ht2 hn1 hcr ⟨r1,r2⟩ hlo (by omega) ⟨fun e H' he' k'=>?_,fun M' H' ow' L' he' k' a b hM=>?_⟩
   ·simp(disch:=omega) only[ak,↓aj,seval,uH,↓FR,FW]
    exact hm.1 e _ he' k'
   ·simp(disch:=omega) only[ak,↓aj,seval,uH,↓FR,FW]
    exact hm.2 _ _ _ _ he' k' a b hM
  ·rw[if_neg (by omega),if_neg (by omega),if_neg (by omega),if_pos hk] at hq2;have l1:∀t,ev1 (.lookup t (false,[.int]) .nilFunc false) [.map ab,.int .u8 o.k] lo H2=some (.fn 72 [] [],H2):=fun t=>by rw[hk];exact lk 4 3 t rfl
   have hm:=mq _ hq2;clear hq hq2 mq;simp(disch:=omega) only[ak,↓aj,seval,uH,he,r0,↓l1,ar,↓FR,FW];refine acJ h2 (p4 (by omega)).1 (p4 (by omega)).2.1 (p4 (by omega)).2.2 hrl hlo (by omega) ⟨fun e H' he' k'=>?_,fun M' H' ow' L' he' k' a b hM=>?_⟩
   ·simp(disch:=omega) only[ak,↓aj,seval,uH,↓FR,FW]
    exact hm.1 e _ he' k'
   ·simp(disch:=omega) only[ak,↓aj,seval,uH,↓FR,FW]
    exact hm.2 _ _ _ _ he' k' a b hM
  ·rw[if_neg (by omega),if_neg (by omega),if_neg (by omega),if_neg (by omega),if_pos hk] at hq2;have l1:∀t,ev1 (.lookup t (false,[.int]) .nilFunc false) [.map ab,.int .u8 o.k] lo H2=some (.fn 73 [] [],H2):=fun t=>by rw[hk];exact lk 5 4 t rfl
   have hm:=mq _ hq2;clear hq hq2 mq;simp(disch:=omega) only[ak,↓aj,seval,uH,he,r0,↓l1,ar,↓FR,FW];refine ab1 h2 (p4 (by omega)).1 (p4 (by omega)).2.1 (p4 (by omega)).2.2 hrl hlo (by omega) ⟨fun e H' he' k'=>?_,fun M' H' ow' L' he' k' a b hM=>?_⟩
   ·simp(disch:=omega) only[ak,↓aj,seval,uH,↓FR,FW]
    exact hm.1 e _ he' k'
   ·simp(disch:=omega) only[ak,↓aj,seval,uH,↓FR,FW]
    exact hm.2 _ _ _ _ he' k' a b hM
  ·rw[if_neg (by omega),if_neg (by omega),if_neg (by omega),if_neg (by omega),if_neg (by omega),if_pos hk] at hq2;have l1:∀t,ev1 (.lookup t (false,[.int]) .nilFunc false) [.map ab,.int .u8 o.k] lo H2=some (.fn 74 [] [],H2):=fun t=>by rw[hk];exact lk 6 5 t rfl
   have hm:=mq _ hq2;clear hq hq2 mq;simp(disch:=omega) only[ak,↓aj,seval,uH,he,r0,↓l1,ar,↓FR,FW];refine acD h2 (p4 (by omega)).1 (p4 (by omega)).2.1 (p4 (by omega)).2.2 hlo (by omega) ⟨fun e H' he' k'=>?_,fun M' H' ow' L' he' k' a b hM=>?_⟩
   ·simp(disch:=omega) only[ak,↓aj,seval,uH,↓FR,FW]
    exact hm.1 e _ he' k'
   ·simp(disch:=omega) only[ak,↓aj,seval,uH,↓FR,FW]
    exact hm.2 _ _ _ _ he' k' a b hM
  ·rw[if_neg (by omega),if_neg (by omega),if_neg (by omega),if_neg (by omega),if_neg (by omega),if_neg (by omega),if_pos hk] at hq2;have l1:∀t,ev1 (.lookup t (false,[.int]) .nilFunc false) [.map ab,.int .u8 o.k] lo H2=some (.fn 75 [] [],H2):=fun t=>by rw[hk];exact lk 7 6 t rfl
   have hm:=mq _ hq2;clear hq hq2 mq;simp(disch:=omega) only[ak,↓aj,seval,uH,he,r0,↓l1,ar,↓FR,FW];refine abT h2 (p7 (by omega)) hlo (by omega) ⟨fun e H' he' k'=>?_,fun M' H' ow' L' he' k' a b hM=>?_⟩
   ·simp(disch:=omega) only[ak,↓aj,seval,uH,↓FR,FW]
    exact hm.1 e _ he' k'
   ·simp(disch:=omega) only[ak,↓aj,seval,uH,↓FR,FW]
    exact hm.2 _ _ _ _ he' k' a b hM
  ·rw[if_neg (by omega),if_neg (by omega),if_neg (by omega),if_neg (by omega),if_neg (by omega),if_neg (by omega),if_neg (by omega)] at hq2;have l1:∀t,ev1 (.lookup t (false,[.int]) .nilFunc false) [.map ab,.int .u8 o.k] lo H2=some (.fn 76 [] [],H2):=fun t=>by rw[hk];exact lk 8 7 t rfl
   have hm:=mq _ hq2;clear hq hq2 mq;simp(disch:=omega) only[ak,↓aj,seval,uH,he,r0,↓l1,ar,↓FR,FW];refine ac8 h2 (p7 (by omega)) hfa hlo (by omega) ⟨fun e H' he' k'=>?_,fun M' H' ow' L' he' k' a b hM=>?_⟩
   ·simp(disch:=omega) only[ak,↓aj,seval,uH,↓FR,FW]
    exact hm.1 e _ he' k'
   ·simp(disch:=omega) only[ak,↓aj,seval,uH,↓FR,FW]
    exact hm.2 _ _ _ _ he' k' a b hM
 ·rw[if_pos he] at hq2;simp(disch:=omega) only[ak,↓aj,seval,uH,he,↓FR,FW];exact hq2.1 _ _ rfl (KeepO.refl _ _)
theorem ac2{tb e:Nat}{H:Heap}(hg:H.get tb=some (.cells false e 1 [.nilSlice,.nilSlice,.nilSlice,.nilSlice,.nilSlice,.nilSlice]))(hlt:tb < H.n){lo:Nat}{Q:Out→Heap→Prop}(hlo:lo≤H.n)
  (h:∀H',Keep H.n H H'→Q (.val (.int .i64 0)) H'):W E0 lo (.call 62 [.agg [.slice tb 0 6 6 true,.nilSlice,.nilSlice,.nilSlice]]) H Q:=by
 refine W.pure bJ hlo ?_;have hr:=ah hg;rw[c62];simp(maxSteps:=4000000) (disch:=omega) only[ak,↓aj,seval,B62,ans,anr,anq,asO,asJ,abI,anp,ano,ann,asz,iU,ar0,arZ,arG,ar1,arH,amG,arn,arm,arl,ark,hr,ar,nn,kc,jL,Nat.min_self,show ¬H.n=tb by omega,↓FR,FW];exact fun k=>h _ k
def nil6:List IV:=[.nilSlice,.nilSlice,.nilSlice,.nilSlice,.nilSlice,.nilSlice]
def zy:List IV:=[.bool false,.int .i64 0,.int .i64 0,.bool false,.nilSlice]
def zy6:List IV:=nn 6 zy
theorem CX{H:Heap}{lo:Nat}{Q:Out→Heap→Prop}(hlo:lo≤H.n)
  (h:∀H',Keep H.n H H'→H'.n=H.n+4→H'.get (H.n+1)=some (.cells false 133 5 zy6)→H'.get (H.n+3)=some (.cells false 140 1 nil6)→
   Q (.val (.agg [.int .i64 0,.nilSlice,.nilSlice,.slice (H.n+1) 0 6 6 true,.slice (H.n+3) 0 6 6 true,.nilSlice,.nilSlice,.nilSlice])) H'):W E0 lo (.call 9 []) H Q:=by
 refine W.pure bJ hlo ?_;rw[c9];simp(maxSteps:=4000000) (disch:=omega) only[ak,↓aj,seval,B9,B32,B84,iU,c32,c84,ar,↓FR,FW];refine fun k=>h _ k rfl ?_ ?_
 ·simp only[ae,al,af,ac]
  repeat first | rw[if_pos (by omega)] | rw[if_neg (by omega)]
  rfl
 ·simp only[ae,al,af,ac]
  repeat first | rw[if_pos (by omega)] | rw[if_neg (by omega)]
  rfl
theorem amt{H:Heap}{lo:Nat}{Q:Out→Heap→Prop}(hlo:lo≤H.n)(h:∀H' b,Keep H.n H H'→Q (.val (.slice b 0 0 0 true)) H'):W E0 lo (.call 64 [.agg [.nilSlice,.nilSlice],.int .i64 0]) H Q:=by
 refine W.pure bJ hlo ?_;rw[c64];simp(disch:=omega) only[ak,↓aj,seval,B64,ar,↓FR,FW];rw[show IV.agg [.nilSlice,.nilSlice]=bv .nil .nil from rfl];refine xz (fs:=[]) (bs:=[]) 0 (Sl2.nil) (Sl2.nil) (by simp) (by simp) (by simp) (by simp) (by rw[ac];omega) (fun H2 k2 he=>absurd (by decide) he) fun H2 v l k2 _ f2 hp _=>?_
 have hl:l=[]:=by
  have:=hp.length_eq
  rw[jO] at this;exact List.length_eq_zero_iff.1 (by rw[this];rfl)
 subst hl;have sv:=f2.sl;have hn2:=k2.1;rw[ac] at hn2;simp(maxSteps:=4000000) (disch:=omega) only[ak,↓aj,seval,alH,iU,↓sv.ln,kG,nn,ar,↓FR,FW];exact fun k=>h _ _ k
theorem acF{yb tb ey et:Nat}{H:Heap}(hy:H.get yb=some (.cells false ey 5 zy6))(ht:H.get tb=some (.cells false et 1 nil6))(hlt:tb < H.n)(hlt':yb < H.n){lo:Nat}{Q:Out→Heap→Prop}(hlo:lo≤H.n)
  (h:∀H',Keep H.n H H'→Q (.val (.int .i64 0)) H'):W E0 lo (.call 27 [.agg [.int .i64 0,.nilSlice,.nilSlice,.slice yb 0 6 6 true,.slice tb 0 6 6 true,.nilSlice,.nilSlice,.nilSlice]]) H Q:=by
 refine gw _ hlo h fun R hR=>?_;clear h;rw[c27];simp(maxSteps:=4000000) (disch:=omega) only[ak,↓aj,seval,aeu,ar,↓FR,FW];rw[show IV.agg [.nilSlice,.nilSlice]=bv .nil .nil from rfl];generalize hH_H1:Heap.new _ _=H1;have hnH1:H1.n=H.n+1:=by rw[←hH_H1];rfl
 have g0:=congrArg (fun h0=>Heap.get h0 (H.n)) hH_H1.symm;simp(disch:=omega) only[ak,↓aj,seval] at g0
 have kH1:Keep H.n H H1:=⟨by omega,fun x hx _=>by
  have gx:=congrArg (fun h0=>Heap.get h0 x) hH_H1.symm;simp(disch:=omega) only[ak,↓aj,seval] at gx;exact gx⟩
 clear hH_H1;refine ss (fs:=[]) (bs:=[]) Sl2.nil Sl2.nil (by simp) (by simp) (by simp) (by simp) (by omega) fun H2 k2=>?_;have hn2:=k2.1;replace g0:=(k2.2 _ (by omega) (by omega)).trans g0;have r0:=ah g0;have kk:Keep H.n H H2:=kH1.trans (k2.lower (by omega));have gy:=(kk.2 yb hlt' hlt').trans hy;have ry:=ah gy;rw[show aW [] []=0 by decide];have ez:zy6.length=30:=rfl;simp(maxSteps:=4000000) (disch:=omega) only[ak,↓aj,seval,aeu,Nx,iU,c61,r0,ry,ez,zy6,zy,nn,ar,show ¬H2.n=yb by omega,show ¬H2.n+1=yb by omega,show ¬H2.n=H.n by omega,show ¬H2.n+1=H.n by omega,↓FR,FW];generalize hH_H3:Heap.new _ _=H3;have hnH3:H3.n=H2.n+12:=by rw[←hH_H3];rfl
 have kH3:Keep H2.n H2 H3:=⟨by omega,fun x hx _=>by
  have gx:=congrArg (fun h0=>Heap.get h0 x) hH_H3.symm;simp(disch:=omega) only[ak,↓aj,seval] at gx;exact gx⟩
 clear hH_H3;have k03:Keep H.n H H3:=kk.trans (kH3.lower (by omega));have gt3:=(k03.2 tb hlt hlt).trans ht;refine ac2 gt3 (by omega) (by omega) fun H4 k4=>?_;have hn4:=k4.1;have k04:Keep H.n H H4:=k03.trans (k4.lower (by omega));have r04:=ah ((k4.2 H.n (by omega) (by omega)).trans ((kH3.2 H.n (by omega) (by omega)).trans g0));clear r0 ry gy;simp(maxSteps:=4000000) (disch:=omega) only[ak,↓aj,seval,aeu,r04,ar,↓FR,FW];refine amt (by omega) fun H5 b5 k5=>?_;have hn5:=k5.1;have k05:Keep H.n H H5:=k04.trans (k5.lower (by omega));have g05:=(k5.2 H.n (by omega) (by omega)).trans ((k4.2 H.n (by omega) (by omega)).trans ((kH3.2 H.n (by omega) (by omega)).trans g0));have r05:=ah g05;have gt5:=(k05.2 tb hlt hlt).trans ht;have gy5:=(k05.2 yb hlt' hlt').trans hy;have rt5:=ah gt5;have ry5:=ah gy5;have et:nil6.length=6:=rfl;clear r04 gt3;simp(maxSteps:=4000000) (disch:=omega) only[ak,↓aj,seval,aeu,aso,iU,c63,r05,rt5,ry5,ez,et,zy6,zy,nil6,nn,jL,ar,show ¬H5.n=tb by omega,show ¬H5.n=yb by omega,show ¬H5.n=H.n by omega,↓FR,FW];exact hR _
def M0:Mc:=⟨0,List.replicate 80 [],List.replicate 6 pb,List.replicate 6 [],[],[]⟩
theorem QD:Valid M0.t:=⟨by decide,by simp[M0],by simp[M0],by simp[M0]⟩
theorem adp:aO M0.t=[]:=by decide
theorem adq:aJ M0.t=[]:=by decide
def L0(n:Nat):Ly:=⟨n+3,n+10,n+17,.sl (n+1) 0 0 0 true,.sl (n+2) 0 0 0 true,
 [⟨pb,.sl (n+4) 0 0 0 true⟩,⟨pb,.sl (n+5) 0 0 0 true⟩,⟨pb,.sl (n+6) 0 0 0 true⟩,⟨pb,.sl (n+7) 0 0 0 true⟩,⟨pb,.sl (n+8) 0 0 0 true⟩,⟨pb,.sl (n+9) 0 0 0 true⟩],
 [.sl (n+11) 0 0 0 true,.sl (n+12) 0 0 0 true,.sl (n+13) 0 0 0 true,.sl (n+14) 0 0 0 true,.sl (n+15) 0 0 0 true,.sl (n+16) 0 0 0 true],
 [[],[],[],[],[],[]],.sl (n+18) 0 0 0 true⟩
def G9(n:Nat):List Nat:=[n+19,n+3,n+10,n+17,n+11,n+12,n+13,n+14,n+15,n+16,n+18]
theorem ama{α:Type}[Cell α]{H:Heap}{b e z:Nat}(hz:Cell.z α=z)(h:H.get b=some (.cells false e z []))(hb:b < H.n):Own H b e 0 ([]:List α):=by
 have:=Own.mk' (H:=H) (b:=b) (e:=e) (l:=([]:List α)) hb hz h rfl
 exact this
theorem acA{yb tb ey et:Nat}{H:Heap}(hy:H.get yb=some (.cells false ey 5 zy6))(ht:H.get tb=some (.cells false et 1 nil6))(hlt:tb < H.n)(hlt':yb < H.n){lo:Nat}{Q:Out→Heap→Prop}(hlo:lo≤H.n)
  (h:∀H',Keep H.n H H'→MI H.n (H.n+19) H' (G9 H.n) (L0 H.n) M0→Q (.val (.ptr (H.n+19) 0)) H'):W E0 lo (.call 28 [.agg [.int .i64 0,.nilSlice,.nilSlice,.slice yb 0 6 6 true,.slice tb 0 6 6 true,.nilSlice,.nilSlice,.nilSlice]]) H Q:=by
 refine W.pure bJ hlo ?_;have ry:=ah hy;have rt:=ah ht;have ez:zy6.length=30:=rfl;have e6:nil6.length=6:=rfl;rw[c28];simp(maxSteps:=4000000) (disch:=omega) only[ak,↓aj,seval,asp,asn,asm,asl,B68,B81,asL,asK,iU,c65,c66,c67,c68,c81,arX,arW,ry,rt,ez,e6,zy6,nil6,zy,nn,jL,kc,fw,Nat.min_self,ar,show ¬H.n=tb by omega,show ¬H.n=yb by omega,↓FR,FW];generalize hH_HX:Heap.new _ _=HX;have hnHX:HX.n=H.n+20:=by rw[←hH_HX];rfl
 have g1:=congrArg (fun h0=>Heap.get h0 (H.n+1)) hH_HX.symm;simp(disch:=omega) only[ak,↓aj,seval] at g1;have g2:=congrArg (fun h0=>Heap.get h0 (H.n+2)) hH_HX.symm;simp(disch:=omega) only[ak,↓aj,seval] at g2;have g3:=congrArg (fun h0=>Heap.get h0 (H.n+3)) hH_HX.symm;simp(disch:=omega) only[ak,↓aj,seval] at g3;have g4:=congrArg (fun h0=>Heap.get h0 (H.n+4)) hH_HX.symm;simp(disch:=omega) only[ak,↓aj,seval] at g4;have g5:=congrArg (fun h0=>Heap.get h0 (H.n+5)) hH_HX.symm;simp(disch:=omega) only[ak,↓aj,seval] at g5;have g6:=congrArg (fun h0=>Heap.get h0 (H.n+6)) hH_HX.symm;simp(disch:=omega) only[ak,↓aj,seval] at g6;have g7:=congrArg (fun h0=>Heap.get h0 (H.n+7)) hH_HX.symm;simp(disch:=omega) only[ak,↓aj,seval] at g7;have g8:=congrArg (fun h0=>Heap.get h0 (H.n+8)) hH_HX.symm;simp(disch:=omega) only[ak,↓aj,seval] at g8;have g9:=congrArg (fun h0=>Heap.get h0 (H.n+9)) hH_HX.symm;simp(disch:=omega) only[ak,↓aj,seval] at g9;have g10:=congrArg (fun h0=>Heap.get h0 (H.n+10)) hH_HX.symm;simp(disch:=omega) only[ak,↓aj,seval] at g10;have g11:=congrArg (fun h0=>Heap.get h0 (H.n+11)) hH_HX.symm;simp(disch:=omega) only[ak,↓aj,seval] at g11;have g12:=congrArg (fun h0=>Heap.get h0 (H.n+12)) hH_HX.symm;simp(disch:=omega) only[ak,↓aj,seval] at g12;have g13:=congrArg (fun h0=>Heap.get h0 (H.n+13)) hH_HX.symm;simp(disch:=omega) only[ak,↓aj,seval] at g13;have g14:=congrArg (fun h0=>Heap.get h0 (H.n+14)) hH_HX.symm;simp(disch:=omega) only[ak,↓aj,seval] at g14;have g15:=congrArg (fun h0=>Heap.get h0 (H.n+15)) hH_HX.symm;simp(disch:=omega) only[ak,↓aj,seval] at g15;have g16:=congrArg (fun h0=>Heap.get h0 (H.n+16)) hH_HX.symm;simp(disch:=omega) only[ak,↓aj,seval] at g16;have g17:=congrArg (fun h0=>Heap.get h0 (H.n+17)) hH_HX.symm;simp(disch:=omega) only[ak,↓aj,seval] at g17;have g18:=congrArg (fun h0=>Heap.get h0 (H.n+18)) hH_HX.symm;simp(disch:=omega) only[ak,↓aj,seval] at g18;have g19:=congrArg (fun h0=>Heap.get h0 (H.n+19)) hH_HX.symm;simp(disch:=omega) only[ak,↓aj,seval] at g19
 have kHX:Keep H.n H HX:=⟨by omega,fun x hx _=>by
  have gx:=congrArg (fun h0=>Heap.get h0 x) hH_HX.symm;simp(disch:=omega) only[ak,↓aj,seval] at gx;exact gx⟩
 clear hH_HX;intro hk;clear ry rt hy ht;refine h _ hk ?_;generalize hN:H.n=n at *;have hon:∀x,(x < n+20)→x < HX.n:=fun x hx=>by omega
 have so:∀{α:Type} [Cell α] {x e z:Nat},Cell.z α=z→HX.get x=some (.cells false e z [])→x < n+20→Sl (HX.off (G9 n)) (.sl x 0 0 0 true) ([]:List α):=fun hz hg hx=>((ama hz hg (hon _ hx)).sl true).onto fun h=>absurd rfl h;have tg:∀{α:Type} [Cell α] {x e z:Nat},Cell.z α=z→HX.get x=some (.cells false e z [])→x < n+20→n≤x→Tg n HX e (.sl x 0 0 0 true) ([]:List α):=fun hz hg hx hx'=>⟨_,true,rfl,hx',ama hz hg (hon _ hx)⟩;have gyo:Own HX (n+3) 133 6 (L0 n).yl:=Own.mk' (hon _ (by omega)) ajy g3 rfl;have gto:Own HX (n+10) 140 6 (L0 n).ws:=Own.mk' (hon _ (by omega)) nu g10 rfl
 have tgw:∀x,x=n+11∨x=n+12∨x=n+13∨x=n+14∨x=n+15∨x=n+16→Tg n HX 158 (.sl x 0 0 0 true) ([]:List Lv):=fun x hx=>by
  rcases hx with rfl | rfl | rfl | rfl | rfl | rfl
  ·exact tg CL g11 (by omega) (by omega)
  ·exact tg CL g12 (by omega) (by omega)
  ·exact tg CL g13 (by omega) (by omega)
  ·exact tg CL g14 (by omega) (by omega)
  ·exact tg CL g15 (by omega) (by omega)
  ·exact tg CL g16 (by omega) (by omega)
 have hl6:(L0 n).rl.length=6:=rfl;have hw6:(L0 n).ws.length=6:=rfl
 refine{gm:=g19,rk:=by decide,gy:=gyo,yn:=rfl,ym:=rfl,yd:=?_,yo:=?_,bf:=?_,bb:=?_,bv:=QD,gt:=gto,wn:=rfl,rn:=rfl,rg:=?_,rx:=?_,rd:=?_,rm:=rfl,gc:=⟨[],0,g17,rfl,by simp,by simp⟩,gf:=tg lB g18 (by omega) (by omega),
        om:=by simp[G9],oy:=by simp[G9,L0],ot:=by simp[G9,L0],oc:=by simp[G9,L0],orw:=?_,of:=by simp[G9,L0,SV.blk],lo:=?_}
 ·intro x hx;simp only[L0,sW,List.not_mem_nil,or_false] at hx;rcases hx with rfl | rfl | rfl | rfl | rfl | rfl
  ·exact so nv g4 (by omega)
  ·exact so nv g5 (by omega)
  ·exact so nv g6 (by omega)
  ·exact so nv g7 (by omega)
  ·exact so nv g8 (by omega)
  ·exact so nv g9 (by omega)
 ·intro y hy;rw[List.eq_of_mem_replicate hy];exact Pa
 ·rw[adp];exact⟨[],so nu g1 (by omega),rfl,fun i h=>absurd h (by simp)⟩
 ·rw[adq];exact⟨[],so nu g2 (by omega),rfl,fun i h=>absurd h (by simp)⟩
 ·intro i h1 h2;have hi:i=0∨i=1∨i=2∨i=3∨i=4∨i=5:=by omega
  rcases hi with rfl | rfl | rfl | rfl | rfl | rfl<;>exact tgw _ (by simp)
 ·intro i j h1 h2 he;have hi:i=0∨i=1∨i=2∨i=3∨i=4∨i=5:=by omega
  have hj:j=0∨j=1∨j=2∨j=3∨j=4∨j=5:=by omega
  rcases hi with rfl | rfl | rfl | rfl | rfl | rfl<;>rcases hj with rfl | rfl | rfl | rfl | rfl | rfl<;>first | rfl | (simp[L0,SV.blk] at he)
 ·intro r hr x hx
  have:r=[]:=by simpa [L0] using hr
  rw[this] at hx;cases hx
 ·intro w hw;simp only[L0,sW,List.not_mem_nil,or_false] at hw;rcases hw with rfl | rfl | rfl | rfl | rfl | rfl<;>simp[G9,SV.blk]
 ·intro x hx;simp only[G9,sW,List.not_mem_nil,or_false] at hx;omega
structure Crs where
 a:Id
 b:Id
 n:Int
 deriving Inhabited,DecidableEq
instance:Cell Crs where
 z:=5
 cs c:=[.int .u8 c.a.y,.int .i64 c.a.n,.int .u8 c.b.y,.int .i64 c.b.n,.int .i64 c.n]
 len _:=rfl
 one _:=rfl
 pos:=by omega
theorem Qc(c:Crs):Cell.cs c=[.int .u8 c.a.y,.int .i64 c.a.n,.int .u8 c.b.y,.int .i64 c.b.n,.int .i64 c.n]:=rfl
theorem GN:Cell.z Crs=5:=rfl
theorem DB{v:SV}{l:List Crs}{H:Heap}{lo:Nat}{Q:Out→Heap→Prop}(hv:Sl H v l)(hl:l.length≤1000000)(hlo:lo≤H.n)
  (h:∀H' b,Keep H.n H H'→H.n≤b→Own H' b 149 l.length l→Q (.val (SV.sl b 0 l.length l.length true).iv) H'):W E0 lo (.call 83 [v.iv]) H Q:=by
 refine W.pure bJ hlo ?_;rw[c83];obtain⟨H2,e1,e2,e3,e4⟩:=iw hv (z:=5) rfl 149 H.n [IV.int .u8 0,.int .i64 0,.int .u8 0,.int .i64 0,.int .i64 0] rfl (au _);simp(disch:=omega) only[ak,↓aj,seval,B83,↓hv.ln,↓e1,Int.reducePow];exact fun hk=>h _ _ hk (au _) e4
theorem FF{v:SV}{l:List Lv}{H:Heap}{lo:Nat}{Q:Out→Heap→Prop}(hv:Sl H v l)(hl:l.length≤1000000)(hlo:lo≤H.n)
  (h:∀H' b,Keep H.n H H'→H.n≤b→Own H' b 158 l.length l→Q (.val (SV.sl b 0 l.length l.length true).iv) H'):W E0 lo (.call 81 [v.iv]) H Q:=by
 refine W.pure bJ hlo ?_;rw[c81];obtain⟨H2,e1,e2,e3,e4⟩:=iw hv (z:=4) rfl 158 H.n [IV.int .u8 0,.bool false,.nilSlice,.nilSlice] rfl (au _);simp(disch:=omega) only[ak,↓aj,seval,B81,↓hv.ln,↓e1,Int.reducePow];exact fun hk=>h _ _ hk (au _) e4
def Qe(x y:Crs):Int:=if CK x.a y.a≠0 then CK x.a y.a else CK x.b y.b
theorem Ng(x y:Crs){H:Heap}{lo:Nat}{Q:Out→Heap→Prop}(hlo:lo≤H.n)(h:∀H',Keep H.n H H'→Q (.val (.int .i64 (Qe x y))) H'):W E0 lo (.call 79 [.agg [.int .u8 x.a.y,.int .i64 x.a.n,.int .u8 x.b.y,.int .i64 x.b.n,.int .i64 x.n],.agg [.int .u8 y.a.y,.int .i64 y.a.n,.int .u8 y.b.y,.int .i64 y.b.n,.int .i64 y.n]]) H Q:=by
 refine gw _ hlo h fun R hR=>?_;clear h;rw[c79];simp(disch:=omega) only[ak,↓aj,seval,B79,ar,↓FR,FW];generalize hH_H1:Heap.new _ _=H1;have hnH1:H1.n=H.n+2:=by rw[←hH_H1];rfl
 have g0:=congrArg (fun h0=>Heap.get h0 (H.n)) hH_H1.symm;simp(disch:=omega) only[ak,↓aj,seval] at g0;have g1:=congrArg (fun h0=>Heap.get h0 (H.n+1)) hH_H1.symm;simp(disch:=omega) only[ak,↓aj,seval] at g1
 have kH1:Keep H.n H H1:=⟨by omega,fun x hx _=>by
  have gx:=congrArg (fun h0=>Heap.get h0 x) hH_H1.symm;simp(disch:=omega) only[ak,↓aj,seval] at gx;exact gx⟩
 clear hH_H1;refine vC x.a y.a (by omega) fun H2 k2=>?_;have hn2:=k2.1;replace g0:=(k2.2 _ (by omega) (by omega)).trans g0;replace g1:=(k2.2 _ (by omega) (by omega)).trans g1;have r0:=ah g0;have r1:=ah g1;by_cases he:CK x.a y.a=0
 ·simp(disch:=omega) only[ak,↓aj,seval,B79,he,r0,r1,ar,↓FR,FW]
  refine vC x.b y.b (by omega) fun H3 k3=>?_;simp(disch:=omega) only[ak,↓aj,seval,B79,↓FR,FW]
  have:=hR H3
  unfold Qe at this;rw[if_neg (fun h=>h he)] at this;exact this
 ·simp(disch:=omega) only[ak,↓aj,seval,B79,he,↓FR,FW]
  have:=hR H2
  unfold Qe at this;rw[if_pos he] at this;exact this
theorem Pp{f b:SV}{t:List (List Id)}(hV:Valid t){r:Int}(hr: -4≤r∧r≤4){H:Heap}(hf:Sl2 H f (aO t))(hb:Sl2 H b (aJ t)){lo:Nat}{Q:Out→Heap→Prop}(hlo:lo≤H.n)
  (hq:∀H' v,Keep H.n H H'→Fresh H.n H' 204 v (cn (aO t) (aJ t) r)→(cn (aO t) (aJ t) r).length≤320→Q (.val (.tuple [v.iv,.int .i64 0])) H'):W E0 lo (.call 119 [bv f b,.int .i64 r]) H Q:=by
 have hrb:fi r=true:=rackB_iff.2 hr;have hc:=hV.check;have hF:=kh t;have hB:=iy hV.len;obtain⟨h6,h6'⟩:=hV.len6;have ho:bP (aO t) (aJ t) r=0:=by unfold bP;rw[hc,hrb];simp
 refine xz r hf hb (by omega) (by omega) h6 h6' hlo (fun H' _ hne=>absurd ho hne) fun H' v l k _ hf hp hs=>?_;rw[rF hc hrb hp hs] at hf;have h4:∀x∈aO t,x.length≤4:=fun l hl=>hV.four l (fD hl);have h4':∀x∈aJ t,x.length≤4:=fun l hl=>hV.four l (dM hl);have hl:=hp.length_eq;have e1:=lT hF h4;have e2:=lT hB h4';rw[jO,rF hc hrb hp hs] at hl;exact hq H' v k hf (by omega)
def zId:Id:=⟨0,0⟩
theorem Of{α:Type}(l:List α)(z:α)(n i:Nat)(hn:l.length=n)(hi:i < l.length):(l.take i++List.replicate (n - i) z).set i l[i]=l.take (i+1)++List.replicate (n - (i+1)) z:=by
 subst hn;rw[List.set_append_right _ _ (by rw[gu];omega),gu,tV (by omega),Nat.sub_self];rw[show l.length - i=(l.length - (i+1))+1 by omega,Bl,List.set_cons_zero,gv hi,cO];rfl
theorem acW{f b:SV}{t:List (List Id)}(hV:Valid t){r:Int}(hr: -4≤r∧r≤4){H:Heap}(hf:Sl2 H f (aO t))(hb:Sl2 H b (aJ t)){lo:Nat}{Q:Out→Heap→Prop}(hlo:lo≤H.n)
  (h:∀H' c,Keep H.n H H'→H.n≤c→Own H' c 138 (cn (aO t) (aJ t) r).length ((cn (aO t) (aJ t) r).map (·.id))→Q (.val (.slice c 0 (cn (aO t) (aJ t) r).length (cn (aO t) (aJ t) r).length true)) H'):
  W E0 lo (.call 64 [bv f b,.int .i64 r]) H Q:=by
 refine W.pure bJ hlo ?_;rw[c64];simp(disch:=omega) only[ak,↓aj,seval,B64,bv,ar,↓FR,FW];rw[show IV.agg [f.iv,b.iv]=bv f b from rfl];generalize hH_H1:Heap.new _ _=H1;have hnH1:H1.n=H.n+1:=by rw[←hH_H1];rfl
 have g0:=congrArg (fun h0=>Heap.get h0 (H.n)) hH_H1.symm;simp(disch:=omega) only[ak,↓aj,seval] at g0
 have kH1:Keep H.n H H1:=⟨by omega,fun x hx _=>by
  have gx:=congrArg (fun h0=>Heap.get h0 x) hH_H1.symm;simp(disch:=omega) only[ak,↓aj,seval] at gx;exact gx⟩
 clear hH_H1;refine Pp hV hr (hf.keep kH1) (hb.keep kH1) (by omega) fun H2 v k2 f2 hl2=>?_;have hn2:=k2.1;generalize cn (aO t) (aJ t) r=l at *;have sv:=f2.sl;obtain⟨n,hln⟩:∃n:Nat,n=l.length:=⟨_,rfl⟩;rw[←hln] at h hl2;have hlv:=sv.ln;rw[←hln] at hlv;simp(disch:=omega) only[ak,↓aj,seval,B64,↓hlv,ar,Int.reducePow,↓FR,FW];have hO:=Own.mksl (H:=H2) (e:=138) (n:=n) lB zId;have kk:Keep H.n H H2:=kH1.trans (k2.lower (by omega));obtain⟨c,hc⟩:∃c,c=H2.n:=⟨_,rfl⟩;rw[show Cell.cs zId=[IV.int .u8 0,IV.int .i64 0] from rfl,←hc] at hO;rw[←hc];obtain⟨H3,hH3⟩:∃H3,H3=H2.new (.cells false 138 2 (nn n [IV.int .u8 0,IV.int .i64 0])):=⟨_,rfl⟩;have hn3:H3.n=H2.n+1:=by rw[hH3];rfl
 have k23:Keep H2.n H2 H3:=by rw[hH3];exact .new _ _
 rw[←hH3] at hO⊢
 refine aP (fun k fr H'=>∃i,i+k=n∧KeepO [c] H3 H'∧Own H' c 138 n ((l.map (·.id)).take i++List.replicate (n - i) zId)∧fr.marks=[]∧fr.tm.length=33∧fr.tm.getD 7 IV.undef=.slice c 0 n n true∧fr.tm.getD 19 IV.undef=v.iv∧fr.tm.getD 20 IV.undef=.int .i64 n∧fr.tm.getD 21 IV.undef=.int .i64 i) ?_ n ⟨0,by omega,KeepO.refl _ _,by simpa using hO,rfl,rfl,rfl,rfl,rfl,rfl⟩
 rintro k ⟨tm,mk⟩ H' ⟨i,hik,hk,hO',rfl,htm,t7,t19,t20,t21⟩ L hN hJ;have hn':=hk.1
 have hvl:v.blk < c∨l=[]:=by
  rcases f2 with⟨_,e⟩ | ⟨b,rfl,_,o⟩
  ·exact .inr e
  ·left;show b < c;rw[hc];exact o.2.1
 have hv':Sl H' v l:=(sv.keep k23).same hn' fun hl=>by
  rcases hvl with h1 | h1
  ·exact hk.2 _ (by omega) (by simp;omega)
  ·exact absurd h1 hl
 have hlm:(l.map (·.id)).length=n:=by rw[np,hln]
 rw[akx tm htm,t7,t19,t20,t21];by_cases hi:i < n
 ·have r1:=hv'.read jt i (by omega)
  have hset:=Of (l.map (·.id)) zId n i hlm (by omega)
  rw[List.getElem_map] at hset
  obtain⟨m,hm⟩:∃m,m=(l.map (·.id)).take i++List.replicate (n - i) zId:=⟨_,rfl⟩
  have hll:m.length=n:=by rw[hm,bn,gu,qc];omega
  rw[←hm] at hO' hset;have h0:Own H' c 138 m.length m:=by rw[hll];exact hO'
  have gf:=h0.full;rw[lB] at gf;have hfl:(aG m).length=n*2:=by rw[aw,hll];rfl
  have hcn:=hO'.2.1;have hO2:=h0.keepO (KeepO.of (ow:=[]) (Keep.newPut (H:=H') (o:=.cells false 204 5 [.int .u8 0,.int .i64 0,.int .u8 0,.int .i64 0,.int .i64 0]) (o':=.cells false 204 5 (Cell.cs l[i])))) (by simp);have hO3:=Own.put hO2 lB i (by omega) l[i].id;rw[hset,hll] at hO3;rw[Ac,show Cell.cs l[i].id=[IV.int .u8 l[i].id.y,IV.int .i64 l[i].id.n] from rfl] at hO3;clear hO2 hO' hset h0 hm;simp(disch:=omega) only[ak,↓aj,seval,alH,↓hv'.idx,r1,Ac,gf,hfl,show ¬H'.n=c by omega,show ¬c=H'.n by omega,ar,fj,↓FR,FW];exact hN (k - 1) _ _ (by omega) ⟨i+1,by omega,(hk.trans (KeepO.of (ow:=[c]) Keep.newPut) fun x hx=>.inl hx).trans (KeepO.put (by simp)) fun x hx=>.inl hx,hO3,rfl,rfl,rfl,rfl,rfl,rfl⟩
 ·rw[bW (by omega),show n - i=0 by omega,List.replicate_zero,iF] at hO';simp(disch:=omega) only[ak,↓aj,seval,alH,hJ];have kf:Keep H.n H H':=⟨by have:=kk.1;omega,fun x h1 h2=>(hk.2 x (by have:=kk.1;omega) (by have:=kk.1;simp;omega)).trans ((k23.2 x (by have:=kk.1;omega) (by have:=kk.1;omega)).trans (kk.2 x h1 h2))⟩;exact fun _=>h H' c kf (by have:=kk.1;omega) hO'
def tp(tm:List IV)(h:tm.length=95):=(cS tm 95 h).trans (by simp only[List.range,List.range.loop,bI,bj];exact rfl)
theorem Mg{n0 mb rb tb:Nat}{w3 r f b y c fa:IV}{H:Heap}{ws:List SV}{rl:List (List Lv)}(gm:H.get mb=some (.cells false 147 7 [r,f,b,y,.slice tb 0 6 6 true,c,fa]))
  (gt:Own H tb 140 6 ws) (wn:ws.length=6) (rn:rl.length=6) (rg:∀(i:Nat) (h:i < ws.length) (h':i < rl.length),Tg n0 H 158 ws[i] rl[i]) (hl:∀x∈rl,x.length≤1000000)
  {tm:List IV} {lo:Nat} {Q:Out→Heap→Prop} (hlo:lo≤tb) (hlt:tb < H.n) (hlm:mb < H.n) (htm:tm.length=95) (t0:tm.getD 0 IV.undef=.ptr mb 0) (t2:tm.getD 2 IV.undef=.ptr rb 0) (t3:tm.getD 3 IV.undef=w3) (t39:tm.getD 39 IV.undef=.slice tb 0 6 6 true) (t40:tm.getD 40 IV.undef=.int .i64 6) (t41:tm.getD 41 IV.undef=.int .i64 0)
  (hQ:∀H' tm',KeepO [tb] H H'→tm'.length=95→tm'.getD 0 IV.undef=.ptr mb 0→tm'.getD 2 IV.undef=.ptr rb 0→tm'.getD 3 IV.undef=w3→Q (.ex (.jmp (.exit 2)) ⟨tm',[]⟩) H'):
  W E0 lo (.code (.loop Cd) none ⟨tm,[]⟩) H Q:=by
 have e1:mb≠tb:=fun e=>by obtain⟨_,_,r,h3,_⟩:=gt;rw[←e,gm] at h3;cases h3
 refine aP (fun k fr H'=>∃i ws',i+k=6∧KeepO [tb] H H'∧Own H' tb 140 6 ws'∧ws'.length=6∧(∀(j:Nat) (h:j < ws.length) (h':j < ws'.length),i≤j→ws'[j]=ws[j])∧fr.marks=[]∧fr.tm.length=95∧fr.tm.getD 0 IV.undef=.ptr mb 0∧fr.tm.getD 2 IV.undef=.ptr rb 0∧fr.tm.getD 3 IV.undef=w3∧fr.tm.getD 39 IV.undef=.slice tb 0 6 6 true∧fr.tm.getD 40 IV.undef=.int .i64 6∧fr.tm.getD 41 IV.undef=.int .i64 i) ?_ 6
  ⟨0,ws,by omega,KeepO.refl _ _,gt,wn,fun j _ _ _=>rfl,rfl,htm,t0,t2,t3,t39,t40,t41⟩
 clear htm t0 t2 t3 t39 t40 t41;rintro k ⟨tm,mk⟩ H' ⟨i,ws',hik,hk,hO,hw6,hws,rfl,htm,t0,t2,t3,t39,t40,t41⟩ L hN hJ;have hn':=hk.1;rw[tp tm htm,t0,t2,t3,t39,t40,t41];by_cases hi:i < 6
 ·have hiw:i < ws.length:=by omega
  have hir:i < rl.length:=by omega
  have hi':i < ws'.length:=by omega
  have hwi:=hws i hiw hi' (au _)
  have r1:H'.read tb i 1=some [ws[i].iv]:=by
   have:=(hO.sl true).read nu i hi'
   rw[sm,hwi] at this;simpa [SV.blk,SV.off] using this
  have hne:ws[i].blk≠tb:=fun e=>by
   obtain⟨b,ex,hb,_,_,_,r,h3,_⟩:=rg i hiw hir;rw[hb] at e;have e:b=tb:=e;obtain⟨_,_,r',h4,_⟩:=gt;rw[e,h4] at h3;cases h3
  have hv:=((rg i hiw hir).keepO hk (by simpa using hne)).sl;have gm':=(hk.2 mb hlm (by simpa using e1)).trans gm;have rm:=ah gm';have hll:=hl _ (bQ hir);have h0:Own H' tb 140 ws'.length ws':=by rw[hw6];exact hO
  simp(disch:=omega) only[ak,↓aj,seval,aet,r1,rm,lL,fj,ar,↓FR,FW]
  refine FF hv hll (by omega) fun H2 b2 k2 hb2 o2=>?_;have hn2:=k2.1;have h2:=h0.keep k2;have gf:=h2.full;rw[nu] at gf;have hfl:(aG ws').length=6:=by rw[aw,hw6];rfl
  have hO3:=Own.put h2 nu i hi' (.sl b2 0 rl[i].length rl[i].length true);rw[sm,lL,hw6] at hO3;simp(disch:=omega) only[ak,↓aj,seval,aet,gf,hfl,lL,fj,ar,↓FR,FW];refine hN (k - 1) _ _ (by omega) ⟨i+1,_,by omega,(hk.trans (KeepO.of (ow:=[tb]) k2) fun x hx=>.inl hx).trans (KeepO.put (by simp)) fun x hx=>.inl hx,hO3,by rw[cI,hw6],fun j h h' hj=>?_,rfl,rfl,rfl,rfl,rfl,rfl,rfl,rfl⟩;rw[j0 (by omega)];exact hws j h (by rw[cI] at h';exact h') (by omega)
 ·simp(disch:=omega) only[ak,↓aj,seval,aet,hJ]
  exact hQ H' _ hk rfl rfl rfl rfl
theorem LW{mb rb cb yb tb e:Nat}{r:Int}{f b fv:SV}{c:IV}{t:List (List Id)}{l:List Crs}{fa:List Id}{z8:List IV}{H:Heap}(gm:H.get mb=some (.cells false 147 7 [.int .i64 r,f.iv,b.iv,.slice yb 0 6 6 true,.slice tb 0 6 6 true,c,fv.iv]))
  (hV:Valid t) (hr: -4≤r∧r≤4) (hf:Sl2 H f (aO t)) (hb:Sl2 H b (aJ t)) (hc:Sl H (.sl cb 0 l.length l.length true) l) (hcl:l.length≤1000000) (hfv:Sl H fv fa) (hfl:fa.length≤1000000)
  (hrb:H.get rb=some (.cells false e 8 z8)) (hz8:z8.length=8) (hrm:rb≠mb) {tm:List IV} {lo:Nat} {Q:Out→Heap→Prop} (hlo:lo≤rb) (hlr:rb < H.n) (hlm:mb < H.n) (htm:tm.length=95) (t0:tm.getD 0 IV.undef=.ptr mb 0) (t2:tm.getD 2 IV.undef=.ptr rb 0) (t3:tm.getD 3 IV.undef=.slice cb 0 l.length l.length true)
  (hQ:∀H' tm' c1 c2 c3,tm'.length=95→tm'.getD 2 IV.undef=.ptr rb 0→H'.get rb=some (.cells false e 8 [.int .i64 r,f.iv,b.iv,.slice yb 0 6 6 true,.slice tb 0 6 6 true,.slice c1 0 l.length l.length true,.slice c2 0 (cn (aO t) (aJ t) r).length (cn (aO t) (aJ t) r).length true,.slice c3 0 fa.length fa.length true])→Q (.ex (.jmp .ret) ⟨tm',[]⟩) H'):
  W E0 lo (.code (.seq Cc (.seq Cb .ret)) none ⟨tm,[]⟩) H Q:=by
 have rm:=ah gm;rw[tp tm htm,t0,t2,t3];simp(disch:=omega) only[ak,↓aj,seval,EP,rm,ar,↓FR,FW];refine DB hc hcl (by omega) fun H2 c1 k2 hb1 o2=>?_;have hn2:=k2.1;have gm2:=(k2.2 mb hlm hlm).trans gm;have rm2:=ah gm2;clear rm;simp(disch:=omega) only[ak,↓aj,seval,EP,rm2,ar,↓FR,FW];rw[show IV.agg [f.iv,b.iv]=bv f b from rfl];refine acW hV hr (hf.keep k2) (hb.keep k2) (by omega) fun H3 c2 k3 hb2 o3=>?_;have hn3:=k3.1;have k23:Keep H.n H H3:=k2.trans (k3.lower hn2);have gm3:=(k23.2 mb hlm hlm).trans gm;have rm3:=ah gm3;clear rm2;simp(disch:=omega) only[ak,↓aj,seval,EP,rm3,ar,↓FR,FW];refine xH (hfv.keep k23) hfl (by omega) fun H4 c3 k4 hb3 o4=>?_;have hn4:=k4.1;have k24:Keep H.n H H4:=k23.trans (k4.lower (by omega));have gm4:=(k24.2 mb hlm hlm).trans gm;have gr4:=(k24.2 rb hlr hlr).trans hrb;have rm4:=ah gm4;clear rm3;simp(disch:=omega) only[ak,↓aj,seval,EP,rm4,gm4,gr4,hz8,ar,show ¬H4.n=mb by omega,show ¬mb=H4.n by omega,show ¬H4.n=rb by omega,show ¬rb=H4.n by omega,show ¬rb=mb from hrm,show ¬mb=rb from Ne.symm hrm,↓FR,FW]
 obtain⟨z1,z2,z3,z4,z5,z6,z7,z9,hz⟩:∃a b c d e f g h,z8=[a,b,c,d,e,f,g,h]:=by
  match z8,hz8 with
  | [a,b,c,d,e,f,g,h],_=>exact⟨a,b,c,d,e,f,g,h,rfl⟩
 subst hz;refine hQ _ _ c1 c2 c3 rfl rfl ?_;rw[ae,if_pos rfl];rfl
structure MOk(k:Nat)(M:Mc):Prop where
 rows:M.rows.flatten.length≤2048
 fa:M.fa.length≤4*k
 cr:CrOk M.cr
 crl:M.cr.length≤6000*k
theorem Nh(cr:List (Id×Id×Int))(a b:Id)(n:Int):(sq cr a b n).length≤cr.length+1:=by
 unfold sq;split
 ·rw[cI];omega
 ·simp
theorem Nj(cr:List (Id×Id×Int))(a b:Id):(sr cr a b).length≤cr.length:=by
 unfold sr;split
 ·exact(je _ _).length_le
 ·exact au _
theorem Qy{M M':Mc}{c:Cr}(h:yz M c=.ok M'):M'.cr.length≤M.cr.length+1:=by
 unfold yz at h;split at h
 ·cases h
 split at h
 ·injection h with h;subst h;exact dH (Nj _ _ _) (qt _)
 ·injection h with h;subst h;exact Nh _ _ _ _
theorem Aj:∀{l:List Cr} {M M':Mc},iI l M=.ok M'→M'.cr.length≤M.cr.length+l.length
 | [],M,M',h=>by injection h with h;subst h;simp
 | c::l,M,M',h=>by
   unfold iI at h;split at h
   ·cases h
   ·rename_i M1 h1;have a:=Qy h1;have b:=Aj h;rw[fB];omega
theorem LT{M M':Mc}{d:Int}(hv:Valid M.t)(h:stepM M d=.ok M'):M'.cr.length≤M.cr.length+640:=by
 have hB:=iy hv.len;have hs:=ze (fs:=aO M.t) (bs:=aJ M.t) (by omega) (fun x hx=>hv.four x (fD hx)) (fun x hx=>hv.four x (dM hx)) M.rack d;unfold stepM at h;split at h
 ·cases h
 split at h
 ·cases h
 ·have:=Aj h
  simp only at this;omega
theorem zM:∀(n:Nat) {M M':Mc} {r:Int},Valid M.t→CrOk M.cr→nW n M r=.ok M'→M'.cr.length≤M.cr.length+640*n
 | 0,M,M',r,hv,hc,h=>by injection h with h;subst h;omega
 | n+1,M,M',r,hv,hc,h=>by
   rw[j5 n M] at h;split at h
   ·injection h with h;subst h;omega
   ·split at h
    ·cases h
    ·rename_i M1 h1;obtain⟨_,a2,a3,a4,a5⟩:=qZ hc h1;have b:=LT hv h1;have c:=zM n (by rw[a2];exact hv) (by exact a5) h;simp only at c;omega
theorem uk{α:Type}:∀(l:List (List α)) (i:Nat) (x:α),(l.set i (l.getD i []++[x])).flatten.length≤l.flatten.length+1
 | [],i,x=>by simp
 | a::l,0,x=>by simp[bn];omega
 | a::l,i+1,x=>by
   have:=uk l i x
   simp only[List.set_cons_succ,tX,bn,List.getD_cons_succ] at this⊢;omega
theorem DF{k:Nat}{M M':Mc}{o:Opn}{thr st:List Id}(hm:MOk k M)(h:ui M o thr st=.ok M'):MOk (k+1) M':=by
 unfold ui at h;split at h
 ·cases h
 split at h
 ·cases h
 split at h
 ·cases h
 rename_i hr;split at h
 ·cases h
 ·injection h with h;subst h
  have:=uk M.rows (o.y - 1).toNat ⟨o.b,(M.ys.getD (o.y - 1).toNat pb).new,thr,(M.ys.getD (o.y - 1).toNat pb).pend⟩
  exact⟨by show(M.rows.set _ _).flatten.length≤_;omega,by have:=hm.fa;show M.fa.length≤_;omega,hm.cr,by have:=hm.crl;show M.cr.length≤_;omega⟩
theorem MOk.same{k:Nat}{M M':Mc}(hm:MOk k M)(h1:M'.rows=M.rows)(h2:M'.fa=M.fa)(h3:M'.cr=M.cr):MOk (k+1) M':=
 ⟨by rw[h1];exact hm.rows,by rw[h2];have:=hm.fa;omega,by rw[h3];exact hm.cr,by rw[h3];have:=hm.crl;omega⟩
theorem akE{k:Nat}{M M':Mc}{o:Opn}(hm:MOk k M)(hv:Valid M.t)(h:doM M o=.ok M'):MOk (k+1) M':=by
 unfold doM at h;split at h
 ·cases h
 rename_i he;have he:O6 o=0:=Classical.not_not.1 he;obtain⟨r1,r2,k1,k8,p1,p2,p4,p7⟩:=Fu he;split at h
 ·unfold inM at h;split at h
  ·cases h
  ·injection h with h;subst h;exact hm.same rfl rfl rfl
 split at h
 ·unfold MC at h;split at h
  ·injection h with h;subst h;exact hm.same rfl rfl rfl
  ·cases h
 split at h
 ·unfold Hb at h;obtain⟨a1,a2,a3,a4⟩:=Dz 8 hm.cr h;have a5:=zM 8 hv hm.cr h;exact⟨by rw[a2];exact hm.rows,by rw[a3];have:=hm.fa;omega,a4,by have:=hm.crl;omega⟩
 split at h
 ·unfold DK at h;split at h
  ·cases h
  ·split at h
   ·cases h
   ·rename_i M1 h1;obtain⟨q1,q2,q3,q4,q5⟩:=ji h1;have hm1:MOk k M1:=⟨by rw[q3];exact hm.rows,by rw[q5];exact hm.fa,by rw[q4];exact hm.cr,by rw[q4];exact hm.crl⟩;exact DF hm1 h
 split at h
 ·unfold CS at h;split at h
  ·cases h
  ·split at h
   ·cases h
   ·rename_i M1 h1;obtain⟨q1,q2,q3,q4,q5⟩:=ji h1;have hm1:MOk k M1:=⟨by rw[q3];exact hm.rows,by rw[q5];exact hm.fa,by rw[q4];exact hm.cr,by rw[q4];exact hm.crl⟩;split at h
    ·cases h
    ·exact DF hm1 h
 split at h
 ·unfold DA at h;split at h
  ·cases h
  ·obtain⟨q1,q2,q3,q4,q5⟩:=ji h;exact hm.same q3 q5 q4
 split at h
 ·unfold CM at h;split at h
  ·cases h
  split at h
  ·cases h
  split at h
  ·cases h
  split at h
  ·cases h
  ·injection h with h;subst h;exact hm.same rfl rfl rfl
 ·unfold D8 at h;split at h
  ·cases h
  split at h
  ·cases h
  ·injection h with h;subst h
   have h4:(yJ M o).length≤4:=by
    have:=jR (aO M.t) (aJ M.t) o.b o.a 4 (fun l hl=>hv.four l (fD hl)) (fun l hl=>hv.four l (dM hl))
    rw[jm M.t (p7 (by omega))] at this;exact this
   exact⟨hm.rows,by show(M.fa++yJ M o).length≤_;rw[bn];have:=hm.fa;omega,hm.cr,by have:=hm.crl;show M.cr.length≤_;omega⟩
theorem zO{M:Mc}{o:Opn}{thr st:List Id}{e:Int}(h:ui M o thr st=.error e):¬e=0:=by
 unfold ui at h;split at h
 ·injection h with h;subst h;decide
 split at h
 ·injection h with h;subst h;decide
 split at h
 ·injection h with h;subst h;decide
 split at h
 ·injection h with h;subst h;assumption
 ·cases h
theorem zN:∀(n:Nat) {M:Mc} {r e:Int},nW n M r=.error e→¬e=0
 | 0,M,r,e,h=>by cases h
 | n+1,M,r,e,h=>by
   rw[j5 n M] at h;split at h
   ·cases h
   ·split at h
    ·rename_i h1;injection h with h;subst h;exact sO h1
    ·exact zN n h
theorem Hn{M:Mc}{o:Opn}{e:Int}(h:doM M o=.error e):¬e=0:=by
 unfold doM at h;split at h
 ·injection h with h;subst h;assumption
 split at h
 ·unfold inM at h;split at h
  ·injection h with h;subst h;decide
  ·cases h
 split at h
 ·unfold MC at h;split at h
  ·cases h
  ·injection h with h;subst h;decide
 split at h
 ·exact zN 8 h
 split at h
 ·unfold DK at h;split at h
  ·rename_i h1;injection h with h;subst h;rw[iR h1];decide
  ·split at h
   ·rename_i h1;injection h with h;subst h;exact mh h1
   ·exact zO h
 split at h
 ·unfold CS at h;split at h
  ·rename_i h1;injection h with h;subst h;rw[iR h1];decide
  ·split at h
   ·rename_i h1;injection h with h;subst h;exact mh h1
   ·split at h
    ·injection h with h;subst h;decide
    ·exact zO h
 split at h
 ·unfold DA at h;split at h
  ·rename_i h1;injection h with h;subst h;rw[iR h1];decide
  ·exact mh h
 split at h
 ·unfold CM at h;split at h
  ·injection h with h;subst h;decide
  split at h
  ·injection h with h;subst h;decide
  split at h
  ·injection h with h;subst h;decide
  split at h
  ·injection h with h;subst h;assumption
  ·cases h
 ·unfold D8 at h;split at h
  ·injection h with h;subst h;decide
  split at h
  ·injection h with h;subst h;assumption
  ·cases h
def re(i:Nat)(M:Mc):List Opn→Except (Nat×Int) Mc
 | []=>.ok M
 | o::l=>match doM M o with
   | .error e=>.error (i,e)
   | .ok M'=>re (i+1) M' l
def uJ(l:List Opn):Int:=match re 0 M0 l with
 | .error p=>p.2
 | .ok _=>0
def OG(l:List Opn):Nat:=match re 0 M0 l with
 | .error p=>p.1
 | .ok _=>l.length
theorem amU:MOk 0 M0:=⟨by decide,by decide,(fun e he=>by cases he),by decide⟩
def uS(k:Int):Int:=if k=4∨k=5∨k=6 then 1 else if k=7 then 2 else if k=8 then 3 else 0
theorem jh(o:Opn){H:Heap}{lo:Nat}{Q:Out→Heap→Prop}(hlo:lo≤H.n)(h:∀H',Keep H.n H H'→Q (.val (.int .i64 (uS o.k))) H'):W E0 lo (.call 87 [.agg [.int .u8 o.k,.int .u8 o.d,.int .u8 o.b,.int .i64 o.a,.int .u8 o.y,.int .i64 o.r]]) H Q:=by
 refine gw _ hlo h fun R hR=>?_;clear h;rw[c87];unfold uS at hR;by_cases h4:o.k=4∨o.k=5∨o.k=6
 ·rw[if_pos h4] at hR;rcases h4 with h4 | h4 | h4<;>simp(disch:=omega) only[ak,↓aj,seval,B87,h4,↓FR,FW]<;>exact hR _
 rw[if_neg h4] at hR;by_cases h7:o.k=7
 ·rw[if_pos h7] at hR;simp(disch:=omega) only[ak,↓aj,seval,B87,h7,↓FR,FW];exact hR _
 rw[if_neg h7] at hR;by_cases h8:o.k=8
 ·rw[if_pos h8] at hR;simp(disch:=omega) only[ak,↓aj,seval,B87,h8,↓FR,FW];exact hR _
 rw[if_neg h8] at hR;simp(disch:=omega) only[ak,↓aj,seval,B87,↓FR,FW];exact hR _
theorem FN(p o:Opn)(r:Int){H:Heap}{lo:Nat}{Q:Out→Heap→Prop}(hlo:lo≤H.n)(h:∀H' b,Keep H.n H H'→Q (.val (.bool b)) H'):W E0 lo (.call 139 [.agg [.int .u8 p.k,.int .u8 p.d,.int .u8 p.b,.int .i64 p.a,.int .u8 p.y,.int .i64 p.r],.agg [.int .u8 o.k,.int .u8 o.d,.int .u8 o.b,.int .i64 o.a,.int .u8 o.y,.int .i64 o.r],.int .i64 r]) H Q:=by
 refine W.pure bJ hlo ?_;rw[arI];simp(disch:=omega) only[ak,↓aj,seval,GL,ar,↓FR,FW];generalize hH_H1:Heap.new _ _=H1;have hnH1:H1.n=H.n+2:=by rw[←hH_H1];rfl
 have g0:=congrArg (fun h0=>Heap.get h0 (H.n)) hH_H1.symm;simp(disch:=omega) only[ak,↓aj,seval] at g0;have g1:=congrArg (fun h0=>Heap.get h0 (H.n+1)) hH_H1.symm;simp(disch:=omega) only[ak,↓aj,seval] at g1
 have kH1:Keep H.n H H1:=⟨by omega,fun x hx _=>by
  have gx:=congrArg (fun h0=>Heap.get h0 x) hH_H1.symm;simp(disch:=omega) only[ak,↓aj,seval] at gx;exact gx⟩
 clear hH_H1;refine jh o (by omega) fun H2 k2=>?_;have hn2:=k2.1;replace g0:=(k2.2 _ (by omega) (by omega)).trans g0;replace g1:=(k2.2 _ (by omega) (by omega)).trans g1;have r0:=ah g0;simp(disch:=omega) only[ak,↓aj,seval,GL,r0,ar,↓FR,FW];refine jh p (by omega) fun H3 k3=>?_;have hn3:=k3.1;replace g0:=(k3.2 _ (by omega) (by omega)).trans g0;replace g1:=(k3.2 _ (by omega) (by omega)).trans g1;have r03:=ah g0;have r13:=ah g1;clear r0;by_cases hc:uS p.k=uS o.k
 ·by_cases h1:uS o.k=1
  ·simp(disch:=omega) only[ak,↓aj,seval,GL,hc,h1,r03,r13,ar,↓FR,FW]
   refine iX p.b p.a r (by omega) fun H4 k4=>?_;have hn4:=k4.1;replace g0:=(k4.2 _ (by omega) (by omega)).trans g0;replace g1:=(k4.2 _ (by omega) (by omega)).trans g1;have r14:=ah g1;generalize aF p.b p.a r=s1;simp(disch:=omega) only[ak,↓aj,seval,GL,r14,ar,↓FR,FW];refine iX o.b o.a r (by omega) fun H5 k5=>?_;have hn5:=k5.1;replace g0:=(k5.2 _ (by omega) (by omega)).trans g0;replace g1:=(k5.2 _ (by omega) (by omega)).trans g1;have r05:=ah g0;have r15:=ah g1;generalize aF o.b o.a r=s2;clear h1 hc r03 r13 r14;by_cases e1:o.d=1<;>by_cases e2:p.d=o.d<;>by_cases e3:s1 < s2<;>by_cases e4:s1>s2<;>simp(disch:=omega) only[ak,↓aj,seval,GL,r05,r15,ar,↓FR,FW]<;>first | exact fun k=>h _ _ k | (exfalso;omega)
  ·by_cases h2:uS o.k=2<;>by_cases e2:p.b=o.b<;>simp(disch:=omega) only[ak,↓aj,seval,GL,hc,h2,r03,r13,ar,↓FR,FW]<;>first | exact fun k=>h _ _ k | (exfalso;omega)
 ·simp(disch:=omega) only[ak,↓aj,seval,GL,hc,↓FR,FW]
  exact fun k=>h _ _ k
def oz(tm:List IV)(h:tm.length=67):=(cS tm 67 h).trans (by simp only[List.range,List.range.loop,bI,bj];exact rfl)
structure Vis(L x:Nat)(v:SV)(l:List Opn)(n0 lo:Nat)(J:Heap→Prop):Prop where
 hx:∀H',J H'→H'.get x=some (.cells false 22 1 [v.iv])∧Sl H' v l∧x < H'.n∧n0≤H'.n
 keep:∀H' H'',J H'→Keep H'.n H' H''→J H''
 step:∀(a n:Nat) (H':Heap),J H'→a+n≤l.length→∀K:Out→Heap→Prop,(∀H'',J H''→H'.n≤H''.n→(∀y,n0≤y→y < H'.n→(∃cs,H'.get y=some (.cells false 56 6 cs))→H''.get y=H'.get y)→K (.val (.bool true)) H'')→W E0 lo (.apply (.yield L) [.agg [.int .i64 a,.int .i64 n]]) H' K
theorem lY{L x y:Nat}{v:SV}{l:List Opn}{n0 lo:Nat}{J:Heap→Prop}(hV:Vis L x v l n0 lo J)(hlo:lo≤n0){at_ i:Nat}{rk la:Int}{a:Bool}{H':Heap}(hJ:J H')(hat:at_≤i)(hi:i < l.length)(hll:l.length≤100000)(hla:la < i∧ -1≤la)(hy:n0≤y∧y < H'.n)
  (gy:H'.get y=some (.cells false 56 6 (Cell.cs l[i]))) {tm:List IV} {Q:Out→Heap→Prop} (htm:tm.length=67) (t0:tm.getD 0 IV.undef=.yield L) (t1:tm.getD 1 IV.undef=.ptr x 0) (t3:tm.getD 3 IV.undef=.int .i64 at_) (t4:tm.getD 4 IV.undef=.int .i64 rk) (t5:tm.getD 5 IV.undef=.int .i64 la) (t6:tm.getD 6 IV.undef=.int .i64 i) (t7:tm.getD 7 IV.undef=.ptr y 0) (t8:tm.getD 8 IV.undef=.bool a) (t9:tm.getD 9 IV.undef=v.iv) (t10:tm.getD 10 IV.undef=.int .i64 l.length) (t11:tm.getD 11 IV.undef=.int .i64 i)
  (hQ:∀H'' tm' (at':Nat) (la':Int),J H''→at'≤i→la' < (i:Int)+1→ -1≤la'→tm'.length=67→tm'.getD 0 IV.undef=.yield L→tm'.getD 1 IV.undef=.ptr x 0→tm'.getD 3 IV.undef=.int .i64 at'→tm'.getD 4 IV.undef=.int .i64 rk→tm'.getD 5 IV.undef=.int .i64 la'→tm'.getD 9 IV.undef=v.iv→tm'.getD 10 IV.undef=.int .i64 l.length→tm'.getD 11 IV.undef=.int .i64 i→Q (.ex .normal ⟨tm',[]⟩) H''):
  W E0 lo (.code Cw none ⟨tm,[]⟩) H' (jo E0 lo none (.cond (.tmp 40) (.seq (.seq Cv (.cond (.tmp 48) .ret .skip)) Cu) .skip) (jo E0 lo none (.seq Ct (.cond (.tmp 52) Cs .skip)) Q)):=by
 obtain⟨gx,hv,hxl,hn0⟩:=hV.hx _ hJ;have r0:=ah gy;rw[gl] at r0;rw[oz tm htm,t0,t1,t3,t4,t5,t6,t7,t8,t9,t10,t11]
 cases a with
 | false=>
   simp(disch:=omega) only[ak,↓aj,seval,ES,r0,ar,↓FR,FW]
   refine jh l[i] (by omega) fun H2 k2=>?_;have hJ2:=hV.keep _ _ hJ k2;by_cases hc:uS l[i].k=0
   ·simp(disch:=omega) only[ak,↓aj,seval,ES,hc,↓FR,FW]
    exact hQ _ _ at_ la hJ2 hat (by omega) (by omega) rfl rfl rfl rfl rfl rfl rfl rfl rfl
   ·simp(disch:=omega) only[ak,↓aj,seval,ES,hc,↓FR,FW]
    exact hQ _ _ at_ i hJ2 hat (by omega) (by omega) rfl rfl rfl rfl rfl rfl rfl rfl rfl
 | true=>
   have e:((i:Int) - (at_:Int))=((i - at_:Nat):Int):=by omega
   simp(disch:=omega) only[ak,↓aj,seval,ES,e,↓FR,FW]
   rw[←sC];refine hV.step at_ (i - at_) H' hJ (by omega) _ fun H3 hJ3 hn3 hk3=>?_;have gy3:=(hk3 y hy.1 hy.2 ⟨_,gy⟩).trans gy;have r3:=ah gy3;rw[gl] at r3;obtain⟨_,_,_,hn03⟩:=hV.hx _ hJ3;simp(disch:=omega) only[ak,↓aj,seval,ES,r3,ar,↓FR,FW];refine jh l[i] (by omega) fun H2 k2=>?_;have hJ2:=hV.keep _ _ hJ3 k2;by_cases hc:uS l[i].k=0
   ·simp(disch:=omega) only[ak,↓aj,seval,ES,hc,↓FR,FW]
    exact hQ _ _ i (-1) hJ2 (au _) (by omega) (by omega) rfl rfl rfl rfl rfl rfl rfl rfl rfl
   ·simp(disch:=omega) only[ak,↓aj,seval,ES,hc,↓FR,FW]
    exact hQ _ _ i i hJ2 (au _) (by omega) (by omega) rfl rfl rfl rfl rfl rfl rfl rfl rfl
theorem aeK{L x:Nat}{v:SV}{l:List Opn}{n0 lo:Nat}{J:Heap→Prop}(hV:Vis L x v l n0 lo J)(hlo:lo≤n0)(hll:l.length≤100000){H:Heap}(hJ0:J H){R:Out→Heap→Prop}(hR:∀H',J H'→R (.val (.tuple [])) H'):
  W E0 lo (.call 138 [.yield L,.ptr x 0]) H R:=by
 obtain⟨gx,hv,hxl,hn0⟩:=hV.hx _ hJ0;have rx:=ah gx;rw[arJ];simp(disch:=omega) only[ak,↓aj,seval,ES,rx,↓hv.ln,ar,↓FR,FW]
 refine aP (fun k fr H'=>∃(i at_:Nat) (rk la:Int),i+k=l.length∧at_≤i∧la < i∧ -1≤la∧J H'∧fr.marks=[]∧fr.tm.length=67∧fr.tm.getD 0 IV.undef=.yield L∧fr.tm.getD 1 IV.undef=.ptr x 0∧fr.tm.getD 3 IV.undef=.int .i64 at_∧fr.tm.getD 4 IV.undef=.int .i64 rk∧fr.tm.getD 5 IV.undef=.int .i64 la∧fr.tm.getD 9 IV.undef=v.iv∧fr.tm.getD 10 IV.undef=.int .i64 l.length∧fr.tm.getD 11 IV.undef=.int .i64 i) ?_ l.length
  ⟨0,0,0, -1,by omega,by omega,by omega,by omega,hJ0,rfl,rfl,rfl,rfl,rfl,rfl,rfl,rfl,rfl,rfl⟩
 clear gx hv hxl hn0 rx;rintro k ⟨tm,mk⟩ H' ⟨i,at_,rk,la,hik,hat,hla1,hla2,hJ,rfl,htm,t0,t1,t3,t4,t5,t9,t10,t11⟩ L1 hN hJj;obtain⟨gx,hv,hxl,hn0⟩:=hV.hx _ hJ;have hla:la < i∧ -1≤la:=⟨hla1,hla2⟩;rw[oz tm htm,t0,t1,t3,t4,t5,t9,t10,t11];by_cases hi:i < l.length
 ·have r1:=hv.read tK i hi;have kN:Keep H'.n H' ((H'.new (.cells false 56 6 [.int .u8 0,.int .u8 0,.int .u8 0,.int .i64 0,.int .u8 0,.int .i64 0])).put H'.n (.cells false 56 6 (Cell.cs l[i]))):=Keep.newPut;have hJn:=hV.keep _ _ hJ kN;have gN:((H'.new (.cells false 56 6 [.int .u8 0,.int .u8 0,.int .u8 0,.int .i64 0,.int .u8 0,.int .i64 0])).put H'.n (.cells false 56 6 (Cell.cs l[i]))).get H'.n=some (.cells false 56 6 (Cell.cs l[i])):=by rw[ae,if_pos rfl]
  by_cases hk3:l[i].k=3
  ·by_cases hl0:la≥0
   ·simp(disch:=omega) only[ak,↓aj,seval,cj,ci,ch,cg,ce,cc,ca,b9,bZ,bY,bF,bE,bD,bC,bB,bA,cC,bz,bx,gE,lx,↓hv.idx,r1,gl,ar,↓FR,FW]
    refine lY hV hlo hJn hat hi hll hla ⟨by omega,by first | omega | (rw[af,ac];omega)⟩ gN rfl rfl rfl rfl rfl rfl rfl rfl rfl rfl rfl rfl fun H6 tm6 at6 la6 hJ6 h1 h2 h3 htm6 u0 u1 u3 u4 u5 u9 u10 u11=>?_;rw[oz tm6 htm6,u0,u1,u3,u4,u5,u9,u10,u11];simp(disch:=omega) only[ak,↓aj,seval,cj,ci,ch,cg,ce,cc,ca,b9,bZ,bY,bF,bE,bD,bC,bB,bA,cC,bz,bx,gE,lx];exact hN (k - 1) _ _ (by omega) ⟨i+1,at6,l[i].r,la6,by omega,by omega,by omega,by omega,hJ6,rfl,rfl,rfl,rfl,rfl,rfl,rfl,rfl,rfl,rfl⟩
   ·simp(disch:=omega) only[ak,↓aj,seval,cj,ci,ch,cg,ce,cc,ca,b9,bZ,bY,bF,bE,bD,bC,bB,bA,cC,bz,bx,gE,lx,↓hv.idx,r1,gl,ar,↓FR,FW]
    refine lY hV hlo hJn hat hi hll hla ⟨by omega,by first | omega | (rw[af,ac];omega)⟩ gN rfl rfl rfl rfl rfl rfl rfl rfl rfl rfl rfl rfl fun H6 tm6 at6 la6 hJ6 h1 h2 h3 htm6 u0 u1 u3 u4 u5 u9 u10 u11=>?_;rw[oz tm6 htm6,u0,u1,u3,u4,u5,u9,u10,u11];simp(disch:=omega) only[ak,↓aj,seval,cj,ci,ch,cg,ce,cc,ca,b9,bZ,bY,bF,bE,bD,bC,bB,bA,cC,bz,bx,gE,lx];exact hN (k - 1) _ _ (by omega) ⟨i+1,at6,l[i].r,la6,by omega,by omega,by omega,by omega,hJ6,rfl,rfl,rfl,rfl,rfl,rfl,rfl,rfl,rfl,rfl⟩
  ·simp(disch:=omega) only[ak,↓aj,seval,cj,ci,ch,cg,ce,cc,ca,b9,bZ,bY,bF,bE,bD,bC,bB,bA,cC,bz,bx,gE,lx,↓hv.idx,r1,gl,ar,↓FR,FW]
   refine jh l[i] (by rw[af,ac];omega) fun H2 k2=>?_;have hn2:=k2.1;rw[af,ac] at hn2;have hJ2:=hV.keep _ _ hJn k2;have g2:=(k2.2 H'.n (by rw[af,ac];omega) (by rw[af,ac];omega)).trans gN;obtain⟨gx2,hv2,_,_⟩:=hV.hx _ hJ2;by_cases hc:uS l[i].k=0
   ·simp(disch:=omega) only[ak,↓aj,seval,cj,ci,ch,cg,ce,cc,ca,b9,bZ,bY,bF,bE,bD,bC,bB,bA,cC,bz,bx,gE,lx,hc,↓FR,FW]
    refine lY hV hlo hJ2 hat hi hll hla ⟨by omega,by first | omega | (rw[af,ac];omega)⟩ g2 rfl rfl rfl rfl rfl rfl rfl rfl rfl rfl rfl rfl fun H6 tm6 at6 la6 hJ6 h1 h2 h3 htm6 u0 u1 u3 u4 u5 u9 u10 u11=>?_;rw[oz tm6 htm6,u0,u1,u3,u4,u5,u9,u10,u11];simp(disch:=omega) only[ak,↓aj,seval,cj,ci,ch,cg,ce,cc,ca,b9,bZ,bY,bF,bE,bD,bC,bB,bA,cC,bz,bx,gE,lx];exact hN (k - 1) _ _ (by omega) ⟨i+1,at6,rk,la6,by omega,by omega,by omega,by omega,hJ6,rfl,rfl,rfl,rfl,rfl,rfl,rfl,rfl,rfl,rfl⟩
   ·by_cases hl0:la≥0
    ·obtain⟨j,rfl⟩:∃j:Nat,la=j:=⟨la.toNat,by omega⟩
     have hj:j < l.length:=by omega
     have rj:=hv2.read tK j hj;have rx2:=ah gx2;have r2:=ah g2;rw[gl] at r2;simp(disch:=omega) only[ak,↓aj,seval,cj,ci,ch,cg,ce,cc,ca,b9,bZ,bY,bF,bE,bD,bC,bB,bA,cC,bz,bx,gE,lx,hc,↓hv2.idx,rj,rx2,r2,gl,ar,↓FR,FW];refine FN l[j] l[i] rk (by omega) fun H3 b k3=>?_;have hn3:=k3.1;have hJ3:=hV.keep _ _ hJ2 k3;have g3:=(k3.2 H'.n (by omega) (by omega)).trans g2;cases b
     ·simp(disch:=omega) only[ak,↓aj,seval,cj,ci,ch,cg,ce,cc,ca,b9,bZ,bY,bF,bE,bD,bC,bB,bA,cC,bz,bx,gE,lx,↓FR,FW]
      refine lY hV hlo hJ3 hat hi hll hla ⟨by omega,by first | omega | (rw[af,ac];omega)⟩ g3 rfl rfl rfl rfl rfl rfl rfl rfl rfl rfl rfl rfl fun H6 tm6 at6 la6 hJ6 h1 h2 h3 htm6 u0 u1 u3 u4 u5 u9 u10 u11=>?_;rw[oz tm6 htm6,u0,u1,u3,u4,u5,u9,u10,u11];simp(disch:=omega) only[ak,↓aj,seval,cj,ci,ch,cg,ce,cc,ca,b9,bZ,bY,bF,bE,bD,bC,bB,bA,cC,bz,bx,gE,lx];exact hN (k - 1) _ _ (by omega) ⟨i+1,at6,rk,la6,by omega,by omega,by omega,by omega,hJ6,rfl,rfl,rfl,rfl,rfl,rfl,rfl,rfl,rfl,rfl⟩
     ·simp(disch:=omega) only[ak,↓aj,seval,cj,ci,ch,cg,ce,cc,ca,b9,bZ,bY,bF,bE,bD,bC,bB,bA,cC,bz,bx,gE,lx,↓FR,FW]
      refine lY hV hlo hJ3 hat hi hll hla ⟨by omega,by first | omega | (rw[af,ac];omega)⟩ g3 rfl rfl rfl rfl rfl rfl rfl rfl rfl rfl rfl rfl fun H6 tm6 at6 la6 hJ6 h1 h2 h3 htm6 u0 u1 u3 u4 u5 u9 u10 u11=>?_;rw[oz tm6 htm6,u0,u1,u3,u4,u5,u9,u10,u11];simp(disch:=omega) only[ak,↓aj,seval,cj,ci,ch,cg,ce,cc,ca,b9,bZ,bY,bF,bE,bD,bC,bB,bA,cC,bz,bx,gE,lx];exact hN (k - 1) _ _ (by omega) ⟨i+1,at6,rk,la6,by omega,by omega,by omega,by omega,hJ6,rfl,rfl,rfl,rfl,rfl,rfl,rfl,rfl,rfl,rfl⟩
    ·simp(disch:=omega) only[ak,↓aj,seval,cj,ci,ch,cg,ce,cc,ca,b9,bZ,bY,bF,bE,bD,bC,bB,bA,cC,bz,bx,gE,lx,hc,↓FR,FW]
     refine lY hV hlo hJ2 hat hi hll hla ⟨by omega,by first | omega | (rw[af,ac];omega)⟩ g2 rfl rfl rfl rfl rfl rfl rfl rfl rfl rfl rfl rfl fun H6 tm6 at6 la6 hJ6 h1 h2 h3 htm6 u0 u1 u3 u4 u5 u9 u10 u11=>?_;rw[oz tm6 htm6,u0,u1,u3,u4,u5,u9,u10,u11];simp(disch:=omega) only[ak,↓aj,seval,cj,ci,ch,cg,ce,cc,ca,b9,bZ,bY,bF,bE,bD,bC,bB,bA,cC,bz,bx,gE,lx];exact hN (k - 1) _ _ (by omega) ⟨i+1,at6,rk,la6,by omega,by omega,by omega,by omega,hJ6,rfl,rfl,rfl,rfl,rfl,rfl,rfl,rfl,rfl,rfl⟩
 ·have rx:=ah gx;by_cases hal:at_ < l.length
  ·have e:((l.length:Int) - (at_:Int))=((l.length - at_:Nat):Int):=by omega
   simp(disch:=omega) only[ak,↓aj,seval,cj,ci,ch,cg,ce,cc,ca,b9,bZ,bY,bF,bE,bD,bC,bB,bA,cC,bz,bx,gE,lx,hJj,rx,↓hv.ln,e,ar,↓FR,FW]
   rw[←sC];refine hV.step at_ (l.length - at_) H' hJ (by omega) _ fun H3 hJ3 hn3 hk3=>?_;simp(disch:=omega) only[ak,↓aj,seval,cj,ci,ch,cg,ce,cc,ca,b9,bZ,bY,bF,bE,bD,bC,bB,bA,bz,bx,gE,lx];exact hR _ hJ3
  ·simp(disch:=omega) only[ak,↓aj,seval,cj,ci,ch,cg,ce,cc,ca,b9,bZ,bY,bF,bE,bD,bC,bB,bA,cC,bz,bx,gE,lx,hJj,rx,↓hv.ln,ar,↓FR,FW]
   exact hR _ hJ
theorem zB{v:SV}{l:List Opn}{H:Heap}{lo:Nat}{Q:Out→Heap→Prop}(hv:Sl H v l)(hl:l.length≤100000)(hlo:lo≤H.n)(h:∀H' b,Keep H.n H H'→Q (.val (.bool b)) H'):W E0 lo (.call 85 [v.iv]) H Q:=by
 refine W.pure bJ hlo ?_;rw[c85];by_cases h4:((l.length:Nat):Int)>4096
 ·simp(disch:=omega) only[ak,↓aj,seval,B85,↓hv.ln,↓FR,FW]
  exact fun k=>h _ _ k
 simp(disch:=omega) only[ak,↓aj,seval,B85,↓hv.ln,↓FR,FW]
 refine aP (fun k fr H'=>∃i,i+k=l.length∧Keep H.n H H'∧fr.marks=[]∧fr.tm.length=18∧fr.tm.getD 8 IV.undef=v.iv∧fr.tm.getD 9 IV.undef=.int .i64 l.length∧fr.tm.getD 10 IV.undef=.int .i64 i) ?_ l.length ⟨0,by omega,Keep.refl _ _,rfl,rfl,rfl,rfl,rfl⟩;rintro k ⟨tm,mk⟩ H' ⟨i,hik,hk,rfl,htm,t8,t9,t10⟩ L hN hJ;have hv':=hv.keep hk;have hn':=hk.1;rw[PY tm htm,t8,t9,t10];by_cases hi:i < l.length
 ·have r1:=hv'.read tK i hi;simp(disch:=omega) only[ak,↓aj,seval,aeq,↓hv'.idx,r1,gl,ar,↓FR,FW];refine xv l[i] (by rw[af,ac];omega) fun H2 k2=>?_;have kk:Keep H.n H H2:=hk.trans ((Keep.newPut.lower (by omega)).trans (k2.lower (by rw[af,ac];omega)));by_cases he:O6 l[i]=0
  ·simp(disch:=omega) only[ak,↓aj,seval,aeq,he,↓FR,FW]
   exact hN (k - 1) _ _ (by omega) ⟨i+1,by omega,kk,rfl,rfl,rfl,rfl,rfl⟩
  ·simp(disch:=omega) only[ak,↓aj,seval,aeq,he,hJ,↓FR,FW]
   exact fun k=>h _ _ k
 ·simp(disch:=omega) only[ak,↓aj,seval,aeq,hJ]
  exact fun k=>h _ _ k
def zj(z:Nat)(H:Heap)(v:SV):Prop:=
 match v with
 | .nil=>True
 | .sl b _ _ _ ex=>ex=true∨DX H b z=true
def psl(v:SV)(a n:Nat):SV:=
 match v with
 | .nil=>.nil
 | .sl b o _ c ex=>.sl b (o+a*6) n (c - a) ex
theorem O0{H:Heap}{v:SV}{l:List Opn}(h:Sl H v l){a n:Nat}(hj:a+n≤l.length):Sl H (psl v a n) ((l.drop a).take n):=by
 cases v with
 | nil=>have h:l=[]:=h;subst h;simp[psl,Sl]
 | sl b o m c ex=>
   have hn:=h.1
   have:=h.2.1
   exact h.part tK (a:=a) (m:=n) (c':=c - a) (ex':=ex) (by omega) (by omega)
theorem G7{H:Heap}{v:SV}{l:List Opn}(h:Sl H v l)(hs:∀H',zj 6 H' v){a n:Nat}(hj:a+n≤l.length)(lo:Nat)(H':Heap):ev1 (.slc 6 true true false) [v.iv,.int .i64 (a:Int),.int .i64 ((a:Int)+(n:Int))] lo H'=some ((psl v a n).iv,H'):=by
 cases v with
 | nil=>
   have h:l=[]:=h;subst h;simp at hj;obtain⟨rfl,rfl⟩:=hj;rfl
 | sl b o m c ex=>
   have hn:=h.1;have h2:=h.2.1;have e:(ex||DX H' b 6)=true:=by rcases hs H' with e | e<;>simp[e]
   simp only[ev1,psl,SV.iv,e,if_true,bm,bU];rw[if_pos (by omega)];simp only[bk];rw[if_pos (by omega)];simp only[dI,fj];congr 3<;>omega
def CJ(n0 L nb:Nat)(lp:IObj)(Hs:Heap)(H':Heap):Prop:=(∃n:Int,H'.get nb=some (.cells false 3 1 [.int .i64 n]))∧H'.get L=some lp∧n0≤H'.n∧∀y,y < n0→y≠nb→y≠L→H'.get y=Hs.get y
def akw(tm:List IV)(h:tm.length=34):=(cS tm 34 h).trans (by simp only[List.range,List.range.loop,bI,bj];exact rfl)
theorem Mp{v:SV}{l:List Opn}{H:Heap}{lo:Nat}{Q:Out→Heap→Prop}(hv:Sl H v l)(hl:l.length≤100000)(hs:∀H',zj 6 H' v)(hlo:lo≤H.n)(h:∀H' (n:Int),Keep H.n H H'→Q (.val (.int .i64 n)) H'):W E0 lo (.call 33 [v.iv]) H Q:=by
 refine W.pure bJ hlo ?_;rw[c33];simp(disch:=omega) only[ak,↓aj,seval,B33,ar,↓FR,FW];generalize hH_H1:Heap.new _ _=H1;have hnH1:H1.n=H.n+1:=by rw[←hH_H1];rfl
 have g0:=congrArg (fun h0=>Heap.get h0 (H.n)) hH_H1.symm;simp(disch:=omega) only[ak,↓aj,seval] at g0
 have kH1:Keep H.n H H1:=⟨by omega,fun x hx _=>by
  have gx:=congrArg (fun h0=>Heap.get h0 x) hH_H1.symm;simp(disch:=omega) only[ak,↓aj,seval] at gx;exact gx⟩
 clear hH_H1;refine zB (hv.keep kH1) hl (by omega) fun H2 b k2=>?_;have hn2:=k2.1;replace g0:=(k2.2 _ (by omega) (by omega)).trans g0;have r0:=ah g0;have kk:Keep H.n H H2:=kH1.trans (k2.lower (by omega))
 cases b with
 | false=>
   simp(disch:=omega) only[ak,↓aj,seval,B33,↓FR,FW]
   exact fun k=>h _ _ k
 | true=>
   simp(disch:=omega) only[ak,↓aj,seval,B33,B86,c86,r0,ar,↓FR,FW]
   generalize hH_Hs:Heap.new _ _=Hs;have hnHs:Hs.n=H2.n+4:=by rw[←hH_Hs];rfl
   have gn:=congrArg (fun h0=>Heap.get h0 (H2.n)) hH_Hs.symm;simp(disch:=omega) only[ak,↓aj,seval] at gn;have gx:=congrArg (fun h0=>Heap.get h0 (H2.n+1)) hH_Hs.symm;simp(disch:=omega) only[ak,↓aj,seval] at gx;have gd:=congrArg (fun h0=>Heap.get h0 (H2.n+2)) hH_Hs.symm;simp(disch:=omega) only[ak,↓aj,seval] at gd;have gL:=congrArg (fun h0=>Heap.get h0 (H2.n+3)) hH_Hs.symm;simp(disch:=omega) only[ak,↓aj,seval] at gL
   have kHs:Keep H2.n H2 Hs:=⟨by omega,fun x hx _=>by
    have gx:=congrArg (fun h0=>Heap.get h0 x) hH_Hs.symm;simp(disch:=omega) only[ak,↓aj,seval] at gx;exact gx⟩
   clear hH_Hs;have kks:Keep H.n H Hs:=kk.trans (kHs.lower (by omega));have g0s:=(kHs.2 H.n (by omega) (by omega)).trans g0;have hvs:=hv.keep kks;have hblk:l≠[]→v.blk < H2.n:=fun hne=>by have:=hv.blk_lt hne;omega
   have hsc:=fun(a n:Nat) (hj:a+n≤l.length)=>G7 hv hs hj;obtain⟨nb,hnb⟩:∃nb,nb=H2.n:=⟨_,rfl⟩;obtain⟨L,hL⟩:∃L,L=H2.n+3:=⟨_,rfl⟩;rw[←hnb] at gn;rw[←hL] at gL⊢;generalize hlp:IObj.loop _ _ _ _ _ _ _=lp at gL;clear r0 k2;refine aeK (v:=v) (l:=l) (n0:=Hs.n) (J:=CJ Hs.n L nb _ Hs) ?_ (by omega) hl ⟨⟨_,gn⟩,gL,au _,fun y _ _ _=>rfl⟩ fun H' hJ=>?_
   ·refine⟨fun H' hJ=>?_,fun H' H'' hJ k=>?_,fun a n H' hJ hj K hK=>?_⟩
    ·obtain⟨_,_,h3,h4⟩:=hJ;exact⟨(h4 _ (by omega) (by omega) (by omega)).trans gx,hvs.same h3 fun hne=>h4 _ (by have:=hblk hne;omega) (by have:=hblk hne;omega) (by have:=hblk hne;omega),by omega,h3⟩
    ·obtain⟨⟨m,h1⟩,h2,h3,h4⟩:=hJ;exact⟨⟨m,(k.2 _ (by omega) (by omega)).trans h1⟩,(k.2 _ (by omega) (by omega)).trans h2,by have:=k.1;omega,fun y a b c=>(k.2 y (by omega) (by omega)).trans (h4 y a b c)⟩
    ·obtain⟨⟨m,h1⟩,h2,h3,h4⟩:=hJ;have g0':=(h4 H.n (by omega) (by omega) (by omega)).trans g0s;have r0':=ah g0';have hsc':=hsc a n hj;have hvp:=O0 hvs hj;have hpl:((l.drop a).take n).length=n:=by rw[gu,lN];omega
     have hln:=hvp.ln;rw[hpl] at hln;have h2':=h2;rw[←hlp] at h2;simp(disch:=omega) only[ak,↓aj,seval,B33,h2,g0',r0',↓hsc',↓hln,ar,show ¬H'.n=L by omega,show ¬L=H'.n by omega,show ¬H'.n=H.n by omega,show ¬L=H.n by omega,↓FR,FW];generalize hGB:Heap.put _ L _=HB;have nB:HB.n=H'.n+1:=by rw[←hGB];rfl
     have kB:∀y,y < H'.n→y≠L→HB.get y=H'.get y:=fun y h1 h2=>by
      rw[←hGB,ae,if_neg (Ne.symm h2),ae,if_neg (by omega),al,if_neg (by omega)]
     have gB:=congrArg (fun h0=>Heap.get h0 (L)) hGB.symm;simp(disch:=omega) only[ak,↓aj,seval] at gB;have gnB:=(kB nb (by omega) (by omega)).trans h1
     have fin:∀(HX:Heap) (m':Int),HX.get nb=some (.cells false 3 1 [.int .i64 m'])→KeepO [nb] HB HX→K (.val (.bool true)) (HX.put L lp):=fun HX m' q1 q2=>by
      have hnX:=q2.1;refine hK _ ⟨⟨m',by rw[ae,if_neg (by omega)];exact q1⟩,by rw[ae,if_pos rfl],by rw[af];omega,fun y a1 a2 a3=>?_⟩ (by rw[af];omega) fun y a1 a2 _=>?_
      ·rw[ae,if_neg (Ne.symm a3),q2.2 y (by omega) (by simpa using a2),kB y (by omega) a3];exact h4 y a1 a2 a3
      ·rw[ae,if_neg (by omega),q2.2 y (by omega) (by simp;omega),kB y a2 (by omega)]
     clear hGB h2;refine aP (fun k fr HX=>∃(i:Nat) (m':Int),i+k=n∧HX.get nb=some (.cells false 3 1 [.int .i64 m'])∧KeepO [nb] HB HX∧fr.marks=[]∧fr.tm.length=34∧fr.tm.getD 3 IV.undef=.ptr nb 0∧fr.tm.getD 21 IV.undef=(psl v a n).iv∧fr.tm.getD 22 IV.undef=.int .i64 n∧fr.tm.getD 23 IV.undef=.int .i64 i) ?_ n ⟨0,m,by omega,gnB,KeepO.refl _ _,rfl,rfl,by rw[hnb];rfl,rfl,rfl,rfl⟩;rintro k ⟨tm,mk⟩ HX ⟨i,m',hik,hmX,hkX,rfl,htm,t3,t21,t22,t23⟩ L1 hN hJj;have hnX:=hkX.1
     have hvX:Sl HX (psl v a n) ((l.drop a).take n):=hvp.same (by omega) fun hne=>by
      have hl0:l≠[]:=by rintro rfl;simp at hne
      have hb:=hblk hl0;have hpb:(psl v a n).blk=v.blk:=by cases v<;>rfl
      rw[hpb,hkX.2 _ (by omega) (by simp;omega),kB _ (by omega) (by omega)];exact h4 _ (by omega) (by omega) (by omega)
     have gLX:=(hkX.2 L (by omega) (by simp;omega)).trans gB;rw[akw tm htm,t3,t21,t22,t23];have hidx:=hvX.idx;rw[hpl] at hidx;by_cases hi:i < n
     ·have r1:=hvX.read tK i (by omega);generalize hoo:((l.drop a).take n)[i]=oo at r1;rw[gl] at r1;simp(disch:=omega) only[ak,↓aj,seval,aes,↓hvX.idx,r1,gl,ar,↓FR,FW];refine jh oo (by rw[af,ac];omega) fun H5 k5=>?_;have hn5:=k5.1;rw[af,ac] at hn5;have k15:Keep HX.n HX H5:=Keep.newPut.trans (k5.lower (by rw[af,ac];omega));have gm5:=(k15.2 nb (by omega) (by omega)).trans hmX;have gL5:=(k15.2 L (by omega) (by omega)).trans gLX;have rm5:=ah gm5;by_cases hc:uS oo.k=0
      ·simp(disch:=omega) only[ak,↓aj,seval,aes,hc,↓FR,FW]
       exact hN (k - 1) _ _ (by omega) ⟨i+1,m',by omega,gm5,hkX.trans (KeepO.of (ow:=[nb]) k15) fun x hx=>.inl hx,rfl,rfl,rfl,rfl,rfl,rfl⟩
      ·simp(disch:=omega) only[ak,↓aj,seval,aes,hc,hJj,rm5,gm5,gL5,ar,show ¬nb=L by omega,show ¬L=nb by omega,↓FR,FW]
       have f:=fin _ _ (by rw[ae,if_pos rfl]) ((hkX.trans (KeepO.of (ow:=[nb]) k15) fun x hx=>.inl hx).trans (KeepO.put (o:=.cells false 3 1 [.int .i64 (IntKind.i64.wrap (m'+1))]) (by simp)) fun x hx=>.inl hx);rw[←hlp] at f;exact f
     ·simp(disch:=omega) only[ak,↓aj,seval,aes,hJj,gLX,↓FR,FW]
      have f:=fin _ _ hmX hkX;rw[←hlp] at f;exact f
   ·obtain⟨⟨m,h1⟩,h2,h3,h4⟩:=hJ;have gd':=(h4 (H2.n+2) (by omega) (by omega) (by omega)).trans gd;have rn:=ah h1;rw[←hlp] at h2;have gd2:H'.get (nb+2)=some .deferred:=by rw[hnb];exact gd'
    simp(disch:=omega) only[ak,↓aj,seval,B33,h2,h1,rn,gd2,ar,↓hnb.symm,show ¬L=nb by omega,show ¬L=nb+2 by omega,↓FR,FW]
    exact fun k=>h _ _ k
def DQ(H:Heap)(b:Nat):Prop:=∃n:Int,H.get b=some (.cells false 3 1 [.int .i64 n])
def TJ(n0 L nb rb:Nat)(lp:IObj)(Hs:Heap)(H':Heap):Prop:=DQ H' nb∧DQ H' rb∧H'.get L=some lp∧n0≤H'.n∧∀y,y < n0→y≠nb→y≠rb→y≠L→H'.get y=Hs.get y
theorem OZ{v:SV}{l:List Opn}{H:Heap}{lo:Nat}{Q:Out→Heap→Prop}(hv:Sl H v l)(hl:l.length≤100000)(hs:∀H',zj 6 H' v)(hlo:lo≤H.n)(h:∀H' (n:Int),Keep H.n H H'→Q (.val (.int .i64 n)) H'):W E0 lo (.call 34 [v.iv]) H Q:=by
 refine W.pure bJ hlo ?_;rw[c34];simp(disch:=omega) only[ak,↓aj,seval,B34,ar,↓FR,FW];generalize hH_H1:Heap.new _ _=H1;have hnH1:H1.n=H.n+1:=by rw[←hH_H1];rfl
 have g0:=congrArg (fun h0=>Heap.get h0 (H.n)) hH_H1.symm;simp(disch:=omega) only[ak,↓aj,seval] at g0
 have kH1:Keep H.n H H1:=⟨by omega,fun x hx _=>by
  have gx:=congrArg (fun h0=>Heap.get h0 x) hH_H1.symm;simp(disch:=omega) only[ak,↓aj,seval] at gx;exact gx⟩
 clear hH_H1;refine zB (hv.keep kH1) hl (by omega) fun H2 b k2=>?_;have hn2:=k2.1;replace g0:=(k2.2 _ (by omega) (by omega)).trans g0;have r0:=ah g0;have kk:Keep H.n H H2:=kH1.trans (k2.lower (by omega))
 cases b with
 | false=>
   simp(disch:=omega) only[ak,↓aj,seval,B34,↓FR,FW]
   exact fun k=>h _ _ k
 | true=>
   simp(disch:=omega) only[ak,↓aj,seval,B34,B86,c86,r0,ar,↓FR,FW]
   generalize hH_Hs:Heap.new _ _=Hs;have hnHs:Hs.n=H2.n+5:=by rw[←hH_Hs];rfl
   have gn:=congrArg (fun h0=>Heap.get h0 (H2.n)) hH_Hs.symm;simp(disch:=omega) only[ak,↓aj,seval] at gn;have gr:=congrArg (fun h0=>Heap.get h0 (H2.n+1)) hH_Hs.symm;simp(disch:=omega) only[ak,↓aj,seval] at gr;have gx:=congrArg (fun h0=>Heap.get h0 (H2.n+2)) hH_Hs.symm;simp(disch:=omega) only[ak,↓aj,seval] at gx;have gd:=congrArg (fun h0=>Heap.get h0 (H2.n+3)) hH_Hs.symm;simp(disch:=omega) only[ak,↓aj,seval] at gd;have gL:=congrArg (fun h0=>Heap.get h0 (H2.n+4)) hH_Hs.symm;simp(disch:=omega) only[ak,↓aj,seval] at gL
   have kHs:Keep H2.n H2 Hs:=⟨by omega,fun x hx _=>by
    have gx:=congrArg (fun h0=>Heap.get h0 x) hH_Hs.symm;simp(disch:=omega) only[ak,↓aj,seval] at gx;exact gx⟩
   clear hH_Hs;have kks:Keep H.n H Hs:=kk.trans (kHs.lower (by omega));have g0s:=(kHs.2 H.n (by omega) (by omega)).trans g0;have hvs:=hv.keep kks;have hblk:l≠[]→v.blk < H2.n:=fun hne=>by have:=hv.blk_lt hne;omega
   have hsc:=fun(a n:Nat) (hj:a+n≤l.length)=>G7 hv hs hj;obtain⟨nb,hnb⟩:∃nb,nb=H2.n:=⟨_,rfl⟩;obtain⟨rb,hrb⟩:∃rb,rb=H2.n+1:=⟨_,rfl⟩;obtain⟨L,hL⟩:∃L,L=H2.n+4:=⟨_,rfl⟩;rw[←hnb] at gn;rw[←hrb] at gr;rw[←hL] at gL⊢;generalize hlp:IObj.loop _ _ _ _ _ _ _=lp at gL;clear r0 k2;refine aeK (v:=v) (l:=l) (n0:=Hs.n) (J:=TJ Hs.n L nb rb _ Hs) ?_ (by omega) hl ⟨⟨_,gn⟩,⟨_,gr⟩,gL,au _,fun y _ _ _ _=>rfl⟩ fun H' hJ=>?_
   ·refine⟨fun H' hJ=>?_,fun H' H'' hJ k=>?_,fun a n H' hJ hj K hK=>?_⟩
    ·obtain⟨_,_,_,h3,h4⟩:=hJ;exact⟨(h4 _ (by omega) (by omega) (by omega) (by omega)).trans gx,hvs.same h3 fun hne=>h4 _ (by have:=hblk hne;omega) (by have:=hblk hne;omega) (by have:=hblk hne;omega) (by have:=hblk hne;omega),by omega,h3⟩
    ·obtain⟨⟨m,h1⟩,⟨m2,h12⟩,h2,h3,h4⟩:=hJ;exact⟨⟨m,(k.2 _ (by omega) (by omega)).trans h1⟩,⟨m2,(k.2 _ (by omega) (by omega)).trans h12⟩,(k.2 _ (by omega) (by omega)).trans h2,by have:=k.1;omega,fun y a b c d=>(k.2 y (by omega) (by omega)).trans (h4 y a b c d)⟩
    ·obtain⟨⟨m,h1⟩,⟨m2,h12⟩,h2,h3,h4⟩:=hJ;have g0':=(h4 H.n (by omega) (by omega) (by omega) (by omega)).trans g0s;have r0':=ah g0';have hsc':=hsc a n hj;have hvp:=O0 hvs hj;have hpl:((l.drop a).take n).length=n:=by rw[gu,lN];omega
     have hln:=hvp.ln;rw[hpl] at hln;rw[←hlp] at h2;simp(disch:=omega) only[ak,↓aj,seval,B34,h2,g0',r0',↓hsc',↓hln,ar,show ¬H'.n=L by omega,show ¬L=H'.n by omega,show ¬H'.n=H.n by omega,show ¬L=H.n by omega,↓FR,FW];generalize hGB:Heap.put _ L _=HB;have nB:HB.n=H'.n+1:=by rw[←hGB];rfl
     have kB:∀y,y < H'.n→y≠L→HB.get y=H'.get y:=fun y h1 h2=>by
      rw[←hGB,ae,if_neg (Ne.symm h2),ae,if_neg (by omega),al,if_neg (by omega)]
     have gB:=congrArg (fun h0=>Heap.get h0 (L)) hGB.symm;simp(disch:=omega) only[ak,↓aj,seval] at gB;have gnB:=(kB nb (by omega) (by omega)).trans h1;have grB:=(kB rb (by omega) (by omega)).trans h12
     have fin:∀(HX:Heap),DQ HX nb→DQ HX rb→KeepO [nb,rb] HB HX→K (.val (.bool true)) (HX.put L lp):=fun HX q1 q3 q2=>by
      have hnX:=q2.1;obtain⟨m',q1⟩:=q1;obtain⟨m3,q3⟩:=q3;refine hK _ ⟨⟨m',by rw[ae,if_neg (by omega)];exact q1⟩,⟨m3,by rw[ae,if_neg (by omega)];exact q3⟩,by rw[ae,if_pos rfl],by rw[af];omega,fun y a1 a2 a3 a4=>?_⟩ (by rw[af];omega) fun y a1 a2 _=>?_
      ·rw[ae,if_neg (Ne.symm a4),q2.2 y (by omega) (by simp[a2,a3]),kB y (by omega) a4];exact h4 y a1 a2 a3 a4
      ·rw[ae,if_neg (by omega),q2.2 y (by omega) (by simp;omega),kB y a2 (by omega)]
     clear hGB h2;refine aP (fun k fr HX=>∃(i:Nat) (w:Bool) (x7 x8:Int),i+k=n∧DQ HX nb∧DQ HX rb∧KeepO [nb,rb] HB HX∧fr.marks=[]∧fr.tm.length=77∧fr.tm.getD 3 IV.undef=.ptr nb 0∧fr.tm.getD 4 IV.undef=.ptr rb 0∧fr.tm.getD 6 IV.undef=.bool w∧fr.tm.getD 7 IV.undef=.int .i64 x7∧fr.tm.getD 8 IV.undef=.int .i64 x8∧fr.tm.getD 26 IV.undef=(psl v a n).iv∧fr.tm.getD 27 IV.undef=.int .i64 n∧fr.tm.getD 28 IV.undef=.int .i64 i) ?_ n ⟨0,false,0,0,by omega,⟨_,gnB⟩,⟨_,grB⟩,KeepO.refl _ _,rfl,rfl,by rw[hnb];rfl,by rw[hrb];rfl,rfl,rfl,rfl,rfl,rfl,rfl⟩;clear h1 h12 gnB grB gn gr;rintro k ⟨tm,mk⟩ HX ⟨i,w,x7,x8,hik,⟨m,hmX⟩,⟨m2,hrX⟩,hkX,rfl,htm,t3,t4,t6,t7,t8,t26,t27,t28⟩ L1 hN hJj;have hnX:=hkX.1
     have hvX:Sl HX (psl v a n) ((l.drop a).take n):=hvp.same (by omega) fun hne=>by
      have hl0:l≠[]:=by rintro rfl;simp at hne
      have hb:=hblk hl0;have hpb:(psl v a n).blk=v.blk:=by cases v<;>rfl
      rw[hpb,hkX.2 _ (by omega) (by simp;omega),kB _ (by omega) (by omega)];exact h4 _ (by omega) (by omega) (by omega) (by omega)
     have gLX:=(hkX.2 L (by omega) (by simp;omega)).trans gB;have rnX:=ah hmX;have rrX:=ah hrX;rw[ox tm htm,t3,t4,t6,t7,t8,t26,t27,t28];have hidx:=hvX.idx;rw[hpl] at hidx;by_cases hi:i < n
     ·have r1:=hvX.read tK i (by omega);generalize hoo:((l.drop a).take n)[i]=oo at r1;rw[gl] at r1;by_cases hk3:oo.k=3
      ·have hc:uS oo.k=0:=by rw[hk3];rfl
       simp(disch:=omega) only[ak,↓aj,seval,CE,↓hvX.idx,r1,gl,rnX,rrX,hmX,hrX,ar,show ¬HX.n=nb by omega,show ¬nb=HX.n by omega,show ¬HX.n=rb by omega,show ¬rb=HX.n by omega,show ¬nb=rb by omega,show ¬rb=nb by omega,↓FR,FW]
       generalize hG:Heap.put _ rb _=HY;have nY:HY.n=HX.n+1:=by rw[←hG];rfl
       have iY:DQ HY nb:=⟨_,by rw[←hG,ae,if_neg (by omega),ae,if_pos rfl]⟩;have jY:DQ HY rb:=⟨_,by rw[←hG,ae,if_pos rfl]⟩
       have kY:KeepO [nb,rb] HX HY:=⟨by omega,fun y a1 a2=>by
        have b1:y≠nb:=fun e=>a2 (by simp[e]);have b2:y≠rb:=fun e=>a2 (by simp[e]);rw[←hG,ae,if_neg (Ne.symm b2),ae,if_neg (Ne.symm b1),ae,if_neg (by omega),al,if_neg (by omega)]⟩
       clear hG;refine jh oo (by omega) fun H5 k5=>?_;rw[hc];obtain⟨m5,iY⟩:=iY;obtain⟨m6,jY⟩:=jY;simp(disch:=omega) only[ak,↓aj,seval,CE,↓FR,FW];exact hN (k - 1) _ _ (by omega) ⟨i+1,w,x7,x8,by omega,⟨m5,(k5.2 nb (by omega) (by omega)).trans iY⟩,⟨m6,(k5.2 rb (by omega) (by omega)).trans jY⟩,(hkX.trans kY fun x hx=>.inl hx).trans (KeepO.of (ow:=[nb,rb]) k5) fun x hx=>.inl hx,rfl,rfl,rfl,rfl,rfl,rfl,rfl,rfl,rfl,rfl⟩
      ·simp(disch:=omega) only[ak,↓aj,seval,CE,↓hvX.idx,r1,gl,ar,↓FR,FW]
       refine jh oo (by rw[af,ac];omega) fun H5 k5=>?_;have hn5:=k5.1;rw[af,ac] at hn5;have gy5:=k5.2 HX.n (by rw[af,ac];omega) (by rw[af,ac];omega);rw[ae,if_pos rfl] at gy5;have k15:Keep HX.n HX H5:=Keep.newPut.trans (k5.lower (by rw[af,ac];omega));have gm5:=(k15.2 nb (by omega) (by omega)).trans hmX;have gr5:=(k15.2 rb (by omega) (by omega)).trans hrX;have ry5:=ah gy5;have rr5:=ah gr5;by_cases hc:uS oo.k=0
       ·simp(disch:=omega) only[ak,↓aj,seval,CE,hc,↓FR,FW]
        exact hN (k - 1) _ _ (by omega) ⟨i+1,w,x7,x8,by omega,⟨m,gm5⟩,⟨m2,gr5⟩,hkX.trans (KeepO.of (ow:=[nb,rb]) k15) fun x hx=>.inl hx,rfl,rfl,rfl,rfl,rfl,rfl,rfl,rfl,rfl,rfl⟩
       ·simp(disch:=omega) only[ak,↓aj,seval,CE,hc,ry5,rr5,ar,↓FR,FW]
        refine iX oo.b oo.a m2 (by omega) fun H6 k6=>?_;have hn6:=k6.1;have gm6:=(k6.2 nb (by omega) (by omega)).trans gm5;have gr6:=(k6.2 rb (by omega) (by omega)).trans gr5;generalize aF oo.b oo.a m2=sp;have shr:nz .shr (.int .i64 sp) (.int .u64 2)=some (.int .i64 (sp.fdiv (2^(Min.min (2:Int).toNat IntKind.i64.bits)))):=rfl;have kfin:KeepO [nb,rb] HB H6:=(hkX.trans (KeepO.of (ow:=[nb,rb]) k15) fun x hx=>.inl hx).trans (KeepO.of (ow:=[nb,rb]) k6) fun x hx=>.inl hx;generalize hq:sp.fdiv (2^(Min.min (2:Int).toNat IntKind.i64.bits))=qq at shr
        cases w with
        | false=>
          simp(disch:=omega) only[ak,↓aj,seval,CE,↓shr,↓FR,FW]
          exact hN (k - 1) _ _ (by omega) ⟨i+1,true,qq,qq,by omega,⟨m,gm6⟩,⟨m2,gr6⟩,kfin,rfl,rfl,rfl,rfl,rfl,rfl,rfl,rfl,rfl,rfl⟩
        | true=>
          simp(disch:=omega) only[ak,↓aj,seval,CE,↓shr,↓FR,FW]
          exact hN (k - 1) _ _ (by omega) ⟨i+1,true,_,_,by omega,⟨m,gm6⟩,⟨m2,gr6⟩,kfin,rfl,rfl,rfl,rfl,rfl,rfl,rfl,rfl,rfl,rfl⟩
     ·cases w with
      | false=>
        simp(disch:=omega) only[ak,↓aj,seval,CE,hJj,gLX,↓FR,FW]
        have f:=fin _ ⟨m,hmX⟩ ⟨m2,hrX⟩ hkX;rw[←hlp] at f;exact f
      | true=>
        simp(disch:=omega) only[ak,↓aj,seval,CE,hJj,gLX,rnX,hmX,ar,show ¬nb=L by omega,show ¬L=nb by omega,↓FR,FW]
        have f:=fin (HX.put nb (.cells false 3 1 [.int .i64 (IntKind.i64.wrap (m+IntKind.i64.wrap (IntKind.i64.wrap (IntKind.i64.wrap (1+x8) - x7)+1)))])) ⟨_,by rw[ae,if_pos rfl]⟩ ⟨m2,by rw[ae,if_neg (by omega)];exact hrX⟩ (hkX.trans (KeepO.put (by simp)) fun x hx=>.inl hx);rw[←hlp] at f;exact f
   ·obtain⟨⟨m,h1⟩,_,h2,h3,h4⟩:=hJ;have gd2:H'.get (nb+3)=some .deferred:=by rw[hnb];exact(h4 (H2.n+3) (by omega) (by omega) (by omega) (by omega)).trans gd
    have rn:=ah h1;rw[←hlp] at h2;simp(disch:=omega) only[ak,↓aj,seval,B34,h2,h1,rn,gd2,ar,↓hnb.symm,show ¬L=nb by omega,show ¬L=nb+3 by omega,↓FR,FW];exact fun k=>h _ _ k
structure N64 where
 n:Int
 deriving Inhabited
instance:Cell N64 where
 z:=1
 cs x:=[.int .i64 x.n]
 len _:=rfl
 one _:=rfl
 pos:=by omega
def LM(es:List (IV×IV×Nat)):Prop:=∀e∈es,∃k n:Int,e.1=.int .u8 k∧e.2.1=.int .i64 n
theorem LM.find:∀{es:List (IV×IV×Nat)} (h:LM es) (y:Int) (i:Nat),∃r,aI (false,[Pk.int]) (.int .u8 y) es i=some r∧∀j v,r=some (j,v)→∃n:Int,v=.int .i64 n
 | [],_,y,i=>⟨none,rfl,fun _ _ h=>by cases h⟩
 | (k,v,s)::es,h,y,i=>by
   obtain⟨k0,n0,h1,h2⟩:=h _ nQ;have h1:k=.int .u8 k0:=h1;have h2:v=.int .i64 n0:=h2;subst h1 h2;by_cases he:y=k0
   ·refine⟨some (i,.int .i64 n0),?_,fun j v e=>by injection e with e;injection e with _ e;exact⟨n0,e.symm⟩⟩
    simp only[aI,dQ,aQ,IV.cells,iD,FU,xj,nO,if_true,he,beq_self_eq_true,wY]
   ·obtain⟨r,h3,h4⟩:=LM.find (es:=es) (fun e he=>h e (cP _ he)) y (i+1);refine⟨r,?_,h4⟩;simp only[aI,dQ,aQ,IV.cells,iD,FU,xj,nO,if_true,beq_eq_false_iff_ne.2 he,Bf];exact h3
theorem LM.look{H:Heap}{b:Nat}{es:List (IV×IV×Nat)}{c:Nat}(hg:H.get b=some (.map es c))(h:LM es)(y:Int)(t lo:Nat):∃(n:Int) (ok:Bool),ev1 (.lookup t (false,[.int]) (.int .i64 0) true) [.map b,.int .u8 y] lo H=some (.tuple [.int .i64 n,.bool ok],H):=by
 obtain⟨r,h1,h2⟩:=h.find y 0;have hk:cv (false,[Pk.int]) (.int .u8 y)=true:=rfl;simp only[ev1,aB,hg,dI,hk,if_true,h1]
 cases r with
 | none=>exact⟨0,false,rfl⟩
 | some p=>
   obtain⟨j,v⟩:=p;obtain⟨n,rfl⟩:=h2 j v rfl;exact⟨n,true,rfl⟩
theorem LM.set{es:List (IV×IV×Nat)}(h:LM es)(y n:Int):∀i,LM (cD (.int .u8 y) (.int .i64 n) es i):=by
 induction es with
 | nil=>intro i;exact h
 | cons e es ih=>
   intro i x hx;obtain⟨k,v,s⟩:=e
   cases i with
   | zero=>
     simp only[cD,sW] at hx;rcases hx with rfl | hx
     ·exact⟨y,n,rfl,rfl⟩
     ·exact h x (cP _ hx)
   | succ i=>
     simp only[cD,sW] at hx;rcases hx with rfl | hx
     ·exact h _ nQ
     ·exact ih (fun e he=>h e (cP _ he)) i x hx
theorem LM.upd{H:Heap}{b:Nat}{es:List (IV×IV×Nat)}{c:Nat}(hg:H.get b=some (.map es c))(h:LM es)(y n:Int)(lo:Nat)(hlo:lo≤b):∃es' c',ev1 (.mapUpd (false,[.int])) [.map b,.int .u8 y,.int .i64 n] lo H=some (IV.undef,H.put b (.map es' c'))∧LM es':=by
 obtain⟨r,h1,h2⟩:=h.find y 0;have hk:cv (false,[Pk.int]) (.int .u8 y)=true:=rfl;simp only[ev1,aB,hg,hk,hlo,and_self,if_true,h1]
 cases r with
 | none=>exact⟨_,_,rfl,fun e he=>by
   rcases List.mem_append.1 he with he | he
   ·exact h e he
   ·rw[List.mem_singleton.1 he];exact⟨y,n,rfl,rfl⟩⟩
 | some p=>exact⟨_,_,rfl,h.set y n p.1⟩
theorem LM.del{H:Heap}{b:Nat}{es:List (IV×IV×Nat)}{c:Nat}(hg:H.get b=some (.map es c))(h:LM es)(y:Int)(lo:Nat)(hlo:lo≤b):∃es' c' H',ev1 (.delete (false,[.int])) [.map b,.int .u8 y] lo H=some (IV.undef,H')∧H'.get b=some (.map es' c')∧LM es'∧KeepO [b] H H':=by
 obtain⟨r,h1,h2⟩:=h.find y 0;have hk:cv (false,[Pk.int]) (.int .u8 y)=true:=rfl;simp only[ev1,aB,hg,hk,hlo,and_self,if_true,h1]
 cases r with
 | none=>exact⟨es,c,H,rfl,hg,h,KeepO.refl _ _⟩
 | some p=>exact⟨_,_,_,rfl,by rw[ae,if_pos rfl],fun e he=>h e ((je es p.1).subset he),KeepO.put (by simp)⟩
end Go.Iso.Gen
end
