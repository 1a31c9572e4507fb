/-
  what is told of programs.
-/
import Derived.Shelf.SlSortCmp.NoneTotal
import Derived.Test.YtpnbiapmndbhgaaGreatDoorProg
import Derived.KernelRfl
import Derived.Test.YtpnbiapmndbhgaaGreatDoorIsoP7
import Derived.Test.YtpnbiapmndbhgaaGreatDoorFnUb
import Derived.Test.YtpnbiapmndbhgaaGreatDoorEnv
set_option linter.unusedSimpArgs false
set_option linter.unusedVariables false
set_option maxRecDepth 100000
set_option maxHeartbeats 4000000
set_option linter.defProp false
section
namespace Go.Iso.Gen
open Go.Proofs Go.Shelf
def Dh:Ren:=⟨fun | 6=>78 | 15=>133 | 14=>132 | 28=>173 | 29=>174 | 20=>165 | 21=>166 | 22=>167 | 23=>168 | 24=>169 | 25=>170 | 26=>171 | 27=>172 | 46=>201 | 47=>202 | 48=>203 | 49=>204 | 50=>205 | 57=>215 | n=>n,fun | 22=>30 | 24=>149 | 25=>155 | 3=>3 | 39=>169 | 0=>0 | 53=>49 | 55=>271 | 4=>4 | 46=>264 | 45=>263 | 50=>90 | 5=>5 | 9=>9 | 66=>289 | 70=>293 | 76=>302 | 77=>303 | n=>n,fun n=>n⟩
theorem P8:SlLaysF0.n6 Tryz.prog Dh where
 mixed:=by kernel_rfl
 f6:=⟨Tryz.f78.name,by kernel_rfl,Tryz.func78.trans (congrArg some (by kernel_rfl))⟩
 f14:=⟨Tryz.f132.name,by kernel_rfl,Tryz.func132.trans (congrArg some (by kernel_rfl))⟩
 f15:=Tryz.func133.trans (congrArg some (by kernel_rfl))
 f20:=⟨Tryz.f165.name,by kernel_rfl,Tryz.func165.trans (congrArg some (by kernel_rfl))⟩
 f21:=⟨Tryz.f166.name,by kernel_rfl,Tryz.func166.trans (congrArg some (by kernel_rfl))⟩
 f22:=⟨Tryz.f167.name,by kernel_rfl,Tryz.func167.trans (congrArg some (by kernel_rfl))⟩
 f23:=⟨Tryz.f168.name,by kernel_rfl,Tryz.func168.trans (congrArg some (by kernel_rfl))⟩
 f24:=⟨Tryz.f169.name,by kernel_rfl,Tryz.func169.trans (congrArg some (by kernel_rfl))⟩
 f25:=⟨Tryz.f170.name,by kernel_rfl,Tryz.func170.trans (congrArg some (by kernel_rfl))⟩
 f26:=⟨Tryz.f171.name,by kernel_rfl,Tryz.func171.trans (congrArg some (by kernel_rfl))⟩
 f27:=⟨Tryz.f172.name,by kernel_rfl,Tryz.func172.trans (congrArg some (by kernel_rfl))⟩
 f28:=Tryz.func173.trans (congrArg some (by kernel_rfl))
 f29:=Tryz.func174.trans (congrArg some (by kernel_rfl))
 f46:=⟨Tryz.f201.name,by kernel_rfl,Tryz.func201.trans (congrArg some (by kernel_rfl))⟩
 f47:=Tryz.func202.trans (congrArg some (by kernel_rfl))
 f48:=Tryz.func203.trans (congrArg some (by kernel_rfl))
 f49:=⟨Tryz.f204.name,by kernel_rfl,Tryz.func204.trans (congrArg some (by kernel_rfl))⟩
 f50:=⟨Tryz.f205.name,by kernel_rfl,Tryz.func205.trans (congrArg some (by kernel_rfl))⟩
 f57:=⟨Tryz.f215.name,by kernel_rfl,Tryz.func215.trans (congrArg some (by kernel_rfl))⟩
 t0:=Tryz.underlying0
 a0:=Tryz.isAgg0
 z0:=Tryz.sizeOf0
 v0:=Tryz.zeroValue0
 t3:=Tryz.underlying3
 a3:=Tryz.isAgg3
 z3:=Tryz.sizeOf3
 v3:=Tryz.zeroValue3
 t4:=Tryz.underlying4
 a4:=Tryz.isAgg4
 z4:=Tryz.sizeOf4
 v4:=Tryz.zeroValue4
 t5:=Tryz.underlying5
 a5:=Tryz.isAgg5
 z5:=Tryz.sizeOf5
 v5:=Tryz.zeroValue5
 t9:=Tryz.underlying9
 a9:=Tryz.isAgg9
 z9:=Tryz.sizeOf9
 v9:=Tryz.zeroValue9
 t22:=Tryz.underlying30
 a22:=Tryz.isAgg30
 z22:=Tryz.sizeOf30
 v22:=Tryz.zeroValue30
 t25:=Tryz.underlying155
 a25:=Tryz.isAgg155
 z25:=Tryz.sizeOf155
 v25:=Tryz.zeroValue155
 t39:=Tryz.underlying169
 a39:=Tryz.isAgg169
 z39:=Tryz.sizeOf169
 v39:=Tryz.zeroValue169
 t45:=Tryz.underlying263
 a45:=Tryz.isAgg263
 z45:=Tryz.sizeOf263
 v45:=Tryz.zeroValue263
 t46:=Tryz.underlying264
 a46:=Tryz.isAgg264
 z46:=Tryz.sizeOf264
 v46:=Tryz.zeroValue264
 t50:=Tryz.underlying90
 a50:=Tryz.isAgg90
 z50:=Tryz.sizeOf90
 v50:=Tryz.zeroValue90
 t53:=Tryz.underlying49
 a53:=Tryz.isAgg49
 z53:=Tryz.sizeOf49
 v53:=Tryz.zeroValue49
 t55:=Tryz.underlying271
 a55:=Tryz.isAgg271
 z55:=Tryz.sizeOf271
 v55:=Tryz.zeroValue271
 t66:=Tryz.underlying289
 a66:=Tryz.isAgg289
 z66:=Tryz.sizeOf289
 v66:=Tryz.zeroValue289
 t70:=Tryz.underlying293
 a70:=Tryz.isAgg293
 z70:=Tryz.sizeOf293
 v70:=Tryz.zeroValue293
 t76:=Tryz.underlying302
 a76:=Tryz.isAgg302
 z76:=Tryz.sizeOf302
 v76:=Tryz.zeroValue302
 t77:=Tryz.underlying303
 a77:=Tryz.isAgg303
 z77:=Tryz.sizeOf303
 v77:=Tryz.zeroValue303
def Dg:Ren:=⟨fun | 6=>82 | 15=>133 | 14=>137 | 28=>173 | 29=>174 | 20=>176 | 21=>177 | 22=>178 | 23=>179 | 24=>180 | 25=>181 | 26=>182 | 27=>183 | 46=>206 | 47=>202 | 48=>203 | 49=>207 | 50=>208 | 57=>216 | n=>n,fun | 22=>31 | 24=>138 | 25=>154 | 3=>3 | 39=>169 | 0=>0 | 53=>49 | 55=>271 | 4=>4 | 46=>264 | 45=>263 | 50=>90 | 5=>5 | 9=>9 | 66=>289 | 70=>293 | 76=>302 | 77=>303 | n=>n,fun n=>n⟩
theorem P7:SlLaysF0.n6 Tryz.prog Dg where
 mixed:=by kernel_rfl
 f6:=⟨Tryz.f82.name,by kernel_rfl,Tryz.func82.trans (congrArg some (by kernel_rfl))⟩
 f14:=⟨Tryz.f137.name,by kernel_rfl,Tryz.func137.trans (congrArg some (by kernel_rfl))⟩
 f15:=Tryz.func133.trans (congrArg some (by kernel_rfl))
 f20:=⟨Tryz.f176.name,by kernel_rfl,Tryz.func176.trans (congrArg some (by kernel_rfl))⟩
 f21:=⟨Tryz.f177.name,by kernel_rfl,Tryz.func177.trans (congrArg some (by kernel_rfl))⟩
 f22:=⟨Tryz.f178.name,by kernel_rfl,Tryz.func178.trans (congrArg some (by kernel_rfl))⟩
 f23:=⟨Tryz.f179.name,by kernel_rfl,Tryz.func179.trans (congrArg some (by kernel_rfl))⟩
 f24:=⟨Tryz.f180.name,by kernel_rfl,Tryz.func180.trans (congrArg some (by kernel_rfl))⟩
 f25:=⟨Tryz.f181.name,by kernel_rfl,Tryz.func181.trans (congrArg some (by kernel_rfl))⟩
 f26:=⟨Tryz.f182.name,by kernel_rfl,Tryz.func182.trans (congrArg some (by kernel_rfl))⟩
 f27:=⟨Tryz.f183.name,by kernel_rfl,Tryz.func183.trans (congrArg some (by kernel_rfl))⟩
 f28:=Tryz.func173.trans (congrArg some (by kernel_rfl))
 f29:=Tryz.func174.trans (congrArg some (by kernel_rfl))
 f46:=⟨Tryz.f206.name,by kernel_rfl,Tryz.func206.trans (congrArg some (by kernel_rfl))⟩
 f47:=Tryz.func202.trans (congrArg some (by kernel_rfl))
 f48:=Tryz.func203.trans (congrArg some (by kernel_rfl))
 f49:=⟨Tryz.f207.name,by kernel_rfl,Tryz.func207.trans (congrArg some (by kernel_rfl))⟩
 f50:=⟨Tryz.f208.name,by kernel_rfl,Tryz.func208.trans (congrArg some (by kernel_rfl))⟩
 f57:=⟨Tryz.f216.name,by kernel_rfl,Tryz.func216.trans (congrArg some (by kernel_rfl))⟩
 t0:=Tryz.underlying0
 a0:=Tryz.isAgg0
 z0:=Tryz.sizeOf0
 v0:=Tryz.zeroValue0
 t3:=Tryz.underlying3
 a3:=Tryz.isAgg3
 z3:=Tryz.sizeOf3
 v3:=Tryz.zeroValue3
 t4:=Tryz.underlying4
 a4:=Tryz.isAgg4
 z4:=Tryz.sizeOf4
 v4:=Tryz.zeroValue4
 t5:=Tryz.underlying5
 a5:=Tryz.isAgg5
 z5:=Tryz.sizeOf5
 v5:=Tryz.zeroValue5
 t9:=Tryz.underlying9
 a9:=Tryz.isAgg9
 z9:=Tryz.sizeOf9
 v9:=Tryz.zeroValue9
 t22:=Tryz.underlying31
 a22:=Tryz.isAgg31
 z22:=Tryz.sizeOf31
 v22:=Tryz.zeroValue31
 t25:=Tryz.underlying154
 a25:=Tryz.isAgg154
 z25:=Tryz.sizeOf154
 v25:=Tryz.zeroValue154
 t39:=Tryz.underlying169
 a39:=Tryz.isAgg169
 z39:=Tryz.sizeOf169
 v39:=Tryz.zeroValue169
 t45:=Tryz.underlying263
 a45:=Tryz.isAgg263
 z45:=Tryz.sizeOf263
 v45:=Tryz.zeroValue263
 t46:=Tryz.underlying264
 a46:=Tryz.isAgg264
 z46:=Tryz.sizeOf264
 v46:=Tryz.zeroValue264
 t50:=Tryz.underlying90
 a50:=Tryz.isAgg90
 z50:=Tryz.sizeOf90
 v50:=Tryz.zeroValue90
 t53:=Tryz.underlying49
 a53:=Tryz.isAgg49
 z53:=Tryz.sizeOf49
 v53:=Tryz.zeroValue49
 t55:=Tryz.underlying271
 a55:=Tryz.isAgg271
 z55:=Tryz.sizeOf271
 v55:=Tryz.zeroValue271
 t66:=Tryz.underlying289
 a66:=Tryz.isAgg289
 z66:=Tryz.sizeOf289
 v66:=Tryz.zeroValue289
 t70:=Tryz.underlying293
 a70:=Tryz.isAgg293
 z70:=Tryz.sizeOf293
 v70:=Tryz.zeroValue293
 t76:=Tryz.underlying302
 a76:=Tryz.isAgg302
 z76:=Tryz.sizeOf302
 v76:=Tryz.zeroValue302
 t77:=Tryz.underlying303
 a77:=Tryz.isAgg303
 z77:=Tryz.sizeOf303
 v77:=Tryz.zeroValue303
open Go.Iso Go.Proofs
def IE:List Nat→Code→Option Code
 | [],c=>some c
 | 0::p,.seq a _=>IE p a
 | 1::p,.seq _ b=>IE p b
 | 0::p,.block _ c=>IE p c
 | 0::p,.loop c=>IE p c
 | _,_=>none
def iQ(p:List Nat)(c:Code):Option Bool:=match IE p c with
 | some (.region _ _ d)=>some d
 | _=>none
theorem dr3:((Tryz.prog.funcs[31]?).bind (·.body)).bind (iQ [1,1,0,1,0,0,0])=some false:=by kernel_rfl
theorem dr7:((Tryz.prog.funcs[31]?).bind (·.body)).bind (iQ [1,1,1,0])=some false:=by kernel_rfl
theorem W6:((Tryz.prog.funcs[31]?).bind (·.body)).bind (iQ [1,1,1,1,1,0])=some false:=by kernel_rfl
theorem KN(x y:Crs)(H':Heap):∃H'',CallSim Tryz.prog 1 79 [.agg (Cell.cs x),.agg (Cell.cs y)] H'.n H' (.int .i64 (KO x y)) H'':=by
 obtain⟨n,o,H'',h1,rfl⟩:W E0 H'.n (.call 79 [.agg (Cell.cs x),.agg (Cell.cs y)]) H' fun o _=>o=.val (.int .i64 (KO x y)):=Hi x y (Nat.le_refl _) fun _ _=>rfl
 exact⟨H'',oH sb h1⟩
theorem Kp(x y:Id)(H':Heap):∃H'',CallSim Tryz.prog 1 80 [.agg (Cell.cs x),.agg (Cell.cs y)] H'.n H' (.int .i64 (AM x y)) H'':=by
 obtain⟨n,o,H'',h1,rfl⟩:W E0 H'.n (.call 80 [.agg (Cell.cs x),.agg (Cell.cs y)]) H' fun o _=>o=.val (.int .i64 (AM x y)):=uh x y (Nat.le_refl _) fun _ _=>rfl
 exact⟨H'',oH sb h1⟩
theorem Cp(a b:Int):(iL a b < 0)↔a < b:=by
 unfold iL;split
 ·omega
 ·split<;>omega
theorem Aq(a b:Int):(iL a b≠0)↔a≠b:=by
 unfold iL;split
 ·omega
 ·split<;>omega
theorem v7(a b:Id):(AM a b < 0)↔(a.y < b.y∨a.y=b.y∧a.n < b.n):=by
 unfold AM;have h1:=Aq a.y b.y;have h2:=Cp a.y b.y;have h3:=Cp a.n b.n;split<;>omega
theorem QQ(a b:Id):(AM a b≠0)↔(a.y≠b.y∨a.n≠b.n):=by
 unfold AM;have h1:=Aq a.y b.y;have h3:=Aq a.n b.n;split<;>omega
theorem Nv:Sort.SWO (ltOf AM) where
 irrefl x:=by unfold ltOf;rw[decide_eq_false_iff_not,v7];omega
 trans x y z h1 h2:=by unfold ltOf at *;rw[decide_eq_true_iff,v7] at *;omega
 ntrans x y z h1 h2:=by unfold ltOf at *;rw[decide_eq_false_iff_not,v7] at *;omega
theorem D4(x y:Crs):(KO x y < 0)↔(x.a.y < y.a.y∨x.a.y=y.a.y∧(x.a.n < y.a.n∨x.a.n=y.a.n∧(x.b.y < y.b.y∨x.b.y=y.b.y∧x.b.n < y.b.n))):=by
 unfold KO;have h1:=QQ x.a y.a;have h2:=v7 x.a y.a;have h3:=v7 x.b y.b;split<;>omega
theorem NP:Sort.SWO (ltOf KO) where
 irrefl x:=by unfold ltOf;rw[decide_eq_false_iff_not,D4];omega
 trans x y z h1 h2:=by unfold ltOf at *;rw[decide_eq_true_iff,D4] at *;omega
 ntrans x y z h1 h2:=by unfold ltOf at *;rw[decide_eq_false_iff_not,D4] at *;omega
theorem KD:∀args w,(callFunc 79 args).run Tryz.prog w=.ok (.enter 79 args) w:=enters_of Tryz.func79 (by kernel_rfl) rfl
theorem KC:∀args w,(callFunc 80 args).run Tryz.prog w=.ok (.enter 80 args) w:=enters_of Tryz.func80 (by kernel_rfl) rfl
theorem IN{lo b lb:Nat}{ex:Bool}{l:List Crs}{H:Heap}(hlo:lo≤b)(hg:H.get b=some (.cells false 149 5 (aB l)))(hl:l.length≤1000000):
  FE Tryz.prog 1 78 [.slice b 0 l.length lb ex,.fn 79 [] []] lo H (CE KO b 149 5 l H):=
 vo (α:=Crs) P8 (fun x=>by rw[KM];rfl) Tryz.isAgg149 Tryz.sizeOf149 KO NP hlo hg (by omega) KD KN
theorem IM{lo b lb:Nat}{ex:Bool}{l:List Id}{H:Heap}(hlo:lo≤b)(hg:H.get b=some (.cells false 138 2 (aB l)))(hl:l.length≤1000000):
  FE Tryz.prog 1 82 [.slice b 0 l.length lb ex,.fn 80 [] []] lo H (CE AM b 138 2 l H):=
 vo (α:=Id) P7 (fun x=>by rfl) Tryz.isAgg138 Tryz.sizeOf138 AM Nv hlo hg (by omega) KC Kp
theorem Pw{f:FuncId}{fn:IFn}(h:al Tryz.prog f=some fn):∃pf body,Tryz.prog.funcs[f]? =some pf∧pf.body=some body∧(pf.name=="runtime.NumGoroutine")=false:=mi h
def R1(mb:Nat)(L:Ly)(M:Mc):List IV:=[.int .i64 M.rack,sQ mb L.f.iv,sQ mb L.b.iv,.slice mb 0 6 6 false,.slice mb 0 6 6 false,.slice mb 0 M.cr.length M.cr.length false,
 .slice mb 0 (bJ (aN M.t) (aG M.t) M.rack).length (bJ (aN M.t) (aG M.t) M.rack).length false,.slice mb 0 M.fa.length M.fa.length false]
def FQ(mb:Nat)(L:Ly)(M:Mc)(o:Out)(H':Heap):Prop:=∃e fr',o=.ex e fr'∧(∀id,e≠.jmp (.exit id))∧fr'.marks=[]∧
   ∃cs,au H' fr'.tm F31.results=some [.agg cs]∧cs.all Sk=true∧cs.map (sQ mb)=R1 mb L M
theorem Qz(v:SV):Sk v.iv=true:=by cases v<;>rfl
theorem QD{n0 mb rb cb:Nat}{H:Heap}{ow:List Nat}{L:Ly}{M:Mc}(h:MI n0 mb H ow L M)(hrl:∀x∈L.rl,x.length≤1000000)(hfa:M.fa.length≤1000000){l:List Crs}(hl:l.length=M.cr.length)(hll:l.length≤1000000)
  (hrb:H.get rb=some (.cells false 35 8 [.int .i64 0,.nilSlice,.nilSlice,.nilSlice,.nilSlice,.nilSlice,.nilSlice,.nilSlice])) (hcb:H.get cb=some (.cells false 149 5 (aB l)))
  (hbf:Sl2 (H.off (cb::ow)) L.f (aN M.t)) (hbb:Sl2 (H.off (cb::ow)) L.b (aG M.t))
  (h1:n0≤rb∧rb < H.n∧rb∉ow) (h2:n0≤cb∧cb < H.n∧cb∉ow) (h12:rb≠cb) {tm:List IV} (htm:tm.length=95) (t0:tm.getD 0 IV.undef=.ptr mb 0) (t2:tm.getD 2 IV.undef=.ptr rb 0) (t3:tm.getD 3 IV.undef=.slice cb 0 l.length l.length true)
  {r2:Code} (hr2:aK Tryz.prog r2=some (.seq Ln (.seq (.seq Lm (.block 2 (.loop AF))) (.seq Ek (.seq AE (.seq AD .ret))))))
  (hd7:iQ [0] r2=some false) (hd14:iQ [1,1,0] r2=some false):
  NItem Tryz.prog 1 n0 (.code r2) none ⟨tm,[]⟩ H (FQ mb L M):=by
 obtain⟨c7,r3,rfl,hc7,hr3⟩:=fi hr2;obtain⟨c8,r4,rfl,hc8,hr4⟩:=fi hr3;obtain⟨c14,r5,rfl,hc14,hr5⟩:=fi hr4;obtain⟨i7,o7,d7,rfl,hg7⟩:=sg hc7;obtain⟨i14,o14,d14,rfl,hg14⟩:=sg hc14;have e7:d7=false:=Option.some.inj hd7;have e14:d14=false:=Option.some.inj hd14;subst e7 e14;have hlm:=h.lo _ h.om;have hmr:rb≠mb:=fun e=>h1.2.2 (e▸h.om);have hmc:cb≠mb:=fun e=>h2.2.2 (e▸h.om);refine NItem.seqC (NItem.region sb (pre:=[_]) (post:=[]) hg7 rfl (R:=CE KO cb 149 5 l H) ?_);rw[rY tm htm,t0,t2,t3];simp(disch:=omega) only[ai,↓ah,seval,CR];refine⟨_,_,rfl,rfl,fun o ho=>?_,fun v H2 hv=>?_⟩
 ·obtain⟨pf,body,q1,q2,q3⟩:=Pw Y4;exact NOp.call ho q1 q2 q3 (IN h2.1 hcb hll)
 obtain⟨_,l',hp,_,hn2,hk2,hcb2⟩:=hv;have hll':l'.length=l.length:=hp.length_eq;simp(disch:=omega) only[ai,↓ah,seval,CR];refine⟨_,rfl,?_⟩;have hmbo:=h.om;have htbo:=h.ot;have hfvo:=h.of;have htl:=h.lo _ htbo;have hne:∀x,x∈ow→x≠cb:=fun x hx e=>h2.2.2 (e▸hx);have gm2:=(hk2 mb (Ne.symm hmc)).trans h.gm;have gr2:=(hk2 rb h12).trans hrb;have gt2:=h.gt.same (Nat.le_of_eq hn2.symm) (hk2 _ (hne _ htbo));have rg2:∀(i:Nat) (a:i < L.ws.length) (b:i < L.rl.length),Tg n0 H2 158 L.ws[i] L.rl[i]:=fun i a b=>(h.rg i a b).same (Nat.le_of_eq hn2.symm) (hk2 _ (hne _ (h.orw _ (List.getElem_mem _))));have gf2:=h.gf.same (Nat.le_of_eq hn2.symm) (hk2 _ (hne _ hfvo));have kO2:KeepO (cb::ow) H H2:=⟨Nat.le_of_eq hn2.symm,fun x _ hx=>hk2 x fun e=>hx (by simp[e])⟩;have hbf2:=hbf.keep kO2.off';have hbb2:=hbb.keep kO2.off';have rm2:=ae gm2;refine NItem.seqC (ik sb hc8 ?_);simp(disch:=omega) only[ai,↓ah,seval,CR,rm2,↓FR,FW];refine Gh gm2 gt2 h.wn h.rn rg2 hrl htl.1 (by omega) (by omega) rfl rfl rfl rfl rfl rfl rfl fun H3 Ix k3 htm3 t0 t2 t3=>?_;have hn3:=k3.1;have hmt:mb≠L.tb:=fun e=>by have:=h.gm;have h2:=h.fullT;rw[e,h2] at this;cases this
 have hct:cb≠L.tb:=fun e=>h2.2.2 (e▸htbo);have hrt:rb≠L.tb:=fun e=>h1.2.2 (e▸htbo);have gm3:=(k3.2 mb (by omega) (by simpa using hmt)).trans gm2;have gr3:=(k3.2 rb (by omega) (by simpa using hrt)).trans gr2;have hcb3:=(k3.2 cb (by omega) (by simpa using hct)).trans hcb2;have kO3:KeepO (cb::ow) H2 H3:=k3.mono fun x hx=>by rw[List.mem_singleton.1 hx];exact List.mem_cons_of_mem _ htbo
 have hbf3:=hbf2.keep kO3.off';have hbb3:=hbb2.keep kO3.off';obtain⟨fb,fx,hfv,hfb,ofb⟩:=gf2;rw[hfv] at hfvo;have hfvo:fb∈ow:=hfvo;have hft:fb≠L.tb:=fun e=>by have h2:=gt2;have h3:=ofb;rw[e] at h3;obtain⟨_,_,r,h5,_⟩:=h3;obtain⟨_,_,r',h6,_⟩:=h2;rw[h5] at h6;cases h6
 have of3:=ofb.same hn3 (k3.2 fb ofb.2.1 (by simpa using hft));have gf3:=of3.full;rw[kJ] at gf3;have hfm:fb≠mb:=fun e=>by rw[e,gm3] at gf3;cases gf3
 have hfr:rb≠fb:=fun e=>h1.2.2 (e▸hfvo);have hfc:cb≠fb:=fun e=>h2.2.2 (e▸hfvo);clear gm2 gr2 gt2 rg2 rm2 hcb2 hbf2 hbb2 k3;rw[hfv] at gm3;have rm3:=ae gm3;simp(disch:=omega) only[ai,↓ah,seval,CR];refine NItem.seqC (NItem.region sb (pre:=[_,_,_,_]) (post:=[]) hg14 rfl (R:=CE AM fb 138 2 M.fa H3) ?_);rw[rY Ix htm3,t0,t2,t3];simp(disch:=omega) only[ai,↓ah,seval,CR,rm3,ak,SV.iv];refine⟨_,_,rfl,rfl,fun o ho=>?_,fun v H4 hv=>?_⟩
 ·obtain⟨pf,body,q1,q2,q3⟩:=Pw Y3;exact NOp.call ho q1 q2 q3 (IM hfb gf3 hfa)
 obtain⟨_,fa',hp',_,hn4,hk4,hfb4⟩:=hv;have hla':fa'.length=M.fa.length:=hp'.length_eq;simp(disch:=omega) only[ai,↓ah,seval,CR];refine⟨_,rfl,?_⟩;have gm4:=(hk4 mb (Ne.symm hfm)).trans gm3;have gr4:=(hk4 rb hfr).trans gr3;have hcb4:=(hk4 cb hfc).trans hcb3;have kO4:KeepO (cb::ow) H3 H4:=⟨Nat.le_of_eq hn4.symm,fun x _ hx=>hk4 x fun e=>hx (by rw[e];exact List.mem_cons_of_mem _ hfvo)⟩;have hbf4:=(hbf3.keep kO4.off').unoff;have hbb4:=(hbb3.keep kO4.off').unoff;have sc4:Sl H4 (.sl cb 0 l'.length l'.length true) l':=(Own.mk' (by omega) Es hcb4 rfl).sl true;have sf4:Sl H4 (.sl fb 0 fa'.length fa'.length fx) fa':=(Own.mk' (by have:=ofb.2.1;omega) kJ hfb4 rfl).sl fx;rw[hla'] at sf4;refine ik sb hr5 ?_;refine F0 (l:=l') (fv:=.sl fb 0 M.fa.length M.fa.length fx) (fa:=fa') gm4 h.bv h.rk hbf4 hbb4 sc4 (by omega) sf4 (by omega) gr4 rfl hmr h1.1 (by omega) (by omega) rfl rfl rfl (by rw[hll'];rfl) fun H5 Iw c1 c2 c3 hl5 h25 hg5=>?_;have r5:=ae hg5;refine⟨.jmp .ret,⟨Iw,[]⟩,rfl,(fun id e=>by cases e),rfl,[.int .i64 M.rack,L.f.iv,L.b.iv,.slice L.yb 0 6 6 true,.slice L.tb 0 6 6 true,.slice c1 0 l'.length l'.length true,.slice c2 0 (bJ (aN M.t) (aG M.t) M.rack).length (bJ (aN M.t) (aG M.t) M.rack).length true,.slice c3 0 fa'.length fa'.length true],?_,?_,?_⟩
 ·show au H5 Iw [(2,some (some 8))]=_
  simp only[au,gq,h25,r5,ak];rfl
 ·simp only[List.all_cons,List.all_nil,Qz,Bool.and_true,Bool.true_and];rfl
 ·simp only[List.map_cons,List.map_nil,R1,sQ,hla',hll',hl]
theorem Px{α:Type}(f:α→Nat)(s:Nat):∀(l:List α),(l.map f).Nodup→s∈l.map f→(l.filter fun x=>f x !=s).length+1=l.length
 | [],_,h=>by cases h
 | x::l,hn,h=>by
   rw[List.map_cons,List.nodup_cons] at hn;rw[List.filter_cons];by_cases hx:f x=s
   ·rw[if_neg (by simp[hx])]
    have:l.filter (fun x=>f x !=s)=l:=by
     rw[List.filter_eq_self];intro a ha
     have:f a≠s:=fun e=>hn.1 (by rw[hx,←e];exact List.mem_map_of_mem ha)
     simpa using this
    rw[this];rfl
   ·rw[if_pos (by simp[hx]),List.length_cons,List.length_cons];rw[List.map_cons,List.mem_cons] at h;rcases h with h | h
    ·exact absurd h.symm hx
    ·rw[Px f s l hn.2 h]
def lf(es:List (IV×IV×Nat))(seen:List Nat):List (IV×IV×Nat):=es.filter fun e=>!seen.contains e.2.2
theorem DN(es:List (IV×IV×Nat))(seen:List Nat)(s:Nat):lf es (seen++[s])=(lf es seen).filter fun e=>e.2.2 !=s:=by
 unfold lf;rw[List.filter_filter];congr 1
 funext e
 rw[List.contains_eq_any_beq,List.contains_eq_any_beq,List.any_append];simp only[List.any_cons,List.any_nil,Bool.or_false,Bool.not_or];rw[Bool.and_comm];congr 1
theorem GS{es:List (IV×IV×Nat)}{seen:List Nat}{s:Nat}(hn:(es.map (·.2.2)).Nodup)(h:∃e∈es,e.2.2=s)(hs:s∉seen):(lf es (seen++[s])).length+1=(lf es seen).length:=by
 rw[DN];refine Px (fun e:IV×IV×Nat=>e.2.2) s _ (hn.sublist ((List.filter_sublist).map _)) ?_;obtain⟨e,he,rfl⟩:=h;exact List.mem_map.2 ⟨e,List.mem_filter.2 ⟨he,by simpa using hs⟩,rfl⟩
theorem JQ{H:Heap}{r b c lo:Nat}{seen:List Nat}{es:List (IV×IV×Nat)}(hg:H.get r=some (.iter (some b) c seen c))(hm:H.get b=some (.map es c))(hb:BornOk es c)(hl:lf es seen=[])(hlo:lo≤r):
  ev1 .nextM [.ptr r 0] lo H=some (.tuple [.bool false],H):=by
 have hc:¬(seen≠[]∧es≠[]∧(es.all fun e=>decide (c≤e.2.2))=true):=by
  rintro⟨_,h2,h3⟩
  cases es with
  | nil=>exact h2 rfl
  | cons e es=>
    have:=hb.1 e.2.2 (by simp)
    simp only[List.all_cons,Bool.and_eq_true,decide_eq_true_eq] at h3;omega
 have hl:(es.filter fun e=>!seen.contains e.2.2)=[]:=hl;simp only[ev1,if_pos hlo,Go.Iso.stepM,hg,az,hm];rw[if_neg hc,hl];rfl
theorem KB{H:Heap}{r b c s lo:Nat}{seen:List Nat}{es:List (IV×IV×Nat)}{cr:List (Id×Id×Int)}(hg:H.get r=some (.iter (some b) c (seen++[s]) c))(hm:H.get b=some (.map es c))(hmap:es.map (fun e=>(e.1,e.2.1))=cr.map fun k=>(Hk k.1 k.2.1,.int .i64 k.2.2))(he:∃e∈es,e.2.2=s):
  ∃x:Crs,ev1 .entryM [.ptr r 0] lo H=some (.tuple [.agg [.int .u8 x.a.y,.int .i64 x.a.n,.int .u8 x.b.y,.int .i64 x.b.n],.int .i64 x.n],H):=by
 obtain⟨e,hf⟩:∃e,(es.find? fun e=>e.2.2==s)=some e:=by
  cases hf:es.find? fun e=>e.2.2==s with
  | some e=>exact⟨e,rfl⟩
  | none=>
    obtain⟨e,he,hs⟩:=he
    have:=List.find?_eq_none.1 hf e he
    simp[hs] at this
 have hin:=List.mem_of_find?_eq_some hf
 have:(e.1,e.2.1)∈es.map (fun e=>(e.1,e.2.1)):=List.mem_map.2 ⟨e,hin,rfl⟩
 rw[hmap] at this;obtain⟨k,_,hk⟩:=List.mem_map.1 this;injection hk with h1 h2;refine⟨⟨k.1,k.2.1,k.2.2⟩,?_⟩;simp only[ev1,wk,hg,List.getLast?_append,List.getLast?_singleton,Option.some_or,az,hm,if_true,hf,Option.map_some,←h1,←h2];rfl
def SI(mb cm c:Nat)(es:List (IV×IV×Nat))(rb:Nat)(H1:Heap)(m:Nat)(fr:Fr)(H':Heap):Prop:=
 ∃(seen:List Nat) (done:List Crs),m=(lf es seen).length∧done.length+m=es.length∧KeepO [rb+1,rb+2] H1 H'∧Own H' (rb+1) 149 es.length done∧
  H'.get (rb+2)=some (.iter (some cm) c seen c)∧fr.marks=[]∧fr.tm.length=95∧fr.tm.getD 0 IV.undef=.ptr mb 0∧fr.tm.getD 2 IV.undef=.ptr rb 0∧fr.tm.getD 3 IV.undef=.slice (rb+1) 0 done.length es.length true∧fr.tm.getD 19 IV.undef=.ptr (rb+2) 0
theorem QE{n0 mb cm c rb:Nat}{es:List (IV×IV×Nat)}{cr:List (Id×Id×Int)}{H1:Heap}(hm1:H1.get cm=some (.map es c))(hb:BornOk es c)(hmap:es.map (fun e=>(e.1,e.2.1))=cr.map fun k=>(Hk k.1 k.2.1,.int .i64 k.2.2))
  (hcm:cm < rb) (hn1:H1.n=rb+3) (hn0:n0≤rb) (hes:es.length≤1000000) {cl:Code} (hcl:aK Tryz.prog cl=some Lt) (hd:iQ [0] cl=some false) {m:Nat} {fr:Fr} {H':Heap} (hI:SI mb cm c es rb H1 m fr H') {Q:Out→Heap→Prop}
  (hq:∀fr' H',SI mb cm c es rb H1 0 fr' H'→Q (.ex (.jmp (.exit 0)) fr') H'):
  NItem Tryz.prog 1 n0 (.code cl) none fr H' fun o H''=>match o with
   | .ex .normal fr'=>∃m',m' < m∧SI mb cm c es rb H1 m' fr' H''
   | o=>Q o H'':=by
 obtain⟨tm,mk⟩:=fr;obtain⟨seen,done,hm,hdl,hk,hO,hit,rfl,htm,t0,t2,t3,t19⟩:=hI;have hn':=hk.1;have hgm:=(hk.2 cm (by omega) (by simp;omega)).trans hm1;by_cases h0:m=0
 ·subst h0;have hl:lf es seen=[]:=List.length_eq_zero_iff.1 hm.symm;have hne:=JQ (lo:=n0) hit hgm hb hl (by omega);refine ik sb hcl ?_;rw[rY tm htm,t0,t2,t3,t19];simp(disch:=omega) only[ai,↓ah,seval,Pc,↓hne,↓FR,FW];exact hq _ _ ⟨seen,done,hm,hdl,hk,hO,hit,rfl,rfl,rfl,rfl,rfl,rfl⟩
 ·obtain⟨c3,rr,rfl,hc3,hrr⟩:=fi hcl;obtain⟨i3,o3,d3,rfl,hg3⟩:=sg hc3;have e3:d3=false:=Option.some.inj hd;subst e3
  have hex:∃e∈es,e.2.2∉seen:=by
   have hpos:0 < (lf es seen).length:=by omega
   obtain⟨e,he⟩:=List.exists_mem_of_length_pos hpos;obtain⟨h1,h2⟩:=List.mem_filter.1 he;exact⟨e,h1,by simpa using h2⟩
  refine NItem.seqC (NItem.region sb (pre:=[]) (post:=[_]) hg3 rfl (R:=fun v H2=>∃k x s,(k,x,s)∈es∧s∉seen∧v=.tuple [.bool true,k,x]∧H2=H'.put (rb+2) (.iter (some cm) c (seen++[s]) c)) ?_);rw[rY tm htm,t0,t2,t3,t19];simp(disch:=omega) only[ai,↓ah,seval,CR];refine⟨_,_,rfl,rfl,fun o ho=>?_,fun v H2 hv=>?_⟩
  ·exact NOp.next ho hit (by simp only[az,hgm]) (by omega) (fun e he=>hb.1 _ (List.mem_map.2 ⟨e,he,rfl⟩)) (fun e he=>hb.1 _ (List.mem_map.2 ⟨e,he,rfl⟩)) hex
  obtain⟨k0,x0,s,hin,hns,rfl,hH2⟩:=hv;simp(disch:=omega) only[ai,↓ah,seval,CR];refine⟨_,rfl,?_⟩;have hn2:H2.n=H'.n:=by rw[hH2];rfl
  have kO2:KeepO [rb+1,rb+2] H' H2:=by rw[hH2];exact KeepO.put (by simp)
  have hit2:H2.get (rb+2)=some (.iter (some cm) c (seen++[s]) c):=by rw[hH2,aa,if_pos rfl]
  have hO2:=hO.keepO (H':=H2) (ow:=[rb+2]) (by rw[hH2];exact KeepO.put (by simp)) (by simp);have hgm2:=(kO2.2 cm (by omega) (by simp;omega)).trans hgm;clear hH2;have hsl:=GS hb.2 ⟨_,hin,rfl⟩ hns;have hsl:(lf es (seen++[s])).length+1=(lf es seen).length:=hsl;obtain⟨x,hx⟩:=KB (lo:=n0) hit2 hgm2 hmap ⟨_,hin,rfl⟩;have hn1':H1.n≤H2.n:=by omega
  obtain⟨HK,hHK⟩:∃HK,HK=(H2.new (.cells false 150 4 [.int .u8 0,.int .i64 0,.int .u8 0,.int .i64 0])).put H2.n (.cells false 150 4 [.int .u8 x.a.y,.int .i64 x.a.n,.int .u8 x.b.y,.int .i64 x.b.n]):=⟨_,rfl⟩
  have kHK:Keep H2.n H2 HK:=by rw[hHK];exact Keep.newPut
  have nHK:HK.n=H2.n+1:=by rw[hHK];rfl
  have hO4:=(hO2.keep kHK).keep (Keep.new HK (.cells false 149 5 (Cell.cs x)));have hu:=(oN (H:=HK) (e:=149) Es x).sl true;rw[nHK] at hu;obtain⟨H6,e6,n6,k6,o6⟩:=ca (ex:=true) hO4 hu Es 40 n0 (by simp;omega) (by omega)
  have k26:KeepO [rb+1,rb+2] H2 H6:=⟨by rw[n6,ac,nHK];omega,fun y h1 h2=>by
   have h3:y≠rb+1:=fun e=>h2 (by simp[e]);rw[k6 y h3,(Keep.new (lo:=HK.n) HK _).2 y (by omega) (by omega)];exact kHK.2 y h1 h1⟩
  have hit6:H6.get (rb+2)=some (.iter (some cm) c (seen++[s]) c):=by
   rw[k6 (rb+2) (by omega),(Keep.new (lo:=HK.n) HK _).2 (rb+2) (by omega) (by omega),kHK.2 (rb+2) (by omega) (by omega)];exact hit2
  rw[hHK,KM] at e6;have e6:ev1 (.append 149 5 40) [.slice (rb+1) 0 done.length es.length true,.slice (H2.n+1) 0 1 1 true] n0 _=some (.slice (rb+1) 0 (done.length+1) es.length true,H6):=e6;refine ik sb hrr ?_;simp(disch:=omega) only[ai,↓ah,seval,CR,↓hx,↓e6,ak,↓FR,FW];exact⟨m - 1,by omega,seen++[s],done++[x],by omega,by rw[List.length_append];simp;omega,(hk.trans kO2 fun y hy=>.inl hy).trans k26 fun y hy=>.inl hy,o6,hit6,rfl,rfl,rfl,rfl,by rw[List.length_append];rfl,rfl⟩
theorem yq{α:Type}[Cell α]{H H':Heap}{ow:List Nat}{v:SV}{ls:List (List α)}(h:Sl2 (H.off ow) v ls){b:Nat}(k:KeepO ow H H')(hb:H.n≤b):Sl2 (H'.off (b::ow)) v ls:=
 h.keep (k.off (fun x hx=>List.mem_cons_of_mem _ hx) fun x hx=>by
  rcases List.mem_cons.1 hx with rfl | hx
  ·exact .inr hb
  ·exact .inl hx)
theorem FZ{n0 mb:Nat}{H:Heap}{ow:List Nat}{L:Ly}{M:Mc}(h:MI n0 mb H ow L M)(hn0:1≤n0)(hn:n0≤H.n)(hrl:∀x∈L.rl,x.length≤1000000)(hfa:M.fa.length≤1000000)(hcr:M.cr.length≤1000000):
  CallSim Tryz.prog 1 31 [.ptr mb 0] n0 H (.agg (R1 mb L M)) (bz n0 H):=by
 have hlm:=h.lo _ h.om;obtain⟨es,c,hgm,hmap,hb⟩:=h.gc;have hcl:=h.lo _ h.oc;have hle:es.length=M.cr.length:=by have:=congrArg List.length hmap;simpa using this
 refine Hn US hn0 hlm.1 hlm.2 fun pf cd hf hbd hcc=>?_;have d3:iQ [1,1,0,1,0,0,0] cd=some false:=by have:=dr3;rw[hf] at this;simpa [hbd] using this
 have d7:iQ [1,1,1,0] cd=some false:=by have:=dr7;rw[hf] at this;simpa [hbd] using this
 have d14:iQ [1,1,1,1,1,0] cd=some false:=by have:=W6;rw[hf] at this;simpa [hbd] using this
 obtain⟨c0,r0,rfl,hc0,hr0⟩:=fi hcc;obtain⟨c1,r1,rfl,hc1,hr1⟩:=fi hr0;obtain⟨cA,r2,rfl,hcA,hr2⟩:=fi hr1;obtain⟨c2,cB,rfl,hc2,hcB⟩:=fi hcA;obtain⟨cL,rfl,hcL⟩:=Cm hcB;obtain⟨cl,rfl,hcl2⟩:=D5 hcL;have d3:iQ [0] cl=some false:=d3;have d7:iQ [0] r2=some false:=d7;have d14:iQ [1,1,0] r2=some false:=d14
 show NItem Tryz.prog 1 n0 _ none _ H (FQ mb L M)
 have rm:=ae h.gm;refine NItem.seqC (ik sb hc0 ?_);simp(disch:=omega) only[ai,↓ah,seval,CR,show(⟨95,[(2,some (some 8))],RC⟩:IFn).ntmps=95 from rfl];refine NItem.seqC (ik sb hc1 ?_);simp(disch:=omega) only[ai,↓ah,seval,CR,rm,hgm,az,ak,show ¬H.n=mb by omega,show ¬H.n=L.cb by omega,Int.reducePow,↓FR,FW];refine NItem.seqC (NItem.seqC (ik sb hc2 ?_));simp(disch:=omega) only[ai,↓ah,seval,CR,rm,hgm,az,ak,show ¬H.n=mb by omega,show ¬H.n=L.cb by omega,show ¬H.n+1=mb by omega,show ¬H.n+1=L.cb by omega,↓FR,FW];generalize hH_H1:Heap.new _ _=H1;have hnH1:H1.n=H.n+3:=by rw[←hH_H1];rfl
 have gr:=congrArg (fun h0=>Heap.get h0 (H.n)) hH_H1.symm;simp(disch:=omega) only[ai,↓ah,seval] at gr;have gc1:=congrArg (fun h0=>Heap.get h0 (H.n+1)) hH_H1.symm;simp(disch:=omega) only[ai,↓ah,seval] at gc1;have gi:=congrArg (fun h0=>Heap.get h0 (H.n+2)) hH_H1.symm;simp(disch:=omega) only[ai,↓ah,seval] at gi
 have kH1:Keep H.n H H1:=⟨by omega,fun x hx _=>by
  have gx:=congrArg (fun h0=>Heap.get h0 x) hH_H1.symm;simp(disch:=omega) only[ai,↓ah,seval] at gx;exact gx⟩
 clear hH_H1;clear rm;have hO1:Own H1 (H.n+1) 149 es.length ([]:List Crs):=⟨Nat.zero_le _,by omega,_,by rw[gc1];rfl,by rw[gX];rfl⟩;have hl0:lf es []=es:=by unfold lf;rw[List.filter_eq_self];intro a _;rfl
 have hgm1:=(kH1.2 L.cb hcl.2 hcl.2).trans hgm;refine AC (NItem.loopC (SI mb L.cb c es H.n H1) es.length ⟨[],[],by rw[hl0],by simp,KeepO.refl _ _,hO1,gi,rfl,rfl,rfl,rfl,rfl,rfl⟩ fun m fr H' hI=>QE hgm1 hb hmap hcl.2 hnH1 hn (by omega) hcl2 d3 hI fun fr' H' hI0=>?_);obtain⟨tm,mk⟩:=fr';obtain⟨seen,done,_,hdl,hk,hO,_,rfl,htm,t0,t2,t3,_⟩:=hI0;have hdl:done.length=es.length:=by omega
 have hn':=hk.1;have k0:Keep H.n H H':=⟨by omega,fun x h1 h2=>(hk.2 x (by omega) (by simp;omega)).trans (kH1.2 x h1 h2)⟩
 have hcb:H'.get (H.n+1)=some (.cells false 149 5 (aB done)):=by
  rw[←hdl] at hO
  have:=hO.full
  rw[Es] at this;exact this
 have hrb:=(hk.2 H.n (by omega) (by simp)).trans gr;have hx:∀x,H.n≤x→x∉ow:=fun x hx hxo=>by have:=(h.lo _ hxo).2;omega
 rw[←hdl] at t3;exact QD (h.keep k0) hrl hfa (hdl.trans hle) (by omega) hrb hcb (yq h.bf (KeepO.of k0) (by omega)) (yq h.bb (KeepO.of k0) (by omega)) ⟨hn,by omega,hx _ (Nat.le_refl _)⟩ ⟨by omega,by omega,hx _ (by omega)⟩ (by omega) htm t0 t2 t3 hr2 d7 d14
theorem oI(i:Nat)(M:Mc)(o:Opn)(l:List Opn):ql i M (o::l)=match NK M o with
 | .error e=>.error (i,e)
 | .ok M'=>ql (i+1) M' l:=rfl
theorem Kt(mb:Nat)(L:Ly)(M:Mc):xR 8 (.agg (R1 mb L M)):=by
 refine⟨_,rfl,rfl,?_⟩
 have h:∀v:SV,IV.one (sQ mb v.iv)=true:=fun v=>by cases v<;>rfl
 simp only[R1,List.all_cons,List.all_nil,h,Bool.and_true,Bool.true_and];rfl
theorem Dl{yb tb ey et:Nat}{v:SV}{l:List Opn}{H:Heap}(ht:Tabs tabs H)(hy:H.get yb=some (.cells false ey 5 zy6))(hte:H.get tb=some (.cells false et 1 nil6))(hlt:tb < H.n)(hlt':yb < H.n)(hv:Sl H v l)(hl:l.length≤100){lo:Nat}{Q:Out→Heap→Prop}(hlo:lo≤H.n)
  (hq:∀H' cs,Keep H.n H H'→cs.length=8→cs.all IV.one=true→Q (.val (.tuple [.agg cs,.int .i64 (Ji l),.int .i64 (jN l)])) H'):
  W E0 lo (.call 8 [.agg [.int .i64 0,.nilSlice,.nilSlice,.slice yb 0 6 6 true,.slice tb 0 6 6 true,.nilSlice,.nilSlice,.nilSlice],v.iv]) H Q:=by
 refine W.pure aX hlo ?_;rw[c8];simp(disch:=omega) only[ai,↓ah,seval,B8,↓hv.ln,ak,↓FR,FW];generalize hH_H1:Heap.new _ _=H1;have hnH1:H1.n=H.n+2:=by rw[←hH_H1];rfl
 have g0:=congrArg (fun h0=>Heap.get h0 (H.n)) hH_H1.symm;simp(disch:=omega) only[ai,↓ah,seval] at g0;have g1:=congrArg (fun h0=>Heap.get h0 (H.n+1)) hH_H1.symm;simp(disch:=omega) only[ai,↓ah,seval] at g1
 have kH1:Keep H.n H H1:=⟨by omega,fun x hx _=>by
  have gx:=congrArg (fun h0=>Heap.get h0 x) hH_H1.symm;simp(disch:=omega) only[ai,↓ah,seval] at gx;exact gx⟩
 clear hH_H1;have hy1:=(kH1.2 yb hlt' hlt').trans hy;have ht1:=(kH1.2 tb hlt hlt).trans hte;refine Nd hy1 ht1 (by omega) (by omega) (by omega) fun H2 k2=>?_;have hn2:=k2.1;have kk2:Keep H.n H H2:=kH1.trans (k2.lower (by omega));have hy2:=(kk2.2 yb hlt' hlt').trans hy;have ht2:=(kk2.2 tb hlt hlt).trans hte;have g02:=(k2.2 H.n (by omega) (by omega)).trans g0;have g12:=(k2.2 (H.n+1) (by omega) (by omega)).trans g1;have r02:=ae g02;clear hy1 ht1 g0 g1;simp(disch:=omega) only[ai,↓ah,seval,B8,r02,ak,↓FR,FW];refine M8 hy2 ht2 (by omega) (by omega) (by omega) fun H3 k3 hM=>?_;have hn3:=k3.1;obtain⟨n0,hn0⟩:∃n0,n0=H2.n:=⟨_,rfl⟩;rw[←hn0] at hM;obtain⟨mb,hmb⟩:∃mb,mb=n0+19:=⟨_,rfl⟩;rw[←hmb] at hM;simp(disch:=omega) only[ai,↓ah,seval,B8,↓FR,FW];refine Eh (by omega) fun H4 k4 hab hab'=>?_;have hn4:=k4.1;obtain⟨ab,hab0⟩:∃ab,ab=H3.n:=⟨_,rfl⟩;rw[←hab0] at hab hab';rw[show H2.n+19=mb by omega,←hab0];have hM4:=hM.keep k4;have kk4:Keep H.n H H4:=kk2.trans ((k3.lower (by omega)).trans (k4.lower (by omega)));have g14:=(k4.2 (H.n+1) (by omega) (by omega)).trans ((k3.2 (H.n+1) (by omega) (by omega)).trans g12);have ht4:=ht.keep' kk4;have hv4:=hv.keep kk4;have hown:∀x∈E9 n0,n0≤x∧x < H3.n:=fun x hx=>hM.lo x hx;clear hM g02 g12 r02 hy2 ht2;simp(disch:=omega) only[ai,↓ah,seval,B8,↓hv4.ln,↓FR,FW]
 refine aM (fun k fr H'=>∃(i:Nat) (ow':List Nat) (L':Ly) (M':Mc),i+k=l.length∧KeepO (E9 n0) H4 H'∧(∀x∈E9 n0,x∈ow')∧(∀x∈ow',x∈E9 n0∨H4.n≤x)∧MI n0 mb H' ow' L' M'∧MOk i M'∧ql 0 M0 l=ql i M' (l.drop i)∧fr.marks=[]∧fr.tm.length=47∧fr.tm.getD 1 IV.undef=v.iv∧fr.tm.getD 4 IV.undef=.ptr (H.n+1) 0∧fr.tm.getD 8 IV.undef=.ptr mb 0∧fr.tm.getD 9 IV.undef=.map ab∧fr.tm.getD 26 IV.undef=v.iv∧fr.tm.getD 27 IV.undef=.int .i64 l.length∧fr.tm.getD 28 IV.undef=.int .i64 i) ?_ l.length
  ⟨0,E9 n0,L0 n0,M0,by omega,KeepO.refl _ _,fun _ hx=>hx,fun _ hx=>.inl hx,hM4,S7,rfl,rfl,rfl,rfl,rfl,rfl,rfl,rfl,rfl,rfl⟩
 rintro k ⟨tm,mk⟩ H' ⟨i,ow',L',M',hik,hk,ha,hb,hM,hok,hrun,rfl,htm,t1,t4,t8,t9,t26,t27,t28⟩ L1 hN hJ;have hn':=hk.1;have hv':Sl H' v l:=hv.keep ⟨by omega,fun x h1 h2=>(hk.2 x (by omega) fun hx=>by have:=(hown x hx).1;omega).trans (kk4.2 x h1 h2)⟩;have hab2:=(hk.2 ab (by omega) fun hx=>by have:=(hown ab hx).2;omega).trans hab;have ht':Tabs tabs H':=ht4.keep hn' fun x hx=>hk.2 x (by have:=ht4.1;omega) fun hxo=>by have:=(hown x hxo).1;have:=ht.1;omega
 have g1':=(hk.2 (H.n+1) (by omega) fun hx=>by have:=(hown _ hx).1;omega).trans g14;rw[Q0 tm htm,t1,t4,t8,t9,t26,t27,t28];by_cases hi:i < l.length
 ·have r1:=hv'.read jP i hi;have hdr:l.drop i=l[i]::l.drop (i+1):=List.drop_eq_getElem_cons hi;simp(disch:=omega) only[ai,↓ah,seval,Uv,↓hv'.idx,r1,An,ak,↓FR,FW];have kN:Keep H'.n H' ((H'.new (.cells false 56 6 [.int .u8 0,.int .u8 0,.int .u8 0,.int .i64 0,.int .u8 0,.int .i64 0])).put H'.n (.cells false 56 6 [.int .u8 l[i].k,.int .u8 l[i].d,.int .u8 l[i].b,.int .i64 l[i].a,.int .u8 l[i].y,.int .i64 l[i].r])):=Keep.newPut;have hfa:=hok.fa;refine SE (hM.keep kN) (ht'.keep' kN) (by have:=ht.1;omega) hok.cr hok.rows (by omega) ((kN.2 ab (by omega) (by omega)).trans hab2) (by omega) (by rw[af,ac];omega) (by rw[af,ac];omega) ⟨fun e H5 he5 k5=>?_,fun M5 H5 ow5 L5 he5 k5 ha5 hb5 hM5=>?_⟩
  ·have hz:=Fo he5;have hre:ql 0 M0 l=.error (i,e):=by rw[hrun,hdr,oI,he5]
   have e1:jN l=e:=by unfold jN;rw[hre]
   have e2:Ji l=i:=by unfold Ji;rw[hre]
   have hx1:H.n+1∉ow':=fun hx=>by rcases hb _ hx with h | h;have:=(hown _ h).1;omega;omega
   have g15:=(k5.2 (H.n+1) (by rw[af,ac];omega) hx1).trans ((kN.2 (H.n+1) (by omega) (by omega)).trans g1');have hn5:=k5.1;rw[af,ac] at hn5;have kall:Keep H.n H H5:=⟨by omega,fun x h1 h2=>(k5.2 x (by rw[af,ac];omega) fun hx=>by rcases hb _ hx with h | h;have:=(hown _ h).1;omega;omega).trans ((kN.2 x (by omega) (by omega)).trans ((hk.2 x (by omega) fun hx=>by have:=(hown x hx).1;omega).trans (kk4.2 x h1 h2)))⟩;simp(disch:=omega) only[ai,↓ah,seval,Uv,hJ,g15,ak,↓FR,FW];rw[←e1,←e2];intro hkk;exact hq _ _ hkk rfl rfl
  ·have hre:ql 0 M0 l=ql (i+1) M5 (l.drop (i+1)):=by rw[hrun,hdr,oI,he5]
   simp(disch:=omega) only[ai,↓ah,seval,Uv,↓FR,FW]
   exact hN (k - 1) _ _ (by omega) ⟨i+1,ow5,L5,M5,by omega,(hk.trans (KeepO.of (ow:=ow') kN) hb).trans k5 hb,fun x hx=>ha5 x (ha x hx),fun x hx=>by
    rcases hb5 x hx with h | h
    ·exact hb x h
    ·right;rw[af,ac] at h;omega,hM5,Rc hok hM.bv he5,hre,rfl,rfl,rfl,rfl,rfl,rfl,rfl,rfl,rfl⟩
 ·have hre:ql 0 M0 l=.ok M':=by rw[hrun,List.drop_of_length_le (by omega)];rfl
  have e1:jN l=0:=by unfold jN;rw[hre]
  have e2:Ji l=l.length:=by unfold Ji;rw[hre]
  have hin:i=l.length:=by omega
  have hrm:L'.rl.flatten.length=M'.rows.flatten.length:=by rw[←hM.rm,←List.map_flatten,List.length_map]
  have hrl:∀x∈L'.rl,x.length≤1000000:=fun x hx=>by
   obtain⟨j,hj,rfl⟩:=List.mem_iff_getElem.1 hx;have h1:=rA L'.rl j hj;have h2:=lJ L'.rl (j+1);have h3:=hok.rows;omega
  have hfa:=hok.fa;have hcr:=hok.crl;have hs:=FZ hM (by have:=ht.1;have:tabs.length=1:=rfl;omega) (by omega) hrl (by omega) (by omega);simp(disch:=omega) only[ai,↓ah,seval,Uv,hJ,hin,↓hv'.ln,↓FR,FW];refine c31 (by omega) (by omega) (Kt mb L' M') hs fun l0 v8 h1 h2 hgv=>?_;obtain⟨cs,rfl,hcs,hone⟩:=hgv;have kK:=pm H' h1;have gK:=(kK.2 (H.n+1) (by omega) (by omega)).trans g1';have nK:=jC l0 H'
  obtain⟨a1,a2,a3,a4,a5,a6,a7,a8,rfl⟩:∃a b c d e f g h,cs=[a,b,c,d,e,f,g,h]:=by
   match cs,hcs with
   | [a,b,c,d,e,f,g,h],_=>exact⟨a,b,c,d,e,f,g,h,rfl⟩
  simp only[List.all_cons,List.all_nil,Bool.and_true,Bool.and_eq_true] at hone;obtain⟨o1,o2,o3,o4,o5,o6,o7,o8⟩:=hone;have hv6:=hv'.ln;simp(disch:=omega) only[ai,↓ah,seval,B8,↓hv6,gK,o1,o2,o3,o4,o5,o6,o7,o8,ak,↓FR,FW];rw[←e1,←e2];intro hkk;exact hq _ _ hkk rfl (by simp only[List.all_cons,List.all_nil,o1,o2,o3,o4,o5,o6,o7,o8,Bool.and_self])
theorem xx:∀(l:List Opn) (i:Nat) (M M':Mc),ql i M l=.ok M'→∀o∈l,zH o=0
 | [],_,_,_,_,o,ho=>by cases ho
 | p::l,i,M,M',h,o,ho=>by
   rw[oI] at h;split at h
   ·cases h
   ·rename_i M1 h1;rcases List.mem_cons.1 ho with rfl | ho
    ·unfold NK at h1;split at h1
     ·cases h1
     ·rename_i h2;exact Decidable.not_not.1 h2
    ·exact xx l _ _ _ h o ho
theorem Bd:∀(l:List Opn) (i:Nat) (M:Mc) (j:Nat) (e:Int),ql i M l=.error (j,e)→¬e=0
 | [],_,_,_,_,h=>by cases h
 | p::l,i,M,j,e,h=>by
   rw[oI] at h;split at h
   ·rename_i e1 h1;injection h with h;injection h with h2 h3;subst h3;exact Fo h1
   ·exact Bd l _ _ j e h
theorem xy{l:List Opn}(h:jN l=0):∀o∈l,zH o=0:=by
 unfold jN at h
 cases hr:ql 0 M0 l with
 | error e=>
   obtain⟨i,e⟩:=e;rw[hr] at h;have h:e=0:=h;exact absurd h (Bd l 0 M0 _ e hr)
 | ok M'=>exact xx l 0 M0 M' hr
end Go.Iso.Gen
end
