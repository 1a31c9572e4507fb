/-
  what is told of programs.
-/
import Derived.Test.YtpnbiapmndbhgaaGreatDoorEnv
import Derived.Test.YtpnbiapmndbhgaaGreatDoorFnUb
import Derived.Test.YtpnbiapmndbhgaaGreatDoorIsoP7
set_option linter.unusedSimpArgs false
set_option linter.unusedVariables false
set_option maxHeartbeats 4000000
set_option maxRecDepth 10000
set_option linter.defProp false
namespace Go.Iso.Gen
open Go.Proofs Go.Shelf
def E9:Ren:=⟨fun | 6=>78 | 15=>133 | 14=>132 | 28=>173 | 29=>174 | 20=>165 | 21=>166 | 22=>167 | 23=>168 | 24=>169 | 25=>170 | 26=>171 | 27=>172 | 46=>201 | 47=>202 | 48=>203 | 49=>204 | 50=>205 | 57=>215 | n=>n,fun | 22=>30 | 24=>149 | 25=>155 | 3=>3 | 39=>169 | 0=>0 | 53=>49 | 55=>271 | 4=>4 | 46=>264 | 45=>263 | 50=>90 | 5=>5 | 9=>9 | 66=>289 | 70=>293 | 76=>302 | 77=>303 | n=>n,fun n=>n⟩
theorem ajH:SlLaysF0.n6 Tryz.prog E9 where
 mixed:=by kernel_rfl
 f6:=⟨Tryz.f78.name,by kernel_rfl,Tryz.func78.trans (congrArg some (by kernel_rfl))⟩
 f14:=⟨Tryz.f132.name,by kernel_rfl,Tryz.func132.trans (congrArg some (by kernel_rfl))⟩
 f15:=Tryz.func133.trans (congrArg some (by kernel_rfl))
 f20:=⟨Tryz.f165.name,by kernel_rfl,Tryz.func165.trans (congrArg some (by kernel_rfl))⟩
 f21:=⟨Tryz.f166.name,by kernel_rfl,Tryz.func166.trans (congrArg some (by kernel_rfl))⟩
 f22:=⟨Tryz.f167.name,by kernel_rfl,Tryz.func167.trans (congrArg some (by kernel_rfl))⟩
 f23:=⟨Tryz.f168.name,by kernel_rfl,Tryz.func168.trans (congrArg some (by kernel_rfl))⟩
 f24:=⟨Tryz.f169.name,by kernel_rfl,Tryz.func169.trans (congrArg some (by kernel_rfl))⟩
 f25:=⟨Tryz.f170.name,by kernel_rfl,Tryz.func170.trans (congrArg some (by kernel_rfl))⟩
 f26:=⟨Tryz.f171.name,by kernel_rfl,Tryz.func171.trans (congrArg some (by kernel_rfl))⟩
 f27:=⟨Tryz.f172.name,by kernel_rfl,Tryz.func172.trans (congrArg some (by kernel_rfl))⟩
 f28:=Tryz.func173.trans (congrArg some (by kernel_rfl))
 f29:=Tryz.func174.trans (congrArg some (by kernel_rfl))
 f46:=⟨Tryz.f201.name,by kernel_rfl,Tryz.func201.trans (congrArg some (by kernel_rfl))⟩
 f47:=Tryz.func202.trans (congrArg some (by kernel_rfl))
 f48:=Tryz.func203.trans (congrArg some (by kernel_rfl))
 f49:=⟨Tryz.f204.name,by kernel_rfl,Tryz.func204.trans (congrArg some (by kernel_rfl))⟩
 f50:=⟨Tryz.f205.name,by kernel_rfl,Tryz.func205.trans (congrArg some (by kernel_rfl))⟩
 f57:=⟨Tryz.f215.name,by kernel_rfl,Tryz.func215.trans (congrArg some (by kernel_rfl))⟩
 t0:=Tryz.underlying0
 a0:=Tryz.isAgg0
 z0:=Tryz.sizeOf0
 v0:=Tryz.zeroValue0
 t3:=Tryz.underlying3
 a3:=Tryz.isAgg3
 z3:=Tryz.sizeOf3
 v3:=Tryz.zeroValue3
 t4:=Tryz.underlying4
 a4:=Tryz.isAgg4
 z4:=Tryz.sizeOf4
 v4:=Tryz.zeroValue4
 t5:=Tryz.underlying5
 a5:=Tryz.isAgg5
 z5:=Tryz.sizeOf5
 v5:=Tryz.zeroValue5
 t9:=Tryz.underlying9
 a9:=Tryz.isAgg9
 z9:=Tryz.sizeOf9
 v9:=Tryz.zeroValue9
 t22:=Tryz.underlying30
 a22:=Tryz.isAgg30
 z22:=Tryz.sizeOf30
 v22:=Tryz.zeroValue30
 t25:=Tryz.underlying155
 a25:=Tryz.isAgg155
 z25:=Tryz.sizeOf155
 v25:=Tryz.zeroValue155
 t39:=Tryz.underlying169
 a39:=Tryz.isAgg169
 z39:=Tryz.sizeOf169
 v39:=Tryz.zeroValue169
 t45:=Tryz.underlying263
 a45:=Tryz.isAgg263
 z45:=Tryz.sizeOf263
 v45:=Tryz.zeroValue263
 t46:=Tryz.underlying264
 a46:=Tryz.isAgg264
 z46:=Tryz.sizeOf264
 v46:=Tryz.zeroValue264
 t50:=Tryz.underlying90
 a50:=Tryz.isAgg90
 z50:=Tryz.sizeOf90
 v50:=Tryz.zeroValue90
 t53:=Tryz.underlying49
 a53:=Tryz.isAgg49
 z53:=Tryz.sizeOf49
 v53:=Tryz.zeroValue49
 t55:=Tryz.underlying271
 a55:=Tryz.isAgg271
 z55:=Tryz.sizeOf271
 v55:=Tryz.zeroValue271
 t66:=Tryz.underlying289
 a66:=Tryz.isAgg289
 z66:=Tryz.sizeOf289
 v66:=Tryz.zeroValue289
 t70:=Tryz.underlying293
 a70:=Tryz.isAgg293
 z70:=Tryz.sizeOf293
 v70:=Tryz.zeroValue293
 t76:=Tryz.underlying302
 a76:=Tryz.isAgg302
 z76:=Tryz.sizeOf302
 v76:=Tryz.zeroValue302
 t77:=Tryz.underlying303
 a77:=Tryz.isAgg303
 z77:=Tryz.sizeOf303
 v77:=Tryz.zeroValue303
def E8:Ren:=⟨fun | 6=>82 | 15=>133 | 14=>137 | 28=>173 | 29=>174 | 20=>176 | 21=>177 | 22=>178 | 23=>179 | 24=>180 | 25=>181 | 26=>182 | 27=>183 | 46=>206 | 47=>202 | 48=>203 | 49=>207 | 50=>208 | 57=>216 | n=>n,fun | 22=>31 | 24=>138 | 25=>154 | 3=>3 | 39=>169 | 0=>0 | 53=>49 | 55=>271 | 4=>4 | 46=>264 | 45=>263 | 50=>90 | 5=>5 | 9=>9 | 66=>289 | 70=>293 | 76=>302 | 77=>303 | n=>n,fun n=>n⟩
theorem ajG:SlLaysF0.n6 Tryz.prog E8 where
 mixed:=by kernel_rfl
 f6:=⟨Tryz.f82.name,by kernel_rfl,Tryz.func82.trans (congrArg some (by kernel_rfl))⟩
 f14:=⟨Tryz.f137.name,by kernel_rfl,Tryz.func137.trans (congrArg some (by kernel_rfl))⟩
 f15:=Tryz.func133.trans (congrArg some (by kernel_rfl))
 f20:=⟨Tryz.f176.name,by kernel_rfl,Tryz.func176.trans (congrArg some (by kernel_rfl))⟩
 f21:=⟨Tryz.f177.name,by kernel_rfl,Tryz.func177.trans (congrArg some (by kernel_rfl))⟩
 f22:=⟨Tryz.f178.name,by kernel_rfl,Tryz.func178.trans (congrArg some (by kernel_rfl))⟩
 f23:=⟨Tryz.f179.name,by kernel_rfl,Tryz.func179.trans (congrArg some (by kernel_rfl))⟩
 f24:=⟨Tryz.f180.name,by kernel_rfl,Tryz.func180.trans (congrArg some (by kernel_rfl))⟩
 f25:=⟨Tryz.f181.name,by kernel_rfl,Tryz.func181.trans (congrArg some (by kernel_rfl))⟩
 f26:=⟨Tryz.f182.name,by kernel_rfl,Tryz.func182.trans (congrArg some (by kernel_rfl))⟩
 f27:=⟨Tryz.f183.name,by kernel_rfl,Tryz.func183.trans (congrArg some (by kernel_rfl))⟩
 f28:=Tryz.func173.trans (congrArg some (by kernel_rfl))
 f29:=Tryz.func174.trans (congrArg some (by kernel_rfl))
 f46:=⟨Tryz.f206.name,by kernel_rfl,Tryz.func206.trans (congrArg some (by kernel_rfl))⟩
 f47:=Tryz.func202.trans (congrArg some (by kernel_rfl))
 f48:=Tryz.func203.trans (congrArg some (by kernel_rfl))
 f49:=⟨Tryz.f207.name,by kernel_rfl,Tryz.func207.trans (congrArg some (by kernel_rfl))⟩
 f50:=⟨Tryz.f208.name,by kernel_rfl,Tryz.func208.trans (congrArg some (by kernel_rfl))⟩
 f57:=⟨Tryz.f216.name,by kernel_rfl,Tryz.func216.trans (congrArg some (by kernel_rfl))⟩
 t0:=Tryz.underlying0
 a0:=Tryz.isAgg0
 z0:=Tryz.sizeOf0
 v0:=Tryz.zeroValue0
 t3:=Tryz.underlying3
 a3:=Tryz.isAgg3
 z3:=Tryz.sizeOf3
 v3:=Tryz.zeroValue3
 t4:=Tryz.underlying4
 a4:=Tryz.isAgg4
 z4:=Tryz.sizeOf4
 v4:=Tryz.zeroValue4
 t5:=Tryz.underlying5
 a5:=Tryz.isAgg5
 z5:=Tryz.sizeOf5
 v5:=Tryz.zeroValue5
 t9:=Tryz.underlying9
 a9:=Tryz.isAgg9
 z9:=Tryz.sizeOf9
 v9:=Tryz.zeroValue9
 t22:=Tryz.underlying31
 a22:=Tryz.isAgg31
 z22:=Tryz.sizeOf31
 v22:=Tryz.zeroValue31
 t25:=Tryz.underlying154
 a25:=Tryz.isAgg154
 z25:=Tryz.sizeOf154
 v25:=Tryz.zeroValue154
 t39:=Tryz.underlying169
 a39:=Tryz.isAgg169
 z39:=Tryz.sizeOf169
 v39:=Tryz.zeroValue169
 t45:=Tryz.underlying263
 a45:=Tryz.isAgg263
 z45:=Tryz.sizeOf263
 v45:=Tryz.zeroValue263
 t46:=Tryz.underlying264
 a46:=Tryz.isAgg264
 z46:=Tryz.sizeOf264
 v46:=Tryz.zeroValue264
 t50:=Tryz.underlying90
 a50:=Tryz.isAgg90
 z50:=Tryz.sizeOf90
 v50:=Tryz.zeroValue90
 t53:=Tryz.underlying49
 a53:=Tryz.isAgg49
 z53:=Tryz.sizeOf49
 v53:=Tryz.zeroValue49
 t55:=Tryz.underlying271
 a55:=Tryz.isAgg271
 z55:=Tryz.sizeOf271
 v55:=Tryz.zeroValue271
 t66:=Tryz.underlying289
 a66:=Tryz.isAgg289
 z66:=Tryz.sizeOf289
 v66:=Tryz.zeroValue289
 t70:=Tryz.underlying293
 a70:=Tryz.isAgg293
 z70:=Tryz.sizeOf293
 v70:=Tryz.zeroValue293
 t76:=Tryz.underlying302
 a76:=Tryz.isAgg302
 z76:=Tryz.sizeOf302
 v76:=Tryz.zeroValue302
 t77:=Tryz.underlying303
 a77:=Tryz.isAgg303
 z77:=Tryz.sizeOf303
 v77:=Tryz.zeroValue303
end Go.Iso.Gen
section
namespace Go.Iso.Gen
open Go.Iso Go.Proofs
def N5:List Nat→Code→Option Code
 | [],c=>some c
 | 0::p,.seq a _=>N5 p a
 | 1::p,.seq _ b=>N5 p b
 | 0::p,.block _ c=>N5 p c
 | 0::p,.loop c=>N5 p c
 | _,_=>none
def jl(p:List Nat)(c:Code):Option Bool:=match N5 p c with
 | some (.region _ _ d)=>some d
 | _=>none
theorem dr3:((Tryz.prog.funcs[31]?).bind (·.body)).bind (jl [1,1,0,1,0,0,0])=some false:=by kernel_rfl
theorem dr7:((Tryz.prog.funcs[31]?).bind (·.body)).bind (jl [1,1,1,0])=some false:=by kernel_rfl
theorem aqX:((Tryz.prog.funcs[31]?).bind (·.body)).bind (jl [1,1,1,1,1,0])=some false:=by kernel_rfl
theorem Qd(x y:Crs)(H':Heap):∃H'',CallSim Tryz.prog 1 79 [.agg (Cell.cs x),.agg (Cell.cs y)] H'.n H' (.int .i64 (Qe x y)) H'':=by
 obtain⟨n,o,H'',h1,rfl⟩:W E0 H'.n (.call 79 [.agg (Cell.cs x),.agg (Cell.cs y)]) H' fun o _=>o=.val (.int .i64 (Qe x y)):=Ng x y (au _) fun _ _=>rfl
 exact⟨H'',pC tu h1⟩
theorem PP(x y:Id)(H':Heap):∃H'',CallSim Tryz.prog 1 80 [.agg (Cell.cs x),.agg (Cell.cs y)] H'.n H' (.int .i64 (CK x y)) H'':=by
 obtain⟨n,o,H'',h1,rfl⟩:W E0 H'.n (.call 80 [.agg (Cell.cs x),.agg (Cell.cs y)]) H' fun o _=>o=.val (.int .i64 (CK x y)):=vC x y (au _) fun _ _=>rfl
 exact⟨H'',pC tu h1⟩
theorem El(a b:Int):(mf a b < 0)↔a < b:=by
 unfold mf;split
 ·omega
 ·split<;>omega
theorem BW(a b:Int):(mf a b≠0)↔a≠b:=by
 unfold mf;split
 ·omega
 ·split<;>omega
theorem xT(a b:Id):(CK a b < 0)↔(a.y < b.y∨a.y=b.y∧a.n < b.n):=by
 unfold CK;have h1:=BW a.y b.y;have h2:=El a.y b.y;have h3:=El a.n b.n;split<;>omega
theorem akl(a b:Id):(CK a b≠0)↔(a.y≠b.y∨a.n≠b.n):=by
 unfold CK;have h1:=BW a.y b.y;have h3:=BW a.n b.n;split<;>omega
theorem acV:Sort.SWO (ltOf CK) where
 irrefl x:=by unfold ltOf;rw[decide_eq_false_iff_not,xT];omega
 trans x y z h1 h2:=by unfold ltOf at *;rw[decide_eq_true_iff,xT] at *;omega
 ntrans x y z h1 h2:=by unfold ltOf at *;rw[decide_eq_false_iff_not,xT] at *;omega
theorem F6(x y:Crs):(Qe x y < 0)↔(x.a.y < y.a.y∨x.a.y=y.a.y∧(x.a.n < y.a.n∨x.a.n=y.a.n∧(x.b.y < y.b.y∨x.b.y=y.b.y∧x.b.n < y.b.n))):=by
 unfold Qe;have h1:=akl x.a y.a;have h2:=xT x.a y.a;have h3:=xT x.b y.b;split<;>omega
theorem adb:Sort.SWO (ltOf Qe) where
 irrefl x:=by unfold ltOf;rw[decide_eq_false_iff_not,F6];omega
 trans x y z h1 h2:=by unfold ltOf at *;rw[decide_eq_true_iff,F6] at *;omega
 ntrans x y z h1 h2:=by unfold ltOf at *;rw[decide_eq_false_iff_not,F6] at *;omega
theorem P3:∀args w,(callFunc 79 args).run Tryz.prog w=.ok (.enter 79 args) w:=enters_of Tryz.func79 (by kernel_rfl) rfl
theorem P2:∀args w,(callFunc 80 args).run Tryz.prog w=.ok (.enter 80 args) w:=enters_of Tryz.func80 (by kernel_rfl) rfl
theorem Oc{lo b lb:Nat}{ex:Bool}{l:List Crs}{H:Heap}(hlo:lo≤b)(hg:H.get b=some (.cells false 149 5 (aG l)))(hl:l.length≤1000000):
  HE Tryz.prog 1 78 [.slice b 0 l.length lb ex,.fn 79 [] []] lo H (EA Qe b 149 5 l H):=
 wQ (α:=Crs) ajH (fun x=>by rw[Qc];rfl) Tryz.isAgg149 Tryz.sizeOf149 Qe adb hlo hg (by omega) P3 Qd
theorem Ob{lo b lb:Nat}{ex:Bool}{l:List Id}{H:Heap}(hlo:lo≤b)(hg:H.get b=some (.cells false 138 2 (aG l)))(hl:l.length≤1000000):
  HE Tryz.prog 1 82 [.slice b 0 l.length lb ex,.fn 80 [] []] lo H (EA CK b 138 2 l H):=
 wQ (α:=Id) ajG (fun x=>by rfl) Tryz.isAgg138 Tryz.sizeOf138 CK acV hlo hg (by omega) P2 PP
theorem aeH{f:FuncId}{fn:IFn}(h:an Tryz.prog f=some fn):∃pf body,Tryz.prog.funcs[f]? =some pf∧pf.body=some body∧(pf.name=="runtime.NumGoroutine")=false:=m7 h
def stD(mb:Nat)(L:Ly)(M:Mc):List IV:=[.int .i64 M.rack,uq mb L.f.iv,uq mb L.b.iv,.slice mb 0 6 6 false,.slice mb 0 6 6 false,.slice mb 0 M.cr.length M.cr.length false,
 .slice mb 0 (cn (aO M.t) (aJ M.t) M.rack).length (cn (aO M.t) (aJ M.t) M.rack).length false,.slice mb 0 M.fa.length M.fa.length false]
def FQ(mb:Nat)(L:Ly)(M:Mc)(o:Out)(H':Heap):Prop:=∃e fr',o=.ex e fr'∧(∀id,e≠.jmp (.exit id))∧fr'.marks=[]∧
   ∃cs,ay H' fr'.tm F31.results=some [.agg cs]∧cs.all okC=true∧cs.map (uq mb)=stD mb L M
theorem aj8(v:SV):okC v.iv=true:=by cases v<;>rfl
theorem aka{n0 mb rb cb:Nat}{H:Heap}{ow:List Nat}{L:Ly}{M:Mc}(h:MI n0 mb H ow L M)(hrl:∀x∈L.rl,x.length≤1000000)(hfa:M.fa.length≤1000000){l:List Crs}(hl:l.length=M.cr.length)(hll:l.length≤1000000)
  (hrb:H.get rb=some (.cells false 35 8 [.int .i64 0,.nilSlice,.nilSlice,.nilSlice,.nilSlice,.nilSlice,.nilSlice,.nilSlice])) (hcb:H.get cb=some (.cells false 149 5 (aG l)))
  (hbf:Sl2 (H.off (cb::ow)) L.f (aO M.t)) (hbb:Sl2 (H.off (cb::ow)) L.b (aJ M.t))
  (h1:n0≤rb∧rb < H.n∧rb∉ow) (h2:n0≤cb∧cb < H.n∧cb∉ow) (h12:rb≠cb) {tm:List IV} (htm:tm.length=95) (t0:tm.getD 0 IV.undef=.ptr mb 0) (t2:tm.getD 2 IV.undef=.ptr rb 0) (t3:tm.getD 3 IV.undef=.slice cb 0 l.length l.length true)
  {r2:Code} (hr2:aM Tryz.prog r2=some (.seq RZ (.seq (.seq RY (.block 2 (.loop Cd))) (.seq Gy (.seq Cc (.seq Cb .ret))))))
  (hd7:jl [0] r2=some false) (hd14:jl [1,1,0] r2=some false):
  NItem Tryz.prog 1 n0 (.code r2) none ⟨tm,[]⟩ H (FQ mb L M):=by
 obtain⟨c7,r3,rfl,hc7,hr3⟩:=gC hr2;obtain⟨c8,r4,rfl,hc8,hr4⟩:=gC hr3;obtain⟨c14,r5,rfl,hc14,hr5⟩:=gC hr4;obtain⟨i7,o7,d7,rfl,hg7⟩:=tC hc7;obtain⟨i14,o14,d14,rfl,hg14⟩:=tC hc14;have e7:d7=false:=sX hd7;have e14:d14=false:=sX hd14;subst e7 e14;have hlm:=h.lo _ h.om;have hmr:rb≠mb:=fun e=>h1.2.2 (e▸h.om);have hmc:cb≠mb:=fun e=>h2.2.2 (e▸h.om);refine NItem.seqC (NItem.region tu (pre:=[_]) (post:=[]) hg7 rfl (R:=EA Qe cb 149 5 l H) ?_);rw[tp tm htm,t0,t2,t3];simp(disch:=omega) only[ak,↓aj,seval,EP];refine⟨_,_,rfl,rfl,fun o ho=>?_,fun v H2 hv=>?_⟩
 ·obtain⟨pf,body,q1,q2,q3⟩:=aeH k78;exact NOp.call ho q1 q2 q3 (Oc h2.1 hcb hll)
 obtain⟨_,l',hp,_,hn2,hk2,hcb2⟩:=hv;have hll':l'.length=l.length:=hp.length_eq;simp(disch:=omega) only[ak,↓aj,seval,EP];refine⟨_,rfl,?_⟩;have hmbo:=h.om;have htbo:=h.ot;have hfvo:=h.of;have htl:=h.lo _ htbo;have hne:∀x,x∈ow→x≠cb:=fun x hx e=>h2.2.2 (e▸hx);have gm2:=(hk2 mb (Ne.symm hmc)).trans h.gm;have gr2:=(hk2 rb h12).trans hrb;have gt2:=h.gt.same (qu hn2.symm) (hk2 _ (hne _ htbo));have rg2:∀(i:Nat) (a:i < L.ws.length) (b:i < L.rl.length),Tg n0 H2 158 L.ws[i] L.rl[i]:=fun i a b=>(h.rg i a b).same (qu hn2.symm) (hk2 _ (hne _ (h.orw _ (bQ _))));have gf2:=h.gf.same (qu hn2.symm) (hk2 _ (hne _ hfvo));have kO2:KeepO (cb::ow) H H2:=⟨qu hn2.symm,fun x _ hx=>hk2 x fun e=>hx (by simp[e])⟩;have hbf2:=hbf.keep kO2.off';have hbb2:=hbb.keep kO2.off';have rm2:=ah gm2;refine NItem.seqC (iV tu hc8 ?_);simp(disch:=omega) only[ak,↓aj,seval,EP,rm2,↓FR,FW];refine Mg gm2 gt2 h.wn h.rn rg2 hrl htl.1 (by omega) (by omega) rfl rfl rfl rfl rfl rfl rfl fun H3 N1 k3 htm3 t0 t2 t3=>?_;have hn3:=k3.1;have hmt:mb≠L.tb:=fun e=>by have:=h.gm;have h2:=h.fullT;rw[e,h2] at this;cases this
 have hct:cb≠L.tb:=fun e=>h2.2.2 (e▸htbo);have hrt:rb≠L.tb:=fun e=>h1.2.2 (e▸htbo);have gm3:=(k3.2 mb (by omega) (by simpa using hmt)).trans gm2;have gr3:=(k3.2 rb (by omega) (by simpa using hrt)).trans gr2;have hcb3:=(k3.2 cb (by omega) (by simpa using hct)).trans hcb2;have kO3:KeepO (cb::ow) H2 H3:=k3.mono fun x hx=>by rw[List.mem_singleton.1 hx];exact cP _ htbo
 have hbf3:=hbf2.keep kO3.off';have hbb3:=hbb2.keep kO3.off';obtain⟨fb,fx,hfv,hfb,ofb⟩:=gf2;rw[hfv] at hfvo;have hfvo:fb∈ow:=hfvo;have hft:fb≠L.tb:=fun e=>by have h2:=gt2;have h3:=ofb;rw[e] at h3;obtain⟨_,_,r,h5,_⟩:=h3;obtain⟨_,_,r',h6,_⟩:=h2;rw[h5] at h6;cases h6
 have of3:=ofb.same hn3 (k3.2 fb ofb.2.1 (by simpa using hft));have gf3:=of3.full;rw[lB] at gf3;have hfm:fb≠mb:=fun e=>by rw[e,gm3] at gf3;cases gf3
 have hfr:rb≠fb:=fun e=>h1.2.2 (e▸hfvo);have hfc:cb≠fb:=fun e=>h2.2.2 (e▸hfvo);clear gm2 gr2 gt2 rg2 rm2 hcb2 hbf2 hbb2 k3;rw[hfv] at gm3;have rm3:=ah gm3;simp(disch:=omega) only[ak,↓aj,seval,EP];refine NItem.seqC (NItem.region tu (pre:=[_,_,_,_]) (post:=[]) hg14 rfl (R:=EA CK fb 138 2 M.fa H3) ?_);rw[tp N1 htm3,t0,t2,t3];simp(disch:=omega) only[ak,↓aj,seval,EP,rm3,ar,SV.iv];refine⟨_,_,rfl,rfl,fun o ho=>?_,fun v H4 hv=>?_⟩
 ·obtain⟨pf,body,q1,q2,q3⟩:=aeH k82;exact NOp.call ho q1 q2 q3 (Ob hfb gf3 hfa)
 obtain⟨_,fa',hp',_,hn4,hk4,hfb4⟩:=hv;have hla':fa'.length=M.fa.length:=hp'.length_eq;simp(disch:=omega) only[ak,↓aj,seval,EP];refine⟨_,rfl,?_⟩;have gm4:=(hk4 mb (Ne.symm hfm)).trans gm3;have gr4:=(hk4 rb hfr).trans gr3;have hcb4:=(hk4 cb hfc).trans hcb3;have kO4:KeepO (cb::ow) H3 H4:=⟨qu hn4.symm,fun x _ hx=>hk4 x fun e=>hx (by rw[e];exact cP _ hfvo)⟩;have hbf4:=(hbf3.keep kO4.off').unoff;have hbb4:=(hbb3.keep kO4.off').unoff;have sc4:Sl H4 (.sl cb 0 l'.length l'.length true) l':=(Own.mk' (by omega) GN hcb4 rfl).sl true;have sf4:Sl H4 (.sl fb 0 fa'.length fa'.length fx) fa':=(Own.mk' (by have:=ofb.2.1;omega) lB hfb4 rfl).sl fx;rw[hla'] at sf4;refine iV tu hr5 ?_;refine LW (l:=l') (fv:=.sl fb 0 M.fa.length M.fa.length fx) (fa:=fa') gm4 h.bv h.rk hbf4 hbb4 sc4 (by omega) sf4 (by omega) gr4 rfl hmr h1.1 (by omega) (by omega) rfl rfl rfl (by rw[hll'];rfl) fun H5 N0 c1 c2 c3 hl5 h25 hg5=>?_;have r5:=ah hg5;refine⟨.jmp .ret,⟨N0,[]⟩,rfl,(fun id e=>by cases e),rfl,[.int .i64 M.rack,L.f.iv,L.b.iv,.slice L.yb 0 6 6 true,.slice L.tb 0 6 6 true,.slice c1 0 l'.length l'.length true,.slice c2 0 (cn (aO M.t) (aJ M.t) M.rack).length (cn (aO M.t) (aJ M.t) M.rack).length true,.slice c3 0 fa'.length fa'.length true],?_,?_,?_⟩
 ·show ay H5 N0 [(2,some (some 8))]=_
  simp only[ay,hX,h25,r5,ar];rfl
 ·simp only[lM,sV,aj8,wY,xh];rfl
 ·simp only[bI,bj,stD,uq,hla',hll',hl]
theorem aeI{α:Type}(f:α→Nat)(s:Nat):∀(l:List α),(l.map f).Nodup→s∈l.map f→(l.filter fun x=>f x !=s).length+1=l.length
 | [],_,h=>by cases h
 | x::l,hn,h=>by
   rw[bI,List.nodup_cons] at hn;rw[List.filter_cons];by_cases hx:f x=s
   ·rw[if_neg (by simp[hx])]
    have:l.filter (fun x=>f x !=s)=l:=by
     rw[List.filter_eq_self];intro a ha
     have:f a≠s:=fun e=>hn.1 (by rw[hx,←e];exact List.mem_map_of_mem ha)
     simpa using this
    rw[this];rfl
   ·rw[if_pos (by simp[hx]),fB,fB];rw[bI,sW] at h;rcases h with h | h
    ·exact absurd h.symm hx
    ·rw[aeI f s l hn.2 h]
def lU(es:List (IV×IV×Nat))(seen:List Nat):List (IV×IV×Nat):=es.filter fun e=>!seen.contains e.2.2
theorem FI(es:List (IV×IV×Nat))(seen:List Nat)(s:Nat):lU es (seen++[s])=(lU es seen).filter fun e=>e.2.2 !=s:=by
 unfold lU;rw[List.filter_filter];congr 1
 funext e
 rw[List.contains_eq_any_beq,List.contains_eq_any_beq,List.any_append];simp only[List.any_cons,List.any_nil,Bool.or_false,Bool.not_or];rw[Bool.and_comm];congr 1
theorem MP{es:List (IV×IV×Nat)}{seen:List Nat}{s:Nat}(hn:(es.map (·.2.2)).Nodup)(h:∃e∈es,e.2.2=s)(hs:s∉seen):(lU es (seen++[s])).length+1=(lU es seen).length:=by
 rw[FI];refine aeI (fun e:IV×IV×Nat=>e.2.2) s _ (hn.sublist ((List.filter_sublist).map _)) ?_;obtain⟨e,he,rfl⟩:=h;exact List.mem_map.2 ⟨e,List.mem_filter.2 ⟨he,by simpa using hs⟩,rfl⟩
theorem Pg{H:Heap}{r b c lo:Nat}{seen:List Nat}{es:List (IV×IV×Nat)}(hg:H.get r=some (.iter (some b) c seen c))(hm:H.get b=some (.map es c))(hb:BornOk es c)(hl:lU es seen=[])(hlo:lo≤r):
  ev1 .nextM [.ptr r 0] lo H=some (.tuple [.bool false],H):=by
 have hc:¬(seen≠[]∧es≠[]∧(es.all fun e=>decide (c≤e.2.2))=true):=by
  rintro⟨_,h2,h3⟩
  cases es with
  | nil=>exact h2 rfl
  | cons e es=>
    have:=hb.1 e.2.2 (by simp)
    simp only[lM,bg,decide_eq_true_eq] at h3;omega
 have hl:(es.filter fun e=>!seen.contains e.2.2)=[]:=hl;simp only[ev1,if_pos hlo,Go.Iso.stepM,hg,aB,hm];rw[if_neg hc,hl];rfl
theorem P1{H:Heap}{r b c s lo:Nat}{seen:List Nat}{es:List (IV×IV×Nat)}{cr:List (Id×Id×Int)}(hg:H.get r=some (.iter (some b) c (seen++[s]) c))(hm:H.get b=some (.map es c))(hmap:es.map (fun e=>(e.1,e.2.1))=cr.map fun k=>(Ni k.1 k.2.1,.int .i64 k.2.2))(he:∃e∈es,e.2.2=s):
  ∃x:Crs,ev1 .entryM [.ptr r 0] lo H=some (.tuple [.agg [.int .u8 x.a.y,.int .i64 x.a.n,.int .u8 x.b.y,.int .i64 x.b.n],.int .i64 x.n],H):=by
 obtain⟨e,hf⟩:∃e,(es.find? fun e=>e.2.2==s)=some e:=by
  cases hf:es.find? fun e=>e.2.2==s with
  | some e=>exact⟨e,rfl⟩
  | none=>
    obtain⟨e,he,hs⟩:=he
    have:=List.find?_eq_none.1 hf e he
    simp[hs] at this
 have hin:=List.mem_of_find?_eq_some hf
 have:(e.1,e.2.1)∈es.map (fun e=>(e.1,e.2.1)):=List.mem_map.2 ⟨e,hin,rfl⟩
 rw[hmap] at this;obtain⟨k,_,hk⟩:=List.mem_map.1 this;injection hk with h1 h2;refine⟨⟨k.1,k.2.1,k.2.2⟩,?_⟩;simp only[ev1,x9,hg,List.getLast?_append,List.getLast?_singleton,Option.some_or,aB,hm,if_true,hf,dI,←h1,←h2];rfl
def SI(mb cm c:Nat)(es:List (IV×IV×Nat))(rb:Nat)(H1:Heap)(m:Nat)(fr:Fr)(H':Heap):Prop:=
 ∃(seen:List Nat) (done:List Crs),m=(lU es seen).length∧done.length+m=es.length∧KeepO [rb+1,rb+2] H1 H'∧Own H' (rb+1) 149 es.length done∧
  H'.get (rb+2)=some (.iter (some cm) c seen c)∧fr.marks=[]∧fr.tm.length=95∧fr.tm.getD 0 IV.undef=.ptr mb 0∧fr.tm.getD 2 IV.undef=.ptr rb 0∧fr.tm.getD 3 IV.undef=.slice (rb+1) 0 done.length es.length true∧fr.tm.getD 19 IV.undef=.ptr (rb+2) 0
theorem akb{n0 mb cm c rb:Nat}{es:List (IV×IV×Nat)}{cr:List (Id×Id×Int)}{H1:Heap}(hm1:H1.get cm=some (.map es c))(hb:BornOk es c)(hmap:es.map (fun e=>(e.1,e.2.1))=cr.map fun k=>(Ni k.1 k.2.1,.int .i64 k.2.2))
  (hcm:cm < rb) (hn1:H1.n=rb+3) (hn0:n0≤rb) (hes:es.length≤1000000) {cl:Code} (hcl:aM Tryz.prog cl=some R3) (hd:jl [0] cl=some false) {m:Nat} {fr:Fr} {H':Heap} (hI:SI mb cm c es rb H1 m fr H') {Q:Out→Heap→Prop}
  (hq:∀fr' H',SI mb cm c es rb H1 0 fr' H'→Q (.ex (.jmp (.exit 0)) fr') H'):
  NItem Tryz.prog 1 n0 (.code cl) none fr H' fun o H''=>match o with
   | .ex .normal fr'=>∃m',m' < m∧SI mb cm c es rb H1 m' fr' H''
   | o=>Q o H'':=by
 obtain⟨tm,mk⟩:=fr;obtain⟨seen,done,hm,hdl,hk,hO,hit,rfl,htm,t0,t2,t3,t19⟩:=hI;have hn':=hk.1;have hgm:=(hk.2 cm (by omega) (by simp;omega)).trans hm1;by_cases h0:m=0
 ·subst h0;have hl:lU es seen=[]:=List.length_eq_zero_iff.1 hm.symm;have hne:=Pg (lo:=n0) hit hgm hb hl (by omega);refine iV tu hcl ?_;rw[tp tm htm,t0,t2,t3,t19];simp(disch:=omega) only[ak,↓aj,seval,aet,↓hne,↓FR,FW];exact hq _ _ ⟨seen,done,hm,hdl,hk,hO,hit,rfl,rfl,rfl,rfl,rfl,rfl⟩
 ·obtain⟨c3,rr,rfl,hc3,hrr⟩:=gC hcl;obtain⟨i3,o3,d3,rfl,hg3⟩:=tC hc3;have e3:d3=false:=sX hd;subst e3
  have hex:∃e∈es,e.2.2∉seen:=by
   have hpos:0 < (lU es seen).length:=by omega
   obtain⟨e,he⟩:=List.exists_mem_of_length_pos hpos;obtain⟨h1,h2⟩:=List.mem_filter.1 he;exact⟨e,h1,by simpa using h2⟩
  refine NItem.seqC (NItem.region tu (pre:=[]) (post:=[_]) hg3 rfl (R:=fun v H2=>∃k x s,(k,x,s)∈es∧s∉seen∧v=.tuple [.bool true,k,x]∧H2=H'.put (rb+2) (.iter (some cm) c (seen++[s]) c)) ?_);rw[tp tm htm,t0,t2,t3,t19];simp(disch:=omega) only[ak,↓aj,seval,EP];refine⟨_,_,rfl,rfl,fun o ho=>?_,fun v H2 hv=>?_⟩
  ·exact NOp.next ho hit (by simp only[aB,hgm]) (by omega) (fun e he=>hb.1 _ (List.mem_map.2 ⟨e,he,rfl⟩)) (fun e he=>hb.1 _ (List.mem_map.2 ⟨e,he,rfl⟩)) hex
  obtain⟨k0,x0,s,hin,hns,rfl,hH2⟩:=hv;simp(disch:=omega) only[ak,↓aj,seval,EP];refine⟨_,rfl,?_⟩;have hn2:H2.n=H'.n:=by rw[hH2];rfl
  have kO2:KeepO [rb+1,rb+2] H' H2:=by rw[hH2];exact KeepO.put (by simp)
  have hit2:H2.get (rb+2)=some (.iter (some cm) c (seen++[s]) c):=by rw[hH2,ae,if_pos rfl]
  have hO2:=hO.keepO (H':=H2) (ow:=[rb+2]) (by rw[hH2];exact KeepO.put (by simp)) (by simp);have hgm2:=(kO2.2 cm (by omega) (by simp;omega)).trans hgm;clear hH2;have hsl:=MP hb.2 ⟨_,hin,rfl⟩ hns;have hsl:(lU es (seen++[s])).length+1=(lU es seen).length:=hsl;obtain⟨x,hx⟩:=P1 (lo:=n0) hit2 hgm2 hmap ⟨_,hin,rfl⟩;have hn1':H1.n≤H2.n:=by omega
  obtain⟨HK,hHK⟩:∃HK,HK=(H2.new (.cells false 150 4 [.int .u8 0,.int .i64 0,.int .u8 0,.int .i64 0])).put H2.n (.cells false 150 4 [.int .u8 x.a.y,.int .i64 x.a.n,.int .u8 x.b.y,.int .i64 x.b.n]):=⟨_,rfl⟩
  have kHK:Keep H2.n H2 HK:=by rw[hHK];exact Keep.newPut
  have nHK:HK.n=H2.n+1:=by rw[hHK];rfl
  have hO4:=(hO2.keep kHK).keep (Keep.new HK (.cells false 149 5 (Cell.cs x)));have hu:=(rE (H:=HK) (e:=149) GN x).sl true;rw[nHK] at hu;obtain⟨H6,e6,n6,k6,o6⟩:=kV (ex:=true) hO4 hu GN 40 n0 (by simp;omega) (by omega)
  have k26:KeepO [rb+1,rb+2] H2 H6:=⟨by rw[n6,ac,nHK];omega,fun y h1 h2=>by
   have h3:y≠rb+1:=fun e=>h2 (by simp[e]);rw[k6 y h3,(Keep.new (lo:=HK.n) HK _).2 y (by omega) (by omega)];exact kHK.2 y h1 h1⟩
  have hit6:H6.get (rb+2)=some (.iter (some cm) c (seen++[s]) c):=by
   rw[k6 (rb+2) (by omega),(Keep.new (lo:=HK.n) HK _).2 (rb+2) (by omega) (by omega),kHK.2 (rb+2) (by omega) (by omega)];exact hit2
  rw[hHK,Qc] at e6;have e6:ev1 (.append 149 5 40) [.slice (rb+1) 0 done.length es.length true,.slice (H2.n+1) 0 1 1 true] n0 _=some (.slice (rb+1) 0 (done.length+1) es.length true,H6):=e6;refine iV tu hrr ?_;simp(disch:=omega) only[ak,↓aj,seval,EP,↓hx,↓e6,ar,↓FR,FW];exact⟨m - 1,by omega,seen++[s],done++[x],by omega,by rw[bn];simp;omega,(hk.trans kO2 fun y hy=>.inl hy).trans k26 fun y hy=>.inl hy,o6,hit6,rfl,rfl,rfl,rfl,by rw[bn];rfl,rfl⟩
theorem Ak{α:Type}[Cell α]{H H':Heap}{ow:List Nat}{v:SV}{ls:List (List α)}(h:Sl2 (H.off ow) v ls){b:Nat}(k:KeepO ow H H')(hb:H.n≤b):Sl2 (H'.off (b::ow)) v ls:=
 h.keep (k.off (fun x hx=>cP _ hx) fun x hx=>by
  rcases List.mem_cons.1 hx with rfl | hx
  ·exact .inr hb
  ·exact .inl hx)
theorem LV{n0 mb:Nat}{H:Heap}{ow:List Nat}{L:Ly}{M:Mc}(h:MI n0 mb H ow L M)(hn0:1≤n0)(hn:n0≤H.n)(hrl:∀x∈L.rl,x.length≤1000000)(hfa:M.fa.length≤1000000)(hcr:M.cr.length≤1000000):
  CallSim Tryz.prog 1 31 [.ptr mb 0] n0 H (.agg (stD mb L M)) (bN n0 H):=by
 have hlm:=h.lo _ h.om;obtain⟨es,c,hgm,hmap,hb⟩:=h.gc;have hcl:=h.lo _ h.oc;have hle:es.length=M.cr.length:=by have:=congrArg List.length hmap;simpa using this
 refine Nm k31 hn0 hlm.1 hlm.2 fun pf cd hf hbd hcc=>?_;have d3:jl [1,1,0,1,0,0,0] cd=some false:=by have:=dr3;rw[hf] at this;simpa [hbd] using this
 have d7:jl [1,1,1,0] cd=some false:=by have:=dr7;rw[hf] at this;simpa [hbd] using this
 have d14:jl [1,1,1,1,1,0] cd=some false:=by have:=aqX;rw[hf] at this;simpa [hbd] using this
 obtain⟨c0,r0,rfl,hc0,hr0⟩:=gC hcc;obtain⟨c1,r1,rfl,hc1,hr1⟩:=gC hr0;obtain⟨cA,r2,rfl,hcA,hr2⟩:=gC hr1;obtain⟨c2,cB,rfl,hc2,hcB⟩:=gC hcA;obtain⟨cL,rfl,hcL⟩:=Ei hcB;obtain⟨cl,rfl,hcl2⟩:=Ga hcL;have d3:jl [0] cl=some false:=d3;have d7:jl [0] r2=some false:=d7;have d14:jl [1,1,0] r2=some false:=d14
 show NItem Tryz.prog 1 n0 _ none _ H (FQ mb L M)
 have rm:=ah h.gm;refine NItem.seqC (iV tu hc0 ?_);simp(disch:=omega) only[ak,↓aj,seval,EP,show(⟨95,[(2,some (some 8))],aly⟩:IFn).ntmps=95 from rfl];refine NItem.seqC (iV tu hc1 ?_);simp(disch:=omega) only[ak,↓aj,seval,EP,rm,hgm,aB,ar,show ¬H.n=mb by omega,show ¬H.n=L.cb by omega,Int.reducePow,↓FR,FW];refine NItem.seqC (NItem.seqC (iV tu hc2 ?_));simp(disch:=omega) only[ak,↓aj,seval,EP,rm,hgm,aB,ar,show ¬H.n=mb by omega,show ¬H.n=L.cb by omega,show ¬H.n+1=mb by omega,show ¬H.n+1=L.cb by omega,↓FR,FW];generalize hH_H1:Heap.new _ _=H1;have hnH1:H1.n=H.n+3:=by rw[←hH_H1];rfl
 have gr:=congrArg (fun h0=>Heap.get h0 (H.n)) hH_H1.symm;simp(disch:=omega) only[ak,↓aj,seval] at gr;have gc1:=congrArg (fun h0=>Heap.get h0 (H.n+1)) hH_H1.symm;simp(disch:=omega) only[ak,↓aj,seval] at gc1;have gi:=congrArg (fun h0=>Heap.get h0 (H.n+2)) hH_H1.symm;simp(disch:=omega) only[ak,↓aj,seval] at gi
 have kH1:Keep H.n H H1:=⟨by omega,fun x hx _=>by
  have gx:=congrArg (fun h0=>Heap.get h0 x) hH_H1.symm;simp(disch:=omega) only[ak,↓aj,seval] at gx;exact gx⟩
 clear hH_H1;clear rm;have hO1:Own H1 (H.n+1) 149 es.length ([]:List Crs):=⟨fA _,by omega,_,by rw[gc1];rfl,by rw[iN];rfl⟩;have hl0:lU es []=es:=by unfold lU;rw[List.filter_eq_self];intro a _;rfl
 have hgm1:=(kH1.2 L.cb hcl.2 hcl.2).trans hgm;refine Ca (NItem.loopC (SI mb L.cb c es H.n H1) es.length ⟨[],[],by rw[hl0],by simp,KeepO.refl _ _,hO1,gi,rfl,rfl,rfl,rfl,rfl,rfl⟩ fun m fr H' hI=>akb hgm1 hb hmap hcl.2 hnH1 hn (by omega) hcl2 d3 hI fun fr' H' hI0=>?_);obtain⟨tm,mk⟩:=fr';obtain⟨seen,done,_,hdl,hk,hO,_,rfl,htm,t0,t2,t3,_⟩:=hI0;have hdl:done.length=es.length:=by omega
 have hn':=hk.1;have k0:Keep H.n H H':=⟨by omega,fun x h1 h2=>(hk.2 x (by omega) (by simp;omega)).trans (kH1.2 x h1 h2)⟩
 have hcb:H'.get (H.n+1)=some (.cells false 149 5 (aG done)):=by
  rw[←hdl] at hO
  have:=hO.full
  rw[GN] at this;exact this
 have hrb:=(hk.2 H.n (by omega) (by simp)).trans gr;have hx:∀x,H.n≤x→x∉ow:=fun x hx hxo=>by have:=(h.lo _ hxo).2;omega
 rw[←hdl] at t3;exact aka (h.keep k0) hrl hfa (hdl.trans hle) (by omega) hrb hcb (Ak h.bf (KeepO.of k0) (by omega)) (Ak h.bb (KeepO.of k0) (by omega)) ⟨hn,by omega,hx _ (au _)⟩ ⟨by omega,by omega,hx _ (by omega)⟩ (by omega) htm t0 t2 t3 hr2 d7 d14
open Go.Iso
theorem pD(i:Nat)(M:Mc)(o:Opn)(l:List Opn):re i M (o::l)=match doM M o with
 | .error e=>.error (i,e)
 | .ok M'=>re (i+1) M' l:=rfl
theorem PT(mb:Nat)(L:Ly)(M:Mc):zT 8 (.agg (stD mb L M)):=by
 refine⟨_,rfl,rfl,?_⟩
 have h:∀v:SV,IV.one (uq mb v.iv)=true:=fun v=>by cases v<;>rfl
 simp only[stD,lM,sV,h,wY,xh];rfl
theorem OE{yb tb ey et:Nat}{v:SV}{l:List Opn}{H:Heap}(ht:Tabs tabs H)(hy:H.get yb=some (.cells false ey 5 zy6))(hte:H.get tb=some (.cells false et 1 nil6))(hlt:tb < H.n)(hlt':yb < H.n)(hv:Sl H v l)(hl:l.length≤100){lo:Nat}{Q:Out→Heap→Prop}(hlo:lo≤H.n)
  (hq:∀H' cs,Keep H.n H H'→cs.length=8→cs.all IV.one=true→Q (.val (.tuple [.agg cs,.int .i64 (OG l),.int .i64 (uJ l)])) H'):
  W E0 lo (.call 8 [.agg [.int .i64 0,.nilSlice,.nilSlice,.slice yb 0 6 6 true,.slice tb 0 6 6 true,.nilSlice,.nilSlice,.nilSlice],v.iv]) H Q:=by
 refine W.pure bJ hlo ?_;rw[c8];simp(disch:=omega) only[ak,↓aj,seval,B8,↓hv.ln,ar,↓FR,FW];generalize hH_H1:Heap.new _ _=H1;have hnH1:H1.n=H.n+2:=by rw[←hH_H1];rfl
 have g0:=congrArg (fun h0=>Heap.get h0 (H.n)) hH_H1.symm;simp(disch:=omega) only[ak,↓aj,seval] at g0;have g1:=congrArg (fun h0=>Heap.get h0 (H.n+1)) hH_H1.symm;simp(disch:=omega) only[ak,↓aj,seval] at g1
 have kH1:Keep H.n H H1:=⟨by omega,fun x hx _=>by
  have gx:=congrArg (fun h0=>Heap.get h0 x) hH_H1.symm;simp(disch:=omega) only[ak,↓aj,seval] at gx;exact gx⟩
 clear hH_H1;have hy1:=(kH1.2 yb hlt' hlt').trans hy;have ht1:=(kH1.2 tb hlt hlt).trans hte;refine acF hy1 ht1 (by omega) (by omega) (by omega) fun H2 k2=>?_;have hn2:=k2.1;have kk2:Keep H.n H H2:=kH1.trans (k2.lower (by omega));have hy2:=(kk2.2 yb hlt' hlt').trans hy;have ht2:=(kk2.2 tb hlt hlt).trans hte;have g02:=(k2.2 H.n (by omega) (by omega)).trans g0;have g12:=(k2.2 (H.n+1) (by omega) (by omega)).trans g1;have r02:=ah g02;clear hy1 ht1 g0 g1;simp(disch:=omega) only[ak,↓aj,seval,B8,r02,ar,↓FR,FW];refine acA hy2 ht2 (by omega) (by omega) (by omega) fun H3 k3 hM=>?_;have hn3:=k3.1;obtain⟨n0,hn0⟩:∃n0,n0=H2.n:=⟨_,rfl⟩;rw[←hn0] at hM;obtain⟨mb,hmb⟩:∃mb,mb=n0+19:=⟨_,rfl⟩;rw[←hmb] at hM;simp(disch:=omega) only[ak,↓aj,seval,B8,↓FR,FW];refine Gn (by omega) fun H4 k4 hab hab'=>?_;have hn4:=k4.1;obtain⟨ab,hab0⟩:∃ab,ab=H3.n:=⟨_,rfl⟩;rw[←hab0] at hab hab';rw[show H2.n+19=mb by omega,←hab0];have hM4:=hM.keep k4;have kk4:Keep H.n H H4:=kk2.trans ((k3.lower (by omega)).trans (k4.lower (by omega)));have g14:=(k4.2 (H.n+1) (by omega) (by omega)).trans ((k3.2 (H.n+1) (by omega) (by omega)).trans g12);have ht4:=ht.keep' kk4;have hv4:=hv.keep kk4;have hown:∀x∈G9 n0,n0≤x∧x < H3.n:=fun x hx=>hM.lo x hx;clear hM g02 g12 r02 hy2 ht2;simp(disch:=omega) only[ak,↓aj,seval,B8,↓hv4.ln,↓FR,FW]
 refine aP (fun k fr H'=>∃(i:Nat) (ow':List Nat) (L':Ly) (M':Mc),i+k=l.length∧KeepO (G9 n0) H4 H'∧(∀x∈G9 n0,x∈ow')∧(∀x∈ow',x∈G9 n0∨H4.n≤x)∧MI n0 mb H' ow' L' M'∧MOk i M'∧re 0 M0 l=re i M' (l.drop i)∧fr.marks=[]∧fr.tm.length=47∧fr.tm.getD 1 IV.undef=v.iv∧fr.tm.getD 4 IV.undef=.ptr (H.n+1) 0∧fr.tm.getD 8 IV.undef=.ptr mb 0∧fr.tm.getD 9 IV.undef=.map ab∧fr.tm.getD 26 IV.undef=v.iv∧fr.tm.getD 27 IV.undef=.int .i64 l.length∧fr.tm.getD 28 IV.undef=.int .i64 i) ?_ l.length
  ⟨0,G9 n0,L0 n0,M0,by omega,KeepO.refl _ _,fun _ hx=>hx,fun _ hx=>.inl hx,hM4,amU,rfl,rfl,rfl,rfl,rfl,rfl,rfl,rfl,rfl,rfl⟩
 rintro k ⟨tm,mk⟩ H' ⟨i,ow',L',M',hik,hk,ha,hb,hM,hok,hrun,rfl,htm,t1,t4,t8,t9,t26,t27,t28⟩ L1 hN hJ;have hn':=hk.1;have hv':Sl H' v l:=hv.keep ⟨by omega,fun x h1 h2=>(hk.2 x (by omega) fun hx=>by have:=(hown x hx).1;omega).trans (kk4.2 x h1 h2)⟩;have hab2:=(hk.2 ab (by omega) fun hx=>by have:=(hown ab hx).2;omega).trans hab;have ht':Tabs tabs H':=ht4.keep hn' fun x hx=>hk.2 x (by have:=ht4.1;omega) fun hxo=>by have:=(hown x hxo).1;have:=ht.1;omega
 have g1':=(hk.2 (H.n+1) (by omega) fun hx=>by have:=(hown _ hx).1;omega).trans g14;rw[akt tm htm,t1,t4,t8,t9,t26,t27,t28];by_cases hi:i < l.length
 ·have r1:=hv'.read tK i hi;have hdr:l.drop i=l[i]::l.drop (i+1):=qh hi;simp(disch:=omega) only[ak,↓aj,seval,BL8,↓hv'.idx,r1,gl,ar,↓FR,FW];have kN:Keep H'.n H' ((H'.new (.cells false 56 6 [.int .u8 0,.int .u8 0,.int .u8 0,.int .i64 0,.int .u8 0,.int .i64 0])).put H'.n (.cells false 56 6 [.int .u8 l[i].k,.int .u8 l[i].d,.int .u8 l[i].b,.int .i64 l[i].a,.int .u8 l[i].y,.int .i64 l[i].r])):=Keep.newPut;have hfa:=hok.fa;refine amx (hM.keep kN) (ht'.keep' kN) (by have:=ht.1;omega) hok.cr hok.rows (by omega) ((kN.2 ab (by omega) (by omega)).trans hab2) (by omega) (by rw[af,ac];omega) (by rw[af,ac];omega) ⟨fun e H5 he5 k5=>?_,fun M5 H5 ow5 L5 he5 k5 ha5 hb5 hM5=>?_⟩
  ·have hz:=Hn he5;have hre:re 0 M0 l=.error (i,e):=by rw[hrun,hdr,pD,he5]
   have e1:uJ l=e:=by unfold uJ;rw[hre]
   have e2:OG l=i:=by unfold OG;rw[hre]
   have hx1:H.n+1∉ow':=fun hx=>by rcases hb _ hx with h | h;have:=(hown _ h).1;omega;omega
   have g15:=(k5.2 (H.n+1) (by rw[af,ac];omega) hx1).trans ((kN.2 (H.n+1) (by omega) (by omega)).trans g1');have hn5:=k5.1;rw[af,ac] at hn5;have kall:Keep H.n H H5:=⟨by omega,fun x h1 h2=>(k5.2 x (by rw[af,ac];omega) fun hx=>by rcases hb _ hx with h | h;have:=(hown _ h).1;omega;omega).trans ((kN.2 x (by omega) (by omega)).trans ((hk.2 x (by omega) fun hx=>by have:=(hown x hx).1;omega).trans (kk4.2 x h1 h2)))⟩;simp(disch:=omega) only[ak,↓aj,seval,BL8,hJ,g15,ar,↓FR,FW];rw[←e1,←e2];intro hkk;exact hq _ _ hkk rfl rfl
  ·have hre:re 0 M0 l=re (i+1) M5 (l.drop (i+1)):=by rw[hrun,hdr,pD,he5]
   simp(disch:=omega) only[ak,↓aj,seval,BL8,↓FR,FW]
   exact hN (k - 1) _ _ (by omega) ⟨i+1,ow5,L5,M5,by omega,(hk.trans (KeepO.of (ow:=ow') kN) hb).trans k5 hb,fun x hx=>ha5 x (ha x hx),fun x hx=>by
    rcases hb5 x hx with h | h
    ·exact hb x h
    ·right;rw[af,ac] at h;omega,hM5,akE hok hM.bv he5,hre,rfl,rfl,rfl,rfl,rfl,rfl,rfl,rfl,rfl⟩
 ·have hre:re 0 M0 l=.ok M':=by rw[hrun,Bp (by omega)];rfl
  have e1:uJ l=0:=by unfold uJ;rw[hre]
  have e2:OG l=l.length:=by unfold OG;rw[hre]
  have hin:i=l.length:=by omega
  have hrm:L'.rl.flatten.length=M'.rows.flatten.length:=by rw[←hM.rm,←List.map_flatten,np]
  have hrl:∀x∈L'.rl,x.length≤1000000:=fun x hx=>by
   obtain⟨j,hj,rfl⟩:=List.mem_iff_getElem.1 hx;have h1:=sK L'.rl j hj;have h2:=mH L'.rl (j+1);have h3:=hok.rows;omega
  have hfa:=hok.fa;have hcr:=hok.crl;have hs:=LV hM (by have:=ht.1;have:tabs.length=1:=rfl;omega) (by omega) hrl (by omega) (by omega);simp(disch:=omega) only[ak,↓aj,seval,BL8,hJ,hin,↓hv'.ln,↓FR,FW];refine c31 (by omega) (by omega) (PT mb L' M') hs fun l0 v8 h1 h2 hgv=>?_;obtain⟨cs,rfl,hcs,hone⟩:=hgv;have kK:=qi H' h1;have gK:=(kK.2 (H.n+1) (by omega) (by omega)).trans g1';have nK:=j7 l0 H'
  obtain⟨a1,a2,a3,a4,a5,a6,a7,a8,rfl⟩:∃a b c d e f g h,cs=[a,b,c,d,e,f,g,h]:=by
   match cs,hcs with
   | [a,b,c,d,e,f,g,h],_=>exact⟨a,b,c,d,e,f,g,h,rfl⟩
  simp only[lM,sV,wY,bg] at hone;obtain⟨o1,o2,o3,o4,o5,o6,o7,o8⟩:=hone;have hv6:=hv'.ln;simp(disch:=omega) only[ak,↓aj,seval,B8,↓hv6,gK,o1,o2,o3,o4,o5,o6,o7,o8,ar,↓FR,FW];rw[←e1,←e2];intro hkk;exact hq _ _ hkk rfl (by simp only[lM,sV,o1,o2,o3,o4,o5,o6,o7,o8,nO])
theorem E7:∀(cs:List IV),ax cs 0 []=cs
 | []=>rfl
 | _::_=>rfl
theorem mL:∀(cs:List IV) (i:Nat) (v:IV),ax cs i [v]=cs.set i v
 | [],_,_=>rfl
 | c::cs,0,v=>by show v::ax cs 0 []=_;rw[E7];rfl
 | c::cs,i+1,v=>by show c::ax cs i [v]=_;rw[mL cs i v];rfl
def NB(H:Heap)(b e:Nat):Prop:=∃cs,H.get b=some (.cells false e 20 cs)∧cs.length=20∧∀i,i < 20→∃n:Int,cs[i]? =some (.int .i64 n)
theorem NB.read{H:Heap}{b e:Nat}(h:NB H b e)(i:Nat)(hi:i < 20):∃n:Int,H.read b i 1=some [.int .i64 n]:=by
 obtain⟨cs,hg,hl,hc⟩:=h;obtain⟨n,hn⟩:=hc i hi;refine⟨n,?_⟩;rw[ah hg,if_pos (by omega)];obtain⟨h1,h2⟩:=List.getElem?_eq_some_iff.1 hn;rw[qh h1,h2];rfl
theorem NB.write{H:Heap}{b e:Nat}(h:NB H b e)(i:Nat)(hi:i < 20)(n:Int){lo:Nat}(hlo:lo≤b):∃o,H.write lo b i [.int .i64 n]=some (H.put b o)∧NB (H.put b o) b e:=by
 obtain⟨cs,hg,hl,hc⟩:=h
 have hw:H.write lo b i [.int .i64 n]=some (H.put b (.cells false e 20 (ax cs i [.int .i64 n]))):=by
  unfold Heap.write;rw[hg]
  show(if lo≤b∧i+1≤cs.length∧_ then _ else _)=_
  rw[if_pos ⟨hlo,by omega,rfl⟩]
 have hs:ax cs i [.int .i64 n]=cs.set i (.int .i64 n):=by
  exact mL cs i _
 refine⟨_,hw,_,by rw[ae,if_pos rfl],by rw[hs,cI];exact hl,fun j hj=>?_⟩
 rw[hs,List.getElem?_set];by_cases hij:i=j
 ·subst hij;rw[if_pos rfl,if_pos (by omega)];exact⟨n,rfl⟩
 ·rw[if_neg hij];exact hc j hj
theorem NB.same{H H':Heap}{b e:Nat}(h:NB H b e)(hg:H'.get b=H.get b):NB H' b e:=by
 obtain⟨cs,h1,h2⟩:=h;exact⟨cs,hg.trans h1,h2⟩
theorem NB.one{cs:List IV}(hl:cs.length=20)(hc:∀i,i < 20→∃n:Int,cs[i]? =some (.int .i64 n)):cs.all IV.one=true:=by
 rw[rq];intro x hx;obtain⟨i,hi,rfl⟩:=List.mem_iff_getElem.1 hx;obtain⟨n,hn⟩:=hc i (by omega);rw[gF hi] at hn;injection hn with hn;rw[hn];rfl
theorem C9:∀(l:List Opn) (i:Nat) (M M':Mc),re i M l=.ok M'→∀o∈l,O6 o=0
 | [],_,_,_,_,o,ho=>by cases ho
 | p::l,i,M,M',h,o,ho=>by
   rw[pD] at h;split at h
   ·cases h
   ·rename_i M1 h1;rcases List.mem_cons.1 ho with rfl | ho
    ·unfold doM at h1;split at h1
     ·cases h1
     ·rename_i h2;exact Decidable.not_not.1 h2
    ·exact C9 l _ _ _ h o ho
theorem GV:∀(l:List Opn) (i:Nat) (M:Mc) (j:Nat) (e:Int),re i M l=.error (j,e)→¬e=0
 | [],_,_,_,_,h=>by cases h
 | p::l,i,M,j,e,h=>by
   rw[pD] at h;split at h
   ·rename_i e1 h1;injection h with h;injection h with h2 h3;subst h3;exact Hn h1
   ·exact GV l _ _ j e h
theorem OH{l:List Opn}(h:uJ l=0):∀o∈l,O6 o=0:=by
 unfold uJ at h
 cases hr:re 0 M0 l with
 | error e=>
   obtain⟨i,e⟩:=e;rw[hr] at h;have h:e=0:=h;exact absurd h (GV l 0 M0 _ e hr)
 | ok M'=>exact C9 l 0 M0 M' hr
def ajx:List IV:=[.int .i64 0,.int .i64 0,.int .i64 0,.int .i64 0,.int .i64 0,.int .i64 0,.int .i64 0,.int .i64 0,.int .i64 0,.int .i64 0,.int .i64 0,.int .i64 0,.int .i64 0,.int .i64 0,.int .i64 0,.int .i64 0,.int .i64 0,.int .i64 0,.int .i64 0,.int .i64 0]
theorem wP:∀(a b:List IV),b.length=a.length→ax a 0 b=b
 | [],[],_=>rfl
 | _::_,[],h=>by cases h
 | [],_::_,h=>by cases h
 | a::cs,b::bs,h=>by show b::ax cs 0 bs=_;rw[wP cs bs (by simpa using h)]
theorem LM.nil:LM []:=by intro e h;cases h
def BJ(tm:List IV)(h:tm.length=125):=(cS tm 125 h).trans (by simp only[List.range,List.range.loop,bI,bj];exact rfl)
theorem amg{v:SV}{l:List Opn}{H:Heap}(ht:Tabs tabs H)(hv:Sl H v l)(hl:l.length≤100)(hs:∀H',zj 6 H' v){lo:Nat}{Q:Out→Heap→Prop}(hlo:lo≤H.n)
  (hq:∀H' cs,Keep H.n H H'→cs.length=20→cs.all IV.one=true→(uJ l≠0→cs=ajx)→Q (.val (.tuple [.agg cs,.int .i64 (uJ l)])) H'):
  W E0 lo (.call 10 [v.iv]) H Q:=by
 refine W.pure bJ hlo ?_;rw[c10];simp(disch:=omega) only[ak,↓aj,seval,B10,ar,↓FR,FW];generalize hH_H1:Heap.new _ _=H1;have hnH1:H1.n=H.n+1:=by rw[←hH_H1];rfl
 have g0:=congrArg (fun h0=>Heap.get h0 (H.n)) hH_H1.symm;simp(disch:=omega) only[ak,↓aj,seval] at g0
 have kH1:Keep H.n H H1:=⟨by omega,fun x hx _=>by
  have gx:=congrArg (fun h0=>Heap.get h0 x) hH_H1.symm;simp(disch:=omega) only[ak,↓aj,seval] at gx;exact gx⟩
 clear hH_H1;refine CX (by omega) fun H2 k2 hn2 gy gt0=>?_;have hv2:=(hv.keep kH1).keep k2;replace g0:=(k2.2 _ (by omega) (by omega)).trans g0;simp(disch:=omega) only[ak,↓aj,seval,B10,↓FR,FW];have kk2:Keep H.n H H2:=kH1.trans (k2.lower (by omega));refine OE (ht.keep' kk2) gy gt0 (by omega) (by omega) hv2 (by omega) (by omega) fun H3 cs k3 hcs hone=>?_;have hn3:=k3.1;replace g0:=(k3.2 _ (by omega) (by omega)).trans g0;have hv3:=hv2.keep k3;have kk3:Keep H.n H H3:=kk2.trans (k3.lower (by omega));by_cases he:uJ l=0
 ·simp(disch:=omega) only[ak,↓aj,seval,B10,he,g0,hcs,hone,ar,↓FR,FW]
  refine Mp (hv3.keep Keep.newPut) (by omega) hs (by rw[af,ac];omega) fun H5 n5 k5'=>?_;have k5:Keep H3.n H3 H5:=Keep.newPut.trans (k5'.lower (by rw[af,ac];omega));clear k5';have hn5:=k5.1;have hv5:=hv3.keep k5;replace g0:=(k5.2 _ (by omega) (by omega)).trans g0;simp(disch:=omega) only[ak,↓aj,seval,B10,↓FR,FW];refine OZ hv5 (by omega) hs (by omega) fun H6 n6 k6=>?_;have hn6:=k6.1;have hv6:=hv5.keep k6;replace g0:=(k6.2 _ (by omega) (by omega)).trans g0;simp(disch:=omega) only[ak,↓aj,seval,B10,ar,↓hv6.ln,↓FR,FW];have kk6:Keep H.n H H6:=kk3.trans ((k5.lower (by omega)).trans (k6.lower (by omega)));generalize hH_Hs:Heap.new _ _=Hs;have hnHs:Hs.n=H6.n+2:=by rw[←hH_Hs];rfl
  have gt:=congrArg (fun h0=>Heap.get h0 (H6.n)) hH_Hs.symm;simp(disch:=omega) only[ak,↓aj,seval] at gt;have gm:=congrArg (fun h0=>Heap.get h0 (H6.n+1)) hH_Hs.symm;simp(disch:=omega) only[ak,↓aj,seval] at gm
  have kHs:Keep H6.n H6 Hs:=⟨by omega,fun x hx _=>by
   have gx:=congrArg (fun h0=>Heap.get h0 x) hH_Hs.symm;simp(disch:=omega) only[ak,↓aj,seval] at gx;exact gx⟩
  clear hH_Hs;have hvs:=hv6.keep kHs;replace g0:=(kHs.2 _ (by omega) (by omega)).trans g0;obtain⟨tb,htb⟩:∃tb,tb=H6.n:=⟨_,rfl⟩;obtain⟨mb,hmb⟩:∃mb,mb=H6.n+1:=⟨_,rfl⟩;rw[←hmb,←htb];rw[←htb] at gt;rw[←hmb] at gm
  have hnb:NB Hs tb 44:=⟨_,gt,rfl,fun i hi=>by
   rcases(by omega:i=0∨i=1∨i=2∨i=3∨i=4∨i=5∨i=6∨i=7∨i=8∨i=9∨i=10∨i=11∨i=12∨i=13∨i=14∨i=15∨i=16∨i=17∨i=18∨i=19) with h | h | h | h | h | h | h | h | h | h | h | h | h | h | h | h | h | h | h | h<;>(subst h;exact⟨_,rfl⟩)⟩
  have hall:=OH he;have kks:Keep H.n H Hs:=kk6.trans (kHs.lower (by omega));have hgz:Hs.get H.n=some (.cells false 44 20 ajx):=g0;clear gt g0 k2 gy gt0 hv2 k3 hv3 k5 hv5 k6 hv6 hcs hone kk2 kk3 kk6
  refine aP (fun k fr H'=>∃(i:Nat) (rk:Int) (es:List (IV×IV×Nat)) (c:Nat),i+k=l.length∧NB H' tb 44∧H'.get mb=some (.map es c)∧LM es∧KeepO [tb,mb] Hs H'∧fr.marks=[]∧fr.tm.length=125∧fr.tm.getD 2 IV.undef=.ptr H.n 0∧fr.tm.getD 7 IV.undef=.ptr tb 0∧fr.tm.getD 8 IV.undef=.int .i64 rk∧fr.tm.getD 9 IV.undef=.map mb∧fr.tm.getD 35 IV.undef=v.iv∧fr.tm.getD 36 IV.undef=.int .i64 l.length∧fr.tm.getD 37 IV.undef=.int .i64 i) ?_ l.length
   ⟨0,0,[],0,by omega,hnb,gm,LM.nil,KeepO.refl _ _,rfl,rfl,rfl,rfl,rfl,rfl,rfl,rfl,rfl⟩
  rintro k ⟨tm,mk⟩ H' ⟨i,rk,es,c,hik,hb,hg,hes,hk,rfl,htm,t2,t7,t8,t9,t35,t36,t37⟩ L1 hN hJ;have hn':=hk.1;have hlow:∀x,x < tb→H'.get x=Hs.get x:=fun x hx=>hk.2 x (by omega) (by simp;omega);have hv':Sl H' v l:=hvs.same hn' fun hne=>hlow _ (by have:=hv.blk_lt hne;omega);rw[BJ tm htm,t2,t7,t8,t9,t35,t36,t37];by_cases hi:i < l.length
  ·have r1:=hv'.read tK i hi;obtain⟨q1,q2,q3,q4,q5,q6,q7,q8⟩:=Fu (hall _ (bQ hi));generalize hoo:l[i]=oo at r1 q1 q2 q3 q4 q5 q6 q7 q8;rw[gl] at r1;have kN:∀kk:Int,Keep H'.n H' ((H'.new (.cells false 56 6 [.int .u8 0,.int .u8 0,.int .u8 0,.int .i64 0,.int .u8 0,.int .i64 0])).put H'.n (.cells false 56 6 [.int .u8 kk,.int .u8 oo.d,.int .u8 oo.b,.int .i64 oo.a,.int .u8 oo.y,.int .i64 oo.r])):=fun _=>Keep.newPut;have gN0:∀kk:Int,((H'.new (.cells false 56 6 [.int .u8 0,.int .u8 0,.int .u8 0,.int .i64 0,.int .u8 0,.int .i64 0])).put H'.n (.cells false 56 6 [.int .u8 kk,.int .u8 oo.d,.int .u8 oo.b,.int .i64 oo.a,.int .u8 oo.y,.int .i64 oo.r])).get H'.n=some (.cells false 56 6 [.int .u8 kk,.int .u8 oo.d,.int .u8 oo.b,.int .i64 oo.a,.int .u8 oo.y,.int .i64 oo.r]):=fun _=>by rw[ae,if_pos rfl]
   have up:∀HX,KeepO [tb,mb] H' HX→KeepO [tb,mb] Hs HX:=fun HX k=>hk.trans k fun x hx=>.inl hx;have big:tb < H'.n∧mb < H'.n:=by omega
   by_cases h3:oo.k=3
   ·simp(disch:=omega) only[ak,↓aj,seval,EN,h3,↓hv'.idx,r1,ar,↓FR,FW]
    exact hN (k - 1) _ _ (by omega) ⟨i+1,oo.r,es,c,by omega,hb.same ((kN 3).2 tb big.1 big.1),((kN 3).2 mb big.2 big.2).trans hg,hes,up _ (KeepO.of (kN 3)),rfl,rfl,rfl,rfl,rfl,rfl,rfl,rfl,rfl⟩
   ·by_cases h2:oo.k=2
    ·obtain⟨y1,y2⟩:=q6 h2;obtain⟨j,hj,hjy⟩:∃j:Nat,j < 6∧oo.y=(j:Int)+1:=⟨(oo.y - 1).toNat,by omega,by omega⟩;simp(disch:=omega) only[ak,↓aj,seval,mE,mD,mC,mA,mz,my,mw,mv,mu,mt,jI,jH,jG,jF,jE,jD,kv,jC,jB,jA,jz,mB,jy,ku,jx,pu,jw,jv,ly,ju,yC,NH,h2,↓hv'.idx,r1,ar,↓FR,FW];have kN2:=kN 2;have gN:=gN0 2;generalize Heap.put _ _ _=HN at kN2 gN⊢;have hnN:=kN2.1;have hbN:=hb.same (kN2.2 tb big.1 big.1);have hgN:=(kN2.2 mb big.2 big.2).trans hg;have rN:=ah gN;obtain⟨n,ok,hlk⟩:=LM.look hgN hes oo.y 89 H.n;clear kN gN0
     cases ok with
     | false=>
       simp(disch:=omega) only[ak,↓aj,seval,EN,↓hlk,rN,ar,↓FR,FW]
       exact hN (k - 1) _ _ (by omega) ⟨i+1,rk,es,c,by omega,hbN,hgN,hes,up _ (KeepO.of kN2),rfl,rfl,rfl,rfl,rfl,rfl,rfl,rfl,rfl⟩
     | true=>
       rw[hjy] at hlk;obtain⟨m,hm⟩:=hbN.read (j*3+2) (by omega);obtain⟨o,hw,hbw⟩:=hbN.write (j*3+2) (by omega) (IntKind.i64.wrap (m+1)) (lo:=H.n) (by omega);simp(disch:=omega) only[BAY,↓aj,seval,mE,mD,mC,mA,mz,my,mw,mv,mu,mt,jI,jH,jG,jF,kw,jE,jD,jC,jB,jA,jz,mB,jy,ku,jx,pu,jw,jv,ly,ju,yC,NH,↓hlk,rN,hjy,hm,hw,show((j:Int)+1 - 1)=j by omega,ar,↓FR,FW];obtain⟨es',c',HD,hd,gD,hesD,kD⟩:=LM.del (H:=HN.put tb o) (b:=mb) (by rw[ae,if_neg (by omega)];exact hgN) hes ((j:Int)+1) H.n (by omega);have rN':=ah (show(HN.put tb o).get H'.n=_ by rw[ae,if_neg (by omega)];exact gN);simp(disch:=omega) only[ak,↓aj,seval,EN,↓hd,rN',hjy,ar,↓FR,FW];exact hN (k - 1) _ _ (by omega) ⟨i+1,rk,es',c',by omega,hbw.same (kD.2 tb (by rw[af];omega) (by simp;omega)),gD,hesD,up _ (((KeepO.of kN2).trans (KeepO.put (ow:=[tb,mb]) (by simp)) fun x hx=>.inl hx).trans kD fun x hx=>.inl (by simp at hx⊢;exact .inr hx)),rfl,rfl,rfl,rfl,rfl,rfl,rfl,rfl,rfl⟩
    ·by_cases h4:oo.k=4∨oo.k=5
     ·obtain⟨-, -,y1,y2⟩:=q7 (by omega);obtain⟨j,hj,hjy⟩:∃j:Nat,j < 6∧oo.y=(j:Int)+1:=⟨(oo.y - 1).toNat,by omega,by omega⟩;have hidx:=hv'.idx
      have key:∀(kk:Int) (H5:Heap) (fr:Fr) (sp:Int),KeepO [tb,mb] H' H5→H5.get H'.n=some (.cells false 56 6 [.int .u8 kk,.int .u8 oo.d,.int .u8 oo.b,.int .i64 oo.a,.int .u8 ((j:Int)+1),.int .i64 oo.r])→NB H5 tb 44→H5.get mb=some (.map es c)→fr.marks=[]→fr.tm.length=125→fr.tm.getD 2 IV.undef=.ptr H.n 0→fr.tm.getD 7 IV.undef=.ptr tb 0→fr.tm.getD 8 IV.undef=.int .i64 rk→fr.tm.getD 9 IV.undef=.map mb→fr.tm.getD 35 IV.undef=v.iv→fr.tm.getD 36 IV.undef=.int .i64 l.length→fr.tm.getD 37 IV.undef=.int .i64 i→fr.tm.getD 11 IV.undef=.ptr H'.n 0→fr.tm.getD 14 IV.undef=.ptr tb (j*3)→fr.tm.getD 15 IV.undef=.int .i64 sp→
       W E0 H.n (.code GJ none fr) H5 (jo E0 H.n none (F10o23.seq (IC.cond (IA.tmp 90) GI GH))
         (jo E0 H.n none (F10o26.seq CD) (pV 2 (pV 1 (jo E0 H.n none CC L1))))):=by
       rintro kk H5 ⟨tm',mk'⟩ sp k5 g5 hb5 gm5 hmk htm' a2 a7 a8 a9 a35 a36 a37 a11 a14 a15;have hmk:mk'=[]:=hmk;subst hmk
       have fin:∀(H7:Heap) (fr:Fr),KeepO [tb,mb] H' H7→H7.get H'.n=some (.cells false 56 6 [.int .u8 kk,.int .u8 oo.d,.int .u8 oo.b,.int .i64 oo.a,.int .u8 ((j:Int)+1),.int .i64 oo.r])→NB H7 tb 44→H7.get mb=some (.map es c)→fr.marks=[]→fr.tm.length=125→fr.tm.getD 2 IV.undef=.ptr H.n 0→fr.tm.getD 7 IV.undef=.ptr tb 0→fr.tm.getD 8 IV.undef=.int .i64 rk→fr.tm.getD 9 IV.undef=.map mb→fr.tm.getD 35 IV.undef=v.iv→fr.tm.getD 36 IV.undef=.int .i64 l.length→fr.tm.getD 37 IV.undef=.int .i64 i→fr.tm.getD 11 IV.undef=.ptr H'.n 0→fr.tm.getD 14 IV.undef=.ptr tb (j*3)→fr.tm.getD 15 IV.undef=.int .i64 sp→
         W E0 H.n (.code F10o26 none fr) H7 (jo E0 H.n none CD (pV 2 (pV 1 (jo E0 H.n none CC L1)))):=by
        rintro H7 ⟨tm',mk'⟩ k7 g7 hb7 gm7 hmk htm' a2 a7 a8 a9 a35 a36 a37 a11 a14 a15;have hmk:mk'=[]:=hmk;subst hmk;obtain⟨m,hm⟩:=hb7.read (j*3) (by omega);obtain⟨o,hw,hbw⟩:=hb7.write (j*3) (by omega) (IntKind.i64.wrap (m+1)) (lo:=H.n) (by omega);obtain⟨es',c',hu,hes'⟩:=LM.upd (H:=H7.put tb o) (b:=mb) (by rw[ae,if_neg (by omega)];exact gm7) hes ((j:Int)+1) sp H.n (by omega);have rN':=ah (show(H7.put tb o).get H'.n=_ by rw[ae,if_neg (by omega)];exact g7);rw[BJ tm' htm',a2,a7,a8,a9,a35,a36,a37,a11,a14,a15];simp(disch:=omega) only[BAY,↓aj,seval,EN,hm,hw,↓hu,rN',ar,↓FR,FW];exact hN (k - 1) _ _ (by omega) ⟨i+1,rk,es',c',by omega,hbw.same (by rw[ae,if_neg (by omega)]),by rw[ae,if_pos rfl],hes',up _ ((k7.trans (KeepO.put (ow:=[tb,mb]) (by simp)) fun x hx=>.inl hx).trans (KeepO.put (ow:=[tb,mb]) (by simp)) fun x hx=>.inl hx),rfl,rfl,rfl,rfl,rfl,rfl,rfl,rfl,rfl⟩
       obtain⟨n,ok,hlk⟩:=LM.look gm5 hes ((j:Int)+1) 89 H.n;have rN:=ah g5;rw[BJ tm' htm',a2,a7,a8,a9,a35,a36,a37,a11,a14,a15]
       cases ok with
       | false=>
         obtain⟨m,hm⟩:=hb5.read (j*3+2) (by omega);obtain⟨o,hw,hbw⟩:=hb5.write (j*3+2) (by omega) (IntKind.i64.wrap (m+1)) (lo:=H.n) (by omega);simp(disch:=omega) only[BAY,↓aj,seval,mE,mD,mC,mA,mz,my,mw,mv,mu,mt,jI,jH,jG,jF,kw,jE,jD,kv,jC,jB,jA,jz,mB,jy,ku,jx,jw,jv,ly,ju,yC,NH,hm,hw,↓hlk,rN,ar,↓FR,FW];exact fin _ _ (k5.trans (KeepO.put (ow:=[tb,mb]) (by simp)) fun x hx=>.inl hx) (by rw[ae,if_neg (by omega)];exact g5) hbw (by rw[ae,if_neg (by omega)];exact gm5) rfl rfl rfl rfl rfl rfl rfl rfl rfl rfl rfl rfl
       | true=>
         obtain⟨m,hm⟩:=hb5.read (j*3+1) (by omega);simp(disch:=omega) only[BAY,↓aj,seval,mE,mD,mC,mA,mz,my,mw,mv,mu,mt,jI,jH,jG,jF,kw,jE,jD,kv,jC,jB,jA,jz,mB,jy,jx,pu,jw,jv,ly,ju,yC,NH,hm,↓hlk,rN,ar,↓FR,FW];by_cases hgt:IntKind.i64.wrap (n - sp)>IntKind.i64.wrap (sp - n)
         ·obtain⟨o,hw,hbw⟩:=hb5.write (j*3+1) (by omega) (IntKind.i64.wrap (m+IntKind.i64.wrap (n - sp))) (lo:=H.n) (by omega);simp(disch:=omega) only[BAY,↓aj,seval,mE,mD,mC,mA,mz,my,mw,mv,mu,mt,jI,jH,jG,jF,kw,jE,jD,kv,jC,jB,jA,jz,mB,jy,ku,jx,jw,jv,ly,ju,yC,NH,hm,hgt,hw,ar,↓FR,FW];exact fin _ _ (k5.trans (KeepO.put (ow:=[tb,mb]) (by simp)) fun x hx=>.inl hx) (by rw[ae,if_neg (by omega)];exact g5) hbw (by rw[ae,if_neg (by omega)];exact gm5) rfl rfl rfl rfl rfl rfl rfl rfl rfl rfl rfl rfl
         ·obtain⟨o,hw,hbw⟩:=hb5.write (j*3+1) (by omega) (IntKind.i64.wrap (m+IntKind.i64.wrap (sp - n))) (lo:=H.n) (by omega);simp(disch:=omega) only[BAY,↓aj,seval,mE,mD,mC,mA,mz,my,mw,mv,mu,mt,jI,jH,jG,jF,kw,jE,jD,kv,jC,jB,jA,jz,mB,jy,ku,jx,jw,jv,ly,ju,yC,NH,hm,hgt,hw,ar,↓FR,FW];exact fin _ _ (k5.trans (KeepO.put (ow:=[tb,mb]) (by simp)) fun x hx=>.inl hx) (by rw[ae,if_neg (by omega)];exact g5) hbw (by rw[ae,if_neg (by omega)];exact gm5) rfl rfl rfl rfl rfl rfl rfl rfl rfl rfl rfl rfl
      have hread:∀kk:Int,_:=fun kk=>gN0 kk;rw[hjy] at hread kN;rcases h4 with h4 | h4
      ·simp(disch:=omega) only[ak,↓aj,seval,EN,h4,hjy,↓hidx,r1,show((j:Int)+1 - 1)=j by omega,ar,↓FR,FW]
       refine iX oo.b oo.a rk (by rw[af,ac];omega) fun H5 k5=>?_;have k15:=(kN 4).trans (k5.lower (by rw[af,ac];omega));simp(disch:=omega) only[ak,↓aj,seval,mE,mD,mC,mA,mz,my,mw,mv,mu,mt,jI,jH,jG,jF,kw,jE,jD,kv,jC,jB,jA,jz,jy,ku,jx,pu,jw,jv,ly,ju,yC,NH,ar,↓FR,FW];exact key 4 _ _ _ (KeepO.of k15) ((k5.2 H'.n (by rw[af,ac];omega) (by rw[af,ac];omega)).trans (hread 4)) (hb.same (k15.2 tb big.1 big.1)) ((k15.2 mb big.2 big.2).trans hg) rfl rfl rfl rfl rfl rfl rfl rfl rfl rfl rfl rfl
      ·simp(disch:=omega) only[ak,↓aj,seval,EN,h4,hjy,↓hidx,r1,show((j:Int)+1 - 1)=j by omega,ar,↓FR,FW]
       refine iX oo.b oo.a rk (by rw[af,ac];omega) fun H5 k5=>?_;have k15:=(kN 5).trans (k5.lower (by rw[af,ac];omega));simp(disch:=omega) only[ak,↓aj,seval,mE,mD,mC,mA,mz,my,mw,mv,mu,mt,jI,jH,jG,jF,kw,jE,jD,kv,jC,jB,jA,jz,jy,ku,jx,pu,jw,jv,ly,ju,yC,NH,ar,↓FR,FW];exact key 5 _ _ _ (KeepO.of k15) ((k5.2 H'.n (by rw[af,ac];omega) (by rw[af,ac];omega)).trans (hread 5)) (hb.same (k15.2 tb big.1 big.1)) ((k15.2 mb big.2 big.2).trans hg) rfl rfl rfl rfl rfl rfl rfl rfl rfl rfl rfl rfl
     ·simp(disch:=omega) only[ak,↓aj,seval,EN,h3,h2,show ¬oo.k=4 by omega,show ¬oo.k=5 by omega,↓hv'.idx,r1,ar,↓FR,FW]
      exact hN (k - 1) _ _ (by omega) ⟨i+1,rk,es,c,by omega,hb.same ((kN oo.k).2 tb big.1 big.1),((kN oo.k).2 mb big.2 big.2).trans hg,hes,up _ (KeepO.of (kN oo.k)),rfl,rfl,rfl,rfl,rfl,rfl,rfl,rfl,rfl⟩
  ·have g2:=(hlow H.n (by omega)).trans hgz;obtain⟨cs,gt,hcl,hcs⟩:=hb;have rt:=ah gt 0 20;rw[if_pos (by omega),wZ,bW (by omega)] at rt
   have hw:H'.write H.n H.n 0 cs=some (H'.put H.n (.cells false 44 20 cs)):=by
    unfold Heap.write;rw[g2]
    show(if _∧_∧_ then _ else _)=_
    rw[if_pos ⟨au _,by rw[hcl];exact au _,NB.one hcl hcs⟩,wP _ _ (by rw[hcl];rfl)]
   have rt':=ah (show(H'.put H.n (.cells false 44 20 cs)).get H.n=_ by rw[ae,if_pos rfl]) 0 20;rw[if_pos (by omega),wZ,bW (by omega)] at rt';simp(disch:=omega) only[BAY,↓aj,seval,EN,hJ,rt,rt',hw,hcl,ar,↓FR,FW];have e0:IV.int .i64 0=IV.int .i64 (uJ l):=by rw[he]
   rw[e0];exact fun hk=>hq _ _ hk hcl (NB.one hcl hcs) fun hne=>absurd he hne
 ·simp(disch:=omega) only[ak,↓aj,seval,B10,he,g0,hcs,hone,ar,↓FR,FW]
  exact fun hk=>hq _ _ hk rfl rfl fun _=>rfl
theorem uQ{v:SV}{l:List Opn}{H:Heap}(ht:Tabs tabs H)(hv:Sl H v l)(hs:∀H',zj 6 H' v):W E0 H.n (.call 3 [v.iv]) H (fun o _=>o=.val (.bool true)):=by
 rw[c3];by_cases hl:((l.length:Nat):Int)>20
 ·simp(disch:=omega) only[ak,↓aj,seval,B3,↓hv.ln,hl,↓FR,FW]
  refine c7 ht ?_;simp(disch:=omega) only[ak,↓aj,seval,B3,↓FR,FW]
 ·simp(disch:=omega) only[ak,↓aj,seval,B3,↓hv.ln,hl,↓FR,FW]
  refine CX (by omega) fun H2 k2 hn2 gy gt=>?_;simp(disch:=omega) only[ak,↓aj,seval,B3,↓FR,FW];refine OE (ht.keep' k2) gy gt (by omega) (by omega) (hv.keep k2) (by omega) (by omega) fun H3 cs k3 hcs hone=>?_;have hn3:=k3.1;have hv3:=(hv.keep k2).keep k3;have ht3:=(ht.keep' k2).keep' k3;simp(disch:=omega) only[ak,↓aj,seval,B3,hcs,hone,ar,↓FR,FW];have kN:Keep H3.n H3 ((H3.new (.cells false 35 8 [.int .i64 0,.nilSlice,.nilSlice,.nilSlice,.nilSlice,.nilSlice,.nilSlice,.nilSlice])).put H3.n (.cells false 35 8 (ax [.int .i64 0,.nilSlice,.nilSlice,.nilSlice,.nilSlice,.nilSlice,.nilSlice,.nilSlice] 0 cs))):=Keep.newPut;refine amg (ht3.keep' kN) (hv3.keep kN) (by omega) hs (by rw[af,ac];omega) fun H4 ct k4 hct hone' hz=>?_;have ht4:=(ht3.keep' kN).keep' k4;clear kN;have hn4:=k4.1;rw[af,ac] at hn4;by_cases he:uJ l=0
  ·simp(disch:=omega) only[ak,↓aj,seval,B3,he,hct,hone',ar,↓FR,FW]
   refine c7 (ht4.keep' Keep.newPut) ?_;simp(disch:=omega) only[ak,↓aj,seval,B3,↓FR,FW]
  ·have hz:=hz he;subst hz;simp(disch:=omega) only[ak,↓aj,seval,B3,he,ajx,ar,↓FR,FW];refine c7 (ht4.keep' Keep.newPut) ?_;simp(disch:=omega) only[ak,↓aj,seval,B3,↓FR,FW]
end Go.Iso.Gen
end
