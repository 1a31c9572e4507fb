/-
  operations in any order that the model draws come to what the evaluator gives.
-/
import Derived.Test.YtpnbiapmndbhgaaGreatDoorIsoP2
set_option linter.unusedSimpArgs false
set_option linter.unusedVariables false
namespace Go.Iso
def aZ(f:FuncId)(rd:Option Nat)(tmps:Array Value)(ds:List Deferred)(todo:List Item):Frame:=
 {fn:=f,tmps,todo,defers:=ds,mode:=.run,kind:=.normal,roundOf:=rd}
section
variable {P:Program}{f:FuncId}{rd:Option Nat}{t:Array Value}{ds:List Deferred}{k:List Item}{cs:List Frame}{w:World}
theorem My:step P (lone (aZ f rd t ds (.code .skip::k)) cs w)=.next (lone (aZ f rd t ds k) cs w):=
 step_lone_go (by simp[stepG,stepG.exec,aZ])
theorem IK{l:Nat}:step P (lone (aZ f rd t ds (.code (.label l)::k)) cs w)=.next (lone (aZ f rd t ds k) cs w):=
 step_lone_go (by simp[stepG,stepG.exec,aZ])
theorem vm{id:Nat}:step P (lone (aZ f rd t ds (.inBlock id::k)) cs w)=.next (lone (aZ f rd t ds k) cs w):=
 step_lone_go (by simp[stepG,stepG.exec,aZ])
theorem De{c:Code}:step P (lone (aZ f rd t ds (.inScope c::k)) cs w)=.next (lone (aZ f rd t ds k) cs w):=
 step_lone_go (by simp[stepG,stepG.exec,aZ])
theorem Dd{x y:Code}:step P (lone (aZ f rd t ds (.code (.seq x y)::k)) cs w)=.next (lone (aZ f rd t ds (.code x::.code y::k)) cs w):=
 step_lone_go (by simp[stepG,stepG.exec,aZ])
theorem A2{id:Nat}{c:Code}:step P (lone (aZ f rd t ds (.code (.block id c)::k)) cs w)=.next (lone (aZ f rd t ds (.code c::.inBlock id::k)) cs w):=
 step_lone_go (by simp[stepG,stepG.exec,aZ])
theorem II{c:Code}:step P (lone (aZ f rd t ds (.code (.scope c)::k)) cs w)=.next (lone (aZ f rd t ds (.code c::.inScope c::k)) cs w):=
 step_lone_go (by simp[stepG,stepG.exec,aZ])
theorem zn{c:Code}:step P (lone (aZ f rd t ds (.code (.loop c)::k)) cs w)=.next (lone (aZ f rd t ds (.code c::.inLoop c::k)) cs w):=
 step_lone_go (by simp[stepG,stepG.exec,aZ])
theorem rE{c:Code}:step P (lone (aZ f rd t ds (.inLoop c::k)) cs w)=.next (lone (aZ f rd t ds (.code c::.inLoop c::k)) cs w):=
 step_lone_go (by simp[stepG,stepG.exec,aZ])
theorem EY{id:Nat}{k':List Item}(h:exitTo id k=some k'):step P (lone (aZ f rd t ds (.code (.exit id)::k)) cs w)=.next (lone (aZ f rd t ds k') cs w):=
 step_lone_go (by simp[stepG,stepG.exec,aZ,h])
theorem Mz{c:Operand}{x y:Code}{b:Bool}(h:(aZ f rd t ds (.code (.cond c x y)::k)).eval c=.bool b):
  step P (lone (aZ f rd t ds (.code (.cond c x y)::k)) cs w)=.next (lone (aZ f rd t ds (.code (if b then x else y)::k)) cs w):=
 step_lone_go (by
  simp only[aZ] at h;simp[stepG,stepG.exec,aZ,h])
theorem xr{id:Nat}{ops:Array Oper}:step P (lone (aZ f rd t ds (.code (.region id ops false)::k)) cs w)=.next (lone (aZ f rd t ds (.inRegion ops (List.range ops.size)::k)) cs w):=
 step_lone_go (by simp[stepG,stepG.exec,aZ])
theorem vk{id:Nat}{ops:Array Oper}:step P (lone (aZ f rd t ds (.code (.region id ops true)::k)) cs w)=
  .next (lone (aZ f rd t ds (.inRegion ops (Region.schedule (P.follows .mixedOrders) ops (w.tape w.drawn (.order f id)))::k)) cs {w with drawn:=w.drawn+1}):=
 step_lone_go (by simp[stepG,stepG.exec,aZ,choose,Sem.run,Question.forced,Question.cut])
theorem kq{ops:Array Oper}:step P (lone (aZ f rd t ds (.inRegion ops []::k)) cs w)=.next (lone (aZ f rd t ds k) cs w):=
 step_lone_go (by simp[stepG,stepG.exec,aZ])
def mG(t:Array Value)(d:Option Tmp)(v:Value):Array Value:=
 match d with
 | some d=>t.setIfInBounds d v
 | none=>t
theorem lX{ops:Array Oper}{i:Nat}{rest:List Nat}{o:Oper}(ho:ops[i]? =some o)(v:Value):
  (aZ f rd t ds (.inRegion ops (i::rest)::k)).finish v=aZ f rd (mG t o.dst v) ds (.inRegion ops rest::k):=by
 cases hd:o.dst<;>simp[Frame.finish,aZ,ho,mG,hd]
theorem vl{ops:Array Oper}{i:Nat}{rest:List Nat}{o:Oper}(ho:ops[i]? =some o)(hw:Region.wanted o (yielded ops t)=false):
  step P (lone (aZ f rd t ds (.inRegion ops (i::rest)::k)) cs w)=.next (lone (aZ f rd (mG t o.dst undef) ds (.inRegion ops rest::k)) cs w):=by
 rw[←lX ho];refine step_lone_go ?_;simp only[aZ];simp[stepG,stepG.exec,ho,hw]
theorem mU{ops:Array Oper}{i:Nat}{rest:List Nat}{o:Oper}(ho:ops[i]? =some o)(hw:Region.wanted o (yielded ops t)=true)(hnd:∀c,o.op≠.defer c):
  stepG P true {frame:=aZ f rd t ds (.inRegion ops (i::rest)::k),callers:=cs,status:=.running,dying:=none} w=
   stepG.apply P true (aZ f rd t ds (.inRegion ops (i::rest)::k)) cs none (execOp (aZ f rd t ds (.inRegion ops (i::rest)::k)).eval o) w:=by
 have h2:stepG.oper P true (aZ f rd t ds (.inRegion ops (i::rest)::k)) cs none w=
   stepG.apply P true (aZ f rd t ds (.inRegion ops (i::rest)::k)) cs none (execOp (aZ f rd t ds (.inRegion ops (i::rest)::k)).eval o) w:=by
  have ho':(aZ f rd t ds (.inRegion ops (i::rest)::k)).oper? =some o:=by simp[Frame.oper?,aZ,ho]
  unfold stepG.oper;simp only[ho']
  cases hr:(aZ f rd t ds (.inRegion ops (i::rest)::k)).roundOf with
  | none=>simp only
  | some l=>
    cases hop:o.op with
    | defer c=>exact absurd hop (hnd c)
    | _=>simp only
 rw[←h2];simp only[aZ];simp[stepG,stepG.exec,ho,hw]
def bW(t:Array Value):Operand→Value
 | .tmp i=>t.getD i undef
 | .const v=>v
 | .global g=>.pointer (some ⟨g,0,none⟩)
 | .func f=>.func (.func f) #[] #[]
theorem nv(todo:List Item):(aZ f rd t ds todo).eval=bW t:=by funext x;cases x<;>rfl
theorem A1{ops:Array Oper}{i:Nat}{rest:List Nat}{o:Oper}(ho:ops[i]? =some o)(hw:Region.wanted o (yielded ops t)=true)(hnd:∀c,o.op≠.defer c){nx:Next}{v:Value}{w':World}
  (hr:(execOp (bW t) o).run P w=.ok nx w') (hnx:nx=.value v∨(nx=.skip∧v=undef)):
  step P (lone (aZ f rd t ds (.inRegion ops (i::rest)::k)) cs w)=.next (lone (aZ f rd (mG t o.dst v) ds (.inRegion ops rest::k)) cs w'):=by
 rw[←lX ho];refine step_lone_go ?_;rw[mU ho hw hnd,nv];rcases hnx with rfl | ⟨rfl,rfl⟩
 ·simp[stepG.apply,hr]
 ·simp[stepG.apply,hr]
end
section
variable {P:Program}{g0 lo:Nat}{μ:Mu}{w:World}
def FD(P:Program)(g0:Nat)(o:Oper)(lo:Nat)(xs:List IV)(H:Heap)(v:IV)(H':Heap):Prop:=
 ∀(μ:Mu) (w:World) (t:Array Value),Rel P g0 μ H.get H.n w→VRs μ xs (o.op.operands.toList.map (bW t))→
  ∀(f:FuncId) (rd:Option Nat) (ds:List Deferred) (k:List Item) (cs:List Frame) (ops:Array Oper) (i:Nat) (rest:List Nat),
  ∃(v':Value) (w':World) (μ':Mu),Rel P g0 μ' H'.get H'.n w'∧Post lo μ H.get H.n w μ' H'.get H'.n w'∧VR μ' v v'∧
   (ops[i]? =some o→Region.wanted o (yielded ops t)=true→Steps P (lone (aZ f rd t ds (.inRegion ops (i::rest)::k)) cs w) (lone (aZ f rd (mG t o.dst v') ds (.inRegion ops rest::k)) cs w'))
theorem vV{o:Oper}{kd:Kd}(h:bG P o.op=some kd):∀c,o.op≠.defer c:=fun c e=>by rw[e] at h;simp[bG] at h
theorem rL{o:Oper}{kd:Kd}{xs:List IV}{H H':Heap}{v:IV}(hk:bG P o.op=some kd)(he:ev1 kd xs lo H=some (v,H')):FD P g0 o lo xs H v H':=by
 intro μ w t hr hx f rd ds k cs ops i rest;obtain⟨nx,v',w',μ',hrun,hnx,hr',hp,hv⟩:=G6 hk he hr hx;exact⟨v',w',μ',hr',hp,hv,fun ho hw=>.one (A1 ho hw (vV hk) hrun hnx)⟩
def CallSim(P:Program)(g0:Nat)(f:FuncId)(args:List IV)(lo:Nat)(H:Heap)(v:IV)(H':Heap):Prop:=
 ∀(μ:Mu) (w:World) (args':Array Value),Rel P g0 μ H.get H.n w→VRs μ args args'.toList→
  Calls P f args' w fun e w'=>∃(v':Value) (μ':Mu),e=.returned v'∧Rel P g0 μ' H'.get H'.n w'∧Post lo μ H.get H.n w μ' H'.get H'.n w'∧VR μ' v v'
def wR(P:Program)(g0:Nat)(f:IV)(args:List IV)(lo:Nat)(H:Heap)(v:IV)(H':Heap):Prop:=
 ∀(μ:Mu) (w:World) (f':Value) (args':Array Value),Rel P g0 μ H.get H.n w→VR μ f f'→VRs μ args args'.toList→
  ∀(c:Frame) (cs:List Frame),∃(v':Value) (w':World) (μ':Mu),Rel P g0 μ' H'.get H'.n w'∧Post lo μ H.get H.n w μ' H'.get H'.n w'∧VR μ' v v'∧
   ∀s:Sem Next,s.run P w=(do let d←Deferred.ofValue f' args';invoke d.target d.args:Sem Next).run P w→
    (∀d wr r sv k,c.todo≠.call d wr r sv::k)→
    ∃fr1,(stepG.apply P true c cs none s w).bare=.go {frame:=fr1,callers:=c::cs,status:=.running,dying:=none} w∧Steps P (lone fr1 (c::cs) w) (lone (c.finish v') cs w')
theorem Dx{o:Oper}{fo:Operand}{args:Array Operand}{ts:Array TypeId}(ho:o.op=.call ⟨.value fo,args,ts⟩){fv:IV}{ys:List IV}{H H':Heap}{v:IV}(h:wR P g0 fv ys lo H v H'):FD P g0 o lo (fv::ys) H v H':=by
 intro μ w t hr hx f rd ds k cs ops i rest;have hops:o.op.operands.toList.map (bW t)=bW t fo::args.toList.map (bW t):=by rw[ho];simp[Op.operands,Call.operands]
 rw[hops] at hx;obtain⟨y,yl,hy,hvf,hva⟩:=hx;simp only[List.cons.injEq] at hy;obtain⟨rfl,rfl⟩:=hy;obtain⟨v',w',μ',hr',hp,hv,hst⟩:=h μ w (bW t fo) (args.map (bW t)) hr hvf (by simpa using hva) (aZ f rd t ds (.inRegion ops (i::rest)::k)) cs;refine⟨v',w',μ',hr',hp,hv,fun hoi hw=>?_⟩;rw[←lX hoi];obtain⟨fr1,ha,hs⟩:=hst (execOp (bW t) o) (by simp only[execOp,ho,resolve]) (fun d wr r sv k' e=>by simp[aZ] at e);refine Steps.head (step_lone_go ?_) hs;rw[mU hoi hw (fun c e=>by rw[ho] at e;cases e),nv];exact ha
theorem Ht{g:FuncId}{first cap args:List IV}{H H':Heap}{v:IV}{fn:Func}{body:Code}(hf:P.funcs[g]? =some fn)(hb:fn.body=some body)(hn:(fn.name=="runtime.NumGoroutine")=false)
  (h:CallSim P g0 g (first++args++cap) lo H v H'):wR P g0 (.fn g first cap) args lo H v H':=by
 intro μ w f' args' hr hvf hva c cs;obtain⟨l',r',rfl,hl,hrr⟩:=hvf
 have hvs:VRs μ (first++args++cap) ((l'++args')++r').toList:=by
  rw[Array.toList_append,Array.toList_append];exact(hl.append hva).append hrr
 obtain⟨e,w',fr,⟨v',μ',rfl,hr',hp,hv⟩,hsteps,hfn,hleave⟩:=h μ w _ hr hvs (c::cs);refine⟨v',w',μ',hr',hp,hv,fun s hs htodo=>⟨Frame.enter P g ((l'++args')++r') .normal,?_,Steps.trans hsteps (.one (step_leave_returned hleave))⟩⟩
 have hrun:s.run P w=.ok (.enter g ((l'++args')++r')) w:=by
  have hn':¬fn.name="runtime.NumGoroutine":=by simpa using hn
  rw[hs];simp[Deferred.ofValue,invoke,callFunc,hf,hn',hb]
 simp only[stepG.apply,Sem.runT_eq,hrun,if_true,GStep.bare_after];split
 ·rename_i heq;exact absurd heq (htodo _ _ _ _ _)
 ·rfl
end
def Mu.cut(μ:Mu)(n:Nat):Mu:=fun b=>if b < n then μ b else .no
theorem aV(μ:Mu){n b:Nat}(h:b < n):μ.cut n b=μ b:=by simp[Mu.cut,h]
theorem o0(μ:Mu){n b:Nat}(h:n≤b):μ.cut n b=.no:=by simp[Mu.cut];omega
theorem sm{μ:Mu}{n b c p ez z:Nat}(h:μ.cut n b=.at c p ez z):b < n∧μ b=.at c p ez z:=by
 by_cases hb:b < n
 ·rw[aV _ hb] at h;exact⟨hb,h⟩
 ·rw[o0 _ (by omega)] at h;cases h
section
variable {μ μ1:Mu}{n:Nat}
theorem LocR.cut(hn:∀b,μ1 b≠.no→b < n){b o:Nat}{a a1:Addr}(h:LocR μ b o a)(h1:LocR μ1 b o a1):LocR (μ.cut n) b o a:=by
 have hb:b < n:=hn b (fun e=>by unfold LocR at h1;rw[e] at h1;exact h1);unfold LocR at h⊢;rw[aV _ hb];exact h
theorem SlR.cut(hn:∀b,μ1 b≠.no→b < n){b o cap cap1:Nat}{ex:Bool}{a a1:Addr}(h:SlR μ b o ex cap a)(h1:SlR μ1 b o ex cap1 a1):SlR (μ.cut n) b o ex cap a:=by
 have hb:b < n:=hn b (fun e=>by unfold SlR at h1;rw[e] at h1;exact h1);unfold SlR at h⊢;rw[aV _ hb];exact h
mutual
theorem VR.cut(hn:∀b,μ1 b≠.no→b < n):∀(x:IV) (v v1:Value),VR μ x v→VR μ1 x v1→VR (μ.cut n) x v
 | .bool _,_,_,h,_=>h
 | .int _ _,_,_,h,_=>h
 | .str _,_,_,h,_=>h
 | .ptr _ _,_,_,h,h1=>by obtain⟨a,e,k⟩:=h;obtain⟨a1,e1,k1⟩:=h1;exact⟨a,e,k.cut hn k1⟩
 | .nilPtr,_,_,h,_=>h
 | .slice _ _ _ _ _,_,_,h,h1=>by obtain⟨a,c,e,k,l⟩:=h;obtain⟨a1,c1,e1,k1,l1⟩:=h1;exact⟨a,c,e,k,l.cut hn l1⟩
 | .nilSlice,_,_,h,_=>h
 | .map _,_,_,h,h1=>by obtain⟨a,e,k⟩:=h;obtain⟨a1,e1,k1⟩:=h1;exact⟨a,e,k.cut hn k1⟩
 | .nilMap,_,_,h,_=>h
 | .fn _ l r,_,_,h,h1=>by
   obtain⟨l',r',e,hl',hr'⟩:=h;obtain⟨l1,r1,e1,hl1,hr1⟩:=h1;exact⟨l',r',e,VRs.cut hn l _ _ hl' hl1,VRs.cut hn r _ _ hr' hr1⟩
 | .yield _,_,_,h,h1=>by obtain⟨a,e,k⟩:=h;obtain⟨a1,e1,k1⟩:=h1;exact⟨a,e,k.cut hn k1⟩
 | .nilFunc,_,_,h,_=>h
 | .iface _ x,_,_,h,h1=>by obtain⟨x',e,k⟩:=h;obtain⟨x1,e1,k1⟩:=h1;exact⟨x',e,VR.cut hn x _ _ k k1⟩
 | .nilIface,_,_,h,_=>h
 | .agg l,_,_,h,h1=>by obtain⟨l',e,k⟩:=h;obtain⟨l1,e1,k1⟩:=h1;exact⟨l',e,VRs.cut hn l _ _ k k1⟩
 | .tuple l,_,_,h,h1=>by obtain⟨l',e,k⟩:=h;obtain⟨l1,e1,k1⟩:=h1;exact⟨l',e,VRs.cut hn l _ _ k k1⟩
theorem VRs.cut(hn:∀b,μ1 b≠.no→b < n):∀(x:List IV) (v v1:List Value),VRs μ x v→VRs μ1 x v1→VRs (μ.cut n) x v
 | [],_,_,h,_=>h
 | x::xs,_,_,h,h1=>by
   obtain⟨y,ys,e,k,ks⟩:=h;obtain⟨y1,ys1,e1,k1,ks1⟩:=h1;exact⟨y,ys,e,VR.cut hn x _ _ k k1,VRs.cut hn xs _ _ ks ks1⟩
end
theorem EsR.cut(hn:∀b,μ1 b≠.no→b < n):∀{es:List (IV×IV×Nat)} {l l1:List MapEntry},EsR μ es l→EsR μ1 es l1→EsR (μ.cut n) es l
 | [],_,_,h,_=>h
 | (k,v,_)::_,_,_,h,h1=>by
   obtain⟨e,l',a,b,c,d,f⟩:=h;obtain⟨e1,l1',a1,b1,c1,d1,f1⟩:=h1;exact⟨e,l',a,VR.cut hn k _ _ b b1,VR.cut hn v _ _ c c1,d,EsR.cut hn f f1⟩
theorem ObjR.cut{P:Program}(hn:∀b,μ1 b≠.no→b < n){o:IObj}{p ez z p1 ez1 z1:Nat}{h h1:Option Obj}(k:ObjR P μ o p ez z h)(k1:ObjR P μ1 o p1 ez1 z1 h1):ObjR P (μ.cut n) o p ez z h:=by
 cases o with
 | cells ro e ez' cs=>
   cases ro
   ·obtain⟨a,b,cs',c,d,e',f⟩:=k;obtain⟨_,_,cs1,_,_,_,f1⟩:=k1;exact⟨a,b,cs',c,d,e',VRs.cut hn _ _ _ f f1⟩
   ·obtain⟨a,cs',e',fz,b,c,f⟩:=k;obtain⟨_,cs1,_,_,_,_,f1⟩:=k1;exact⟨a,cs',e',fz,b,c,VRs.cut hn _ _ _ f f1⟩
 | map es clock=>
   obtain⟨a,es',b,c⟩:=k;obtain⟨_,es1,_,c1⟩:=k1;exact⟨a,es',b,EsR.cut hn c c1⟩
 | loop st pend tm ps asg body df=>
   obtain⟨a,L,b,c,d,e,f,g,i,j⟩:=k;obtain⟨_,L1,_,_,_,e1,_,_,_,j1⟩:=k1;exact⟨a,L,b,c,d,VRs.cut hn _ _ _ e e1,f,g,i,j.cut hn j1⟩
 | deferred=>exact k
 | taken=>exact k
 | iter m since seen last=>
   obtain⟨a,m',b,c⟩:=k;obtain⟨_,m1,_,c1⟩:=k1;exact⟨a,m',b,VR.cut hn _ _ _ c c1⟩
 | dead=>exact k
end
section
variable {kd:Kd}{xs:List IV}{lo lo2:Nat}{H H' H2:Heap}{v:IV}
theorem iF{α:Type}{o:Option α}{f:α→IV}(h:(o.map fun a=>(f a,H))=some (v,H')):H'=H∧∀H2:Heap,(o.map fun a=>(f a,H2))=some (v,H2):=by
 cases o with
 | none=>cases h
 | some a=>injection h with h;injection h with h1 h2;subst h1 h2;exact⟨rfl,fun _=>rfl⟩
theorem BZ(hp:kd.pure=true)(h:ev1 kd xs lo H=some (v,H')):H'=H∧∀(lo2:Nat) (H2:Heap),ev1 kd xs lo2 H2=some (v,H2):=by
 cases kd<;>simp[Kd.pure] at hp
 all_goals (simp only[ev1] at h⊢)
 case build zs offs=>exact⟨(iF h).1,fun _ H2=>(iF h).2 H2⟩
 case mkfn f k=>injection h with h;injection h with h1 h2;subst h1 h2;exact⟨rfl,fun _ _=>rfl⟩
 all_goals split at h
 all_goals first
  | (cases h;done)
  | (injection h with h;injection h with h1 h2;subst h1 h2;exact⟨rfl,fun _ _=>rfl⟩)
  | (exact⟨(iF h).1,fun _ H2=>(iF h).2 H2⟩)
  | skip
 all_goals split at h
 all_goals first
  | (cases h;done)
  | (injection h with h;injection h with h1 h2;subst h1 h2;exact⟨rfl,fun _ _=>by simp_all⟩)
  | (refine⟨(iF h).1,fun _ H2=>?_⟩
     have:=(iF h).2 H2
     simp_all)
theorem B1{n:Option Nat}(h:ev1 (.load n) xs lo H=some (v,H')):∃b o,xs=[.ptr b o]∧H'=H∧(∃cs,H.read b o (n.getD 1)=some cs)∧
  ∀(lo2:Nat) (H2:Heap),H2.read b o (n.getD 1)=H.read b o (n.getD 1)→ev1 (.load n) xs lo2 H2=some (v,H2):=by
 simp only[ev1] at h;split at h
 ·rename_i b o
  cases hr:H.read b o (n.getD 1) with
  | none=>rw[hr] at h;cases h
  | some cs=>
    rw[hr] at h;simp only[Option.bind_some] at h;refine⟨b,o,rfl,(iF h).1,⟨cs,hr⟩,fun lo2 H2 h2=>?_⟩;rw[hr] at h2;simp only[ev1,h2,Option.bind_some];exact(iF h).2 H2
 ·cases h
theorem G5{n:Nat}(h:ev1 (.store n) xs lo H=some (v,H')):∃(b o:Nat) (u:IV),xs=[.ptr b o,u]∧u.cells.length=n∧v=IV.undef∧H.write lo b o u.cells=some H'∧
  ∀(H2 H2':Heap),H2.write lo b o u.cells=some H2'→ev1 (.store n) xs lo H2=some (IV.undef,H2'):=by
 simp only[ev1] at h;split at h
 ·rename_i b o u;split at h
  ·rename_i hl
   cases hw:H.write lo b o u.cells with
   | none=>rw[hw] at h;cases h
   | some H1=>
     rw[hw] at h;injection h with h;injection h with h1 h2;subst h1 h2;exact⟨b,o,u,rfl,hl,rfl,hw,fun H2 H2' h2=>by simp[ev1,hl,h2]⟩
  ·cases h
 ·cases h
theorem uw{b o:Nat}{vs:List IV}(h:H.write lo b o vs=some H'):∃e ez cs,H.get b=some (.cells false e ez cs)∧lo≤b∧o+vs.length≤cs.length∧vs.all IV.one=true∧H'=H.put b (.cells false e ez (ar cs o vs)):=by
 unfold Heap.write at h
 cases hg:H.get b with
 | none=>rw[hg] at h;cases h
 | some ob=>
   rw[hg] at h
   cases ob with
   | cells ro e ez cs=>
     cases ro
     ·simp only at h;split at h
      ·rename_i hc;injection h with h;exact⟨e,ez,cs,rfl,hc.1,hc.2.1,hc.2.2,h.symm⟩
      ·cases h
     ·simp at h
   | _=>simp at h
theorem HQ{b o e ez:Nat}{vs cs:List IV}(hg:H.get b=some (.cells false e ez cs))(hlo:lo≤b)(hl:o+vs.length≤cs.length)(ho:vs.all IV.one=true):H.write lo b o vs=some (H.put b (.cells false e ez (ar cs o vs))):=by
 unfold Heap.write;rw[hg];simp only;rw[if_pos ⟨hlo,hl,ho⟩]
theorem oJ{b x:Nat}(o:IObj)(h:x≠b):(H.put b o).get x=H.get x:=by rw[aa,if_neg (Ne.symm h)]
theorem zO{x:Nat}(o:IObj)(h:x < H.n):(H.new o).get x=H.get x:=by rw[aj,if_neg (by omega)]
theorem pt{e size bytes n:Nat}{s:IV}{cs:List IV}{b o len lb:Nat}{ex:Bool}(hs:s=.slice b o len lb ex)(h:bF e size bytes s cs n lo H=some (v,H')):∀x,x < H.n→x≠b→H'.get x=H.get x:=by
 intro x hx hxb;subst hs;unfold bF at h;split at h
 ·cases h
 ·simp only at h;split at h
  ·injection h with h;injection h with h1 h2;subst h2;rfl
  ·split at h
   ·cases hw:H.write lo b (o+len*size) cs with
    | none=>rw[hw] at h;cases h
    | some H1=>
      rw[hw] at h;injection h with h;injection h with h1 h2;subst h2;obtain⟨_,_,_,_,_,_,_,rfl⟩:=uw hw;exact oJ _ hxb
   ·split at h
    ·split at h
     ·cases hsr:eq H size len (.slice b o len lb ex) with
      | none=>rw[hsr] at h;cases h
      | some old=>
        rw[hsr] at h;injection h with h;injection h with h1 h2;subst h2;exact zO _ hx
     ·cases hg:H.get b with
      | none=>rw[hg] at h;cases h
      | some ob=>
        rw[hg] at h
        cases ob with
        | cells ro e' ez all=>
          cases ro
          ·simp only at h;split at h
           ·injection h with h;injection h with h1 h2;subst h2;rw[zO _ (by rw[af];exact hx),oJ _ hxb]
           ·cases h
          ·simp at h
        | _=>simp at h
    ·cases h
theorem sa{e size bytes:Nat}{b o len lb:Nat}{ex:Bool}{r:List IV}(h:ev1 (.append e size bytes) (.slice b o len lb ex::r) lo H=some (v,H')):∀x,x < H.n→x≠b→H'.get x=H.get x:=by
 simp only[ev1] at h;split at h
 ·rename_i s x heq;simp only[List.cons.injEq] at heq;obtain⟨rfl,rfl⟩:=heq
  cases hl:i4 x with
  | none=>rw[hl] at h;cases h
  | some n=>
    rw[hl] at h;simp only[Option.bind_some] at h
    cases hs:eq H size n x with
    | none=>rw[hs] at h;cases h
    | some cs=>
      rw[hs] at h;exact pt rfl h
 ·cases h
theorem qH{e size bytes:Nat}{zs:List IV}{b o len lb:Nat}{ex:Bool}{r:List IV}(h:ev1 (.appendZ e size bytes zs) (.slice b o len lb ex::r) lo H=some (v,H')):∀x,x < H.n→x≠b→H'.get x=H.get x:=by
 simp only[ev1] at h;split at h
 ·rename_i s k m heq;simp only[List.cons.injEq] at heq;obtain⟨rfl,rfl⟩:=heq;split at h
  ·exact pt rfl h
  ·cases h
 ·cases h
def iG(ky:Bool×List Pk)(z k:IV):Option IObj→Option IV
 | some (.map es _)=>(aF ky k es 0).map fun r=>match r with | some (_,v)=>v | none=>z
 | _=>none
theorem B0{t:TypeId}{ky:Bool×List Pk}{z:IV}(h:ev1 (.lookup t ky z false) xs lo H=some (v,H')):H'=H∧((∃k,xs=[.nilMap,k]∧∀(lo2:Nat) (H2:Heap),ev1 (.lookup t ky z false) xs lo2 H2=some (v,H2))∨
  ∃b k,xs=[.map b,k]∧iG ky z k (H.get b)=some v∧∀(lo2:Nat) (H2:Heap),iG ky z k (H2.get b)=some v→ev1 (.lookup t ky z false) xs lo2 H2=some (v,H2)):=by
 simp only[ev1] at h;split at h
 ·rename_i m k
  cases m with
  | nilMap=>
    simp only at h;split at h
    ·rename_i hok
     cases hf:aF ky k [] 0 with
     | none=>rw[hf] at h;cases h
     | some r=>
       rw[hf] at h;injection h with h;injection h with h1 h2;subst h1 h2;exact⟨rfl,.inl ⟨k,rfl,fun lo2 H2=>by simp[ev1,hok,hf]⟩⟩
    ·cases h
  | map b=>
    simp only at h
    cases hm:az H b with
    | none=>rw[hm] at h;cases h
    | some p=>
      obtain⟨es,clock⟩:=p;rw[hm] at h;simp only[Option.map_some] at h;split at h
      ·rename_i hok;have hg:H.get b=some (.map es clock):=bQ hm
       cases hf:aF ky k es 0 with
       | none=>rw[hf] at h;cases h
       | some r=>
         rw[hf] at h;injection h with h;injection h with h1 h2;subst h1 h2;refine⟨rfl,.inr ⟨b,k,rfl,by cases r<;>simp[iG,hg,hf],fun lo2 H2 h2=>?_⟩⟩
         cases hg2:H2.get b with
         | none=>rw[hg2] at h2;cases h2
         | some ob=>
           rw[hg2] at h2
           cases ob with
           | map es2 c2=>
             simp only[iG] at h2;have hm2:az H2 b=some (es2,c2):=by simp[az,hg2]
             cases hf2:aF ky k es2 0 with
             | none=>rw[hf2] at h2;cases h2
             | some r2=>
               rw[hf2] at h2;injection h2 with h2;simp only[ev1,hm2,Option.map_some,hok,if_true,hf2]
               cases r<;>cases r2<;>simp_all
           | _=>simp[iG] at h2
      ·cases h
  | _=>simp at h
 ·cases h
theorem Kz{d:Pk}{x y:IV}(h:G8 d x y=some true):x=y:=by
 cases d<;>cases x<;>cases y<;>simp only[G8,reduceCtorEq] at h
 ·injection h with h;simp at h;rw[h]
 ·split at h
  ·rename_i hk;injection h with h;simp at h;rw[hk,h]
  ·cases h
 ·injection h with h;simp at h;rw[h]
theorem xW:∀{ds:List Pk} {xs ys:List IV},hU ds xs ys=some true→xs=ys
 | [],[],[],_=>rfl
 | [],[],_::_,h=>by simp[hU] at h
 | [],_::_,_,h=>by simp[hU] at h
 | _::_,[],_,h=>by simp[hU] at h
 | _::_,_::_,[],h=>by simp[hU] at h
 | d::ds,x::xs,y::ys,h=>by
   simp only[hU] at h
   cases h1:G8 d x y with
   | none=>rw[h1] at h;cases h
   | some a=>
     cases h2:hU ds xs ys with
     | none=>rw[h1,h2] at h;cases h
     | some b=>
       rw[h1,h2] at h;injection h with h;simp only[Bool.and_eq_true] at h;obtain⟨rfl,rfl⟩:=h;rw[Kz h1,xW h2]
theorem sZ{x:IV}(h:aT false x=true):x.cells=[x]:=by cases x<;>simp[aT] at h<;>rfl
theorem yg{x:IV}(h:aT true x=true):x=.agg x.cells:=by cases x<;>simp[aT] at h<;>rfl
theorem vU{ky:Bool×List Pk}{k k':IV}(h:dU ky k k'=some true):k=k':=by
 obtain⟨s1,s2,hq⟩:=lW h;have hc:=xW hq
 cases hag:ky.1 with
 | true=>rw[hag] at s1 s2;rw[yg s1,yg s2,hc]
 | false=>
   rw[hag] at s1 s2;rw[sZ s1,sZ s2] at hc;injection hc
theorem sB{k v:IV}:∀{es:List (IV×IV×Nat)} {i s:Nat},es[i]? =some (k,v,s)→bP k v es i=es
 | [],i,s,h=>by simp at h
 | (k0,v0,s0)::es,0,s,h=>by simp at h;obtain⟨rfl,rfl,rfl⟩:=h;rfl
 | (k0,v0,s0)::es,i+1,s,h=>by simp only[bP];rw[sB (by simpa using h)]
theorem wc{ky:Bool×List Pk}{k v:IV}{s:Nat}(hk:dU ky k k=some true):∀{es:List (IV×IV×Nat)} {i:Nat},aF ky k es i=some none→aF ky k (es++[(k,v,s)]) i=some (some (i+es.length,v))
 | [],i,_=>by simp[aF,hk]
 | (k0,v0,s0)::es,i,h=>by
   simp only[aF] at h
   cases hq:dU ky k k0 with
   | none=>rw[hq] at h;cases h
   | some b=>
     rw[hq] at h
     cases b with
     | true=>simp at h
     | false=>
       simp only at h;simp only[List.cons_append,aF,hq,wc hk h,List.length_cons];congr 3;omega
theorem KA{d:Pk}{x:IV}(h:Ns d x=true):G8 d x x=some true:=by
 cases d<;>cases x<;>simp[Ns] at h<;>simp[G8]
theorem xX:∀{ds:List Pk} {xs:List IV},qB ds xs=true→hU ds xs xs=some true
 | [],[],_=>rfl
 | [],_::_,h=>by simp[qB] at h
 | _::_,[],h=>by simp[qB] at h
 | d::ds,x::xs,h=>by
   simp only[qB,Bool.and_eq_true] at h;simp[hU,KA h.1,xX h.2]
theorem DO{ky:Bool×List Pk}{k:IV}(h:bS ky k=true):dU ky k k=some true:=by
 unfold bS at h;simp only[Bool.and_eq_true] at h;simp[dU,h.1,xX h.2]
theorem qG{t:TypeId}{ky:Bool×List Pk}{z k:IV}{b:Nat}(h:ev1 (.mapEntry t ky z) [.map b,k] lo H=some (v,H')):
  (∀x,x≠b→H'.get x=H.get x)∧∀u,iG ky z k (H.get b)=some u→iG ky z k (H'.get b)=some u:=by
 simp only[ev1] at h
 cases hm:az H b with
 | none=>rw[hm] at h;cases h
 | some p=>
   obtain⟨es,clock⟩:=p;rw[hm] at h;simp only at h;have hg:H.get b=some (.map es clock):=bQ hm;split at h
   ·rename_i hok
    cases hf:aF ky k es 0 with
    | none=>rw[hf] at h;cases h
    | some r=>
      rw[hf] at h
      cases r with
      | some q=>
        obtain⟨i,v0⟩:=q;simp only at h;obtain⟨_,k',s,hget,hkeq⟩:=ma hf;simp only[Nat.sub_zero] at hget;have hkk:=vU hkeq;subst hkk;rw[hget] at h;injection h with h;injection h with h1 h2;subst h2;rw[sB hget];refine⟨fun x hx=>oJ _ hx,fun u hu=>?_⟩;rw[aa,if_pos rfl,←hg];exact hu
      | none=>
        injection h with h;injection h with h1 h2;subst h2;refine⟨fun x hx=>oJ _ hx,fun u hu=>?_⟩;rw[aa,if_pos rfl];rw[hg] at hu;simp only[iG,hf,Option.map_some] at hu;injection hu with hu;simp only[iG,wc (DO hok.2) hf,Option.map_some,hu]
   ·cases h
end
open Classical
theorem gC{μ:Mu}{tm:List IV}{t:Array Value}(h:VRs μ tm t.toList)(i:Nat):VR μ (tm.getD i IV.undef) (t.getD i undef):=by
 have hl:tm.length=t.size:=by simpa using h.length
 by_cases hi:i < tm.length
 ·have h1:tm[i]? =some tm[i]:=List.getElem?_eq_getElem hi;obtain⟨y,hy,hv⟩:=h.get h1;have hy':t[i]? =some y:=by simpa using hy
  rw[List.getD_eq_getElem?_getD,h1];simp only[Option.getD_some,Array.getD_eq_getD_getElem?,hy'];exact hv
 ·rw[List.getD_eq_getElem?_getD,List.getElem?_eq_none (by omega),Array.getD_eq_getD_getElem?,Array.getElem?_eq_none (by omega)];exact⟨#[],rfl,rfl⟩
theorem pJ{P:Program}{g0 n:Nat}{μ:Mu}{g:Gt}{w:World}(hr:Rel P g0 μ g n w){x:Operand}{ia:IA}(hc:mB x=some ia){tm:List IV}{v:IV}(he:ia.eval g0 tm=some v){t:Array Value}
  (ht:∀i,ia=.tmp i→VR μ (tm.getD i IV.undef) (t.getD i undef)):VR μ v (bW t x):=by
 cases x with
 | tmp i=>
   injection hc with hc;subst hc;injection he with he;subst he;exact ht i rfl
 | const c=>
   simp only[mB] at hc
   cases hv:pr 3 c with
   | none=>rw[hv] at hc;cases hc
   | some y=>
     rw[hv] at hc;injection hc with hc;subst hc;injection he with he;subst he;exact sU 3 c _ hv μ
 | global i=>
   injection hc with hc;subst hc;simp only[IA.eval] at he;split at he
   ·rename_i hi;injection he with he;subst he;refine⟨_,rfl,?_⟩;unfold LocR;rw[hr.glob i hi]
   ·cases he
 | func f=>
   injection hc with hc;subst hc;injection he with he;subst he;exact⟨#[],#[],rfl,rfl,rfl⟩
theorem cX{P:Program}{g0 n:Nat}{μ:Mu}{g:Gt}{w:World}(hr:Rel P g0 μ g n w){tm:List IV}{t:Array Value}:∀{l:List Operand} {as:List IA} {xs:List IV},mj l=some as→be g0 tm as=some xs→
  (∀i,i∈as.filterMap uu→VR μ (tm.getD i IV.undef) (t.getD i undef))→VRs μ xs (l.map (bW t))
 | [],as,xs,hc,he,_=>by
   simp[mj] at hc;subst hc;injection he with he;subst he;rfl
 | x::l,as,xs,hc,he,ht=>by
   simp only[mj,List.mapM_cons] at hc
   cases h1:mB x with
   | none=>rw[h1] at hc;cases hc
   | some ia=>
     rw[h1] at hc
     cases h2:l.mapM mB with
     | none=>rw[h2] at hc;cases hc
     | some as'=>
       rw[h2] at hc;injection hc with hc;subst hc;simp only[be] at he
       cases h3:ia.eval g0 tm with
       | none=>rw[h3] at he;cases he
       | some v=>
         rw[h3] at he
         cases h4:be g0 tm as' with
         | none=>rw[h4] at he;cases he
         | some vs=>
           rw[h4] at he;injection he with he;subst he;refine⟨_,_,rfl,pJ hr h1 h3 (fun i hi=>ht i ?_),cX hr h2 h4 fun i hi=>ht i ?_⟩
           ·subst hi;simp[uu]
           ·simp only[List.filterMap_cons];split
            ·exact hi
            ·exact List.mem_cons_of_mem _ hi
def oe(ops:Array Oper)(o:Oper)(io:IOp):Prop:=
 match o.guard with
 | none=>io.guard=none
 | some (j,want)=>∃d,(ops[j]?).bind (·.dst)=some d∧io.guard=some (d,want)
theorem lx{ops:Array Oper}{o:Oper}{io:IOp}(hg:oe ops o io){μ:Mu}{tm:List IV}{t:Array Value}(hl:tm.length=t.size)(ht:∀d w,io.guard=some (d,w)→VR μ (tm.getD d IV.undef) (t.getD d undef)):
  Region.wanted o (yielded ops t)=bA tm io.guard:=by
 unfold oe at hg;unfold Region.wanted
 cases hog:o.guard with
 | none=>rw[hog] at hg;simp only at hg;rw[hg];rfl
 | some p=>
   obtain⟨j,want⟩:=p;rw[hog] at hg;obtain⟨d,hd,hio⟩:=hg;have hv:=ht d want hio;rw[hio];simp only[bA,yielded,hd,Option.bind_some];by_cases hlt:d < t.size
   ·have h1:t[d]? =some t[d]:=Array.getElem?_eq_getElem hlt;have h2:t.getD d undef=t[d]:=by simp[Array.getD_eq_getD_getElem?,h1]
    rw[h2] at hv;rw[h1];generalize tm.getD d IV.undef=x at hv;generalize t[d]=y at hv
    cases x with
    | bool b=>have hv:y=.bool b:=hv;subst hv;cases b<;>cases want<;>rfl
    | ptr b o=>obtain⟨a,rfl,_⟩:=hv;rfl
    | slice b o n lb ex=>obtain⟨a,c,rfl,_⟩:=hv;rfl
    | map b=>obtain⟨a,rfl,_⟩:=hv;rfl
    | fn f a b=>obtain⟨l,r,rfl,_⟩:=hv;rfl
    | yield b=>obtain⟨a,rfl,_⟩:=hv;rfl
    | iface t x=>obtain⟨a,rfl,_⟩:=hv;rfl
    | agg l=>obtain⟨a,rfl,_⟩:=hv;rfl
    | tuple l=>obtain⟨a,rfl,_⟩:=hv;rfl
    | _=>cases hv;rfl
   ·have hge:t.size≤d:=Nat.le_of_not_lt hlt;rw[Array.getElem?_eq_none hge]
    have:tm.getD d IV.undef=IV.undef:=by rw[List.getD_eq_getElem?_getD,List.getElem?_eq_none (by rw[hl];exact hge)];rfl
    rw[this];rfl
structure Seg where
 o:Nat→Oper
 io:Nat→IOp
 wt:Nat→Bool
 xs:Nat→List IV
 v:Nat→IV
 fr:Nat→Fr
 H:Nat→Heap
def Seg.low(S:Seg)(lo j:Nat):Nat:=if (S.io j).amb then lo else(S.H j).n
def Seg.ord(S:Seg)(a i j:Nat):Prop:=(S.io j).mask.testBit (a+i)=true
structure SegOk(P:Program)(g0 lo:Nat)(ops:Array Oper)(a m:Nat)(S:Seg):Prop where
 op:∀j,j < m→ops[a+j]? =some (S.o j)
 dst:∀j,j < m→(S.io j).dst=(S.o j).dst
 kd:∀j,j < m→bG P (S.o j).op=some (S.io j).kd
 args:∀j,j < m→mj (S.o j).op.operands.toList=some (S.io j).args
 guard:∀j,j < m→oe ops (S.o j) (S.io j)
 wtd:∀j,j < m→bA (S.fr j).tm (S.io j).guard=S.wt j
 frs:∀j,j < m→S.fr (j+1)=(S.fr j).put (S.io j).dst (S.v j)
 off:∀j,j < m→S.wt j=false→S.v j=IV.undef∧S.H (j+1)=S.H j
 ev:∀j,j < m→S.wt j=true→be g0 (S.fr j).tm (S.io j).args=some (S.xs j)
 sim:∀j,j < m→S.wt j=true→FD P g0 (S.o j) (S.low lo j) (S.xs j) (S.H j) (S.v j) (S.H (j+1))
 ev1:∀j,j < m→S.wt j=true→(S.io j).kd≠.call→Iso.ev1 (S.io j).kd (S.xs j) (S.low lo j) (S.H j)=some (S.v j,S.H (j+1))
 pair:∀i j f f',i < j→j < m→¬S.ord a i j→S.wt i=true→S.wt j=true→dW (S.io i) (S.xs i)=some f→dW (S.io j) (S.xs j)=some f'→bg f f'=true
 fp:∀j,j < m→S.wt j=true→∃f,dW (S.io j) (S.xs j)=some f
 unl:∀i j,i < j→j < m→¬S.ord a i j→pu (S.io i) (S.io j)=true
 bes:∀i j,i < j→j < m→¬S.ord a i j→jH (S.io i) (S.io j)=true
 amb:∀i j,i < m→j < m→i≠j→(i < j→¬S.ord a i j)→(j < i→¬S.ord a j i)→(S.io i).amb=true→(S.io i).kd.isStore=true∨(S.io j).kd.pure=true∨((S.io i).kd.isWr=true∧(S.io j).kd.light=true)
 store:∀j,j < m→(S.io j).kd.isStore=true→(S.io j).amb=true
section
variable {P:Program}{g0 lo:Nat}{ops:Array Oper}{a m:Nat}{S:Seg}
structure Canon(P:Program)(g0:Nat)(m:Nat)(S:Seg)(μ0:Mu):Prop where
 mono:∀j,j < m→(S.H j).n≤(S.H (j+1)).n
 quiet:∀j,j < m→S.wt j=true→(S.io j).amb=false→∀b,b < (S.H j).n→(S.H (j+1)).get b=(S.H j).get b
 refs:∀j,j≤m→∃(μ:Mu) (w:World) (t:List Value),Rel P g0 μ (S.H j).get (S.H j).n w∧VRs μ (S.fr j).tm t∧(∀b,b < (S.H 0).n→μ0 b≠.no→μ b≠.no)∧(∀b,(S.H 0).n≤b→b < (S.H j).n→μ b≠.no)
theorem SL(hS:SegOk P g0 lo ops a m S){μ0:Mu}{w0:World}{t0:Array Value}(hr:Rel P g0 μ0 (S.H 0).get (S.H 0).n w0)(ht:VRs μ0 (S.fr 0).tm t0.toList):Canon P g0 m S μ0:=by
 have key:∀j,j≤m→∃(μ:Mu) (w:World) (t:Array Value),Rel P g0 μ (S.H j).get (S.H j).n w∧VRs μ (S.fr j).tm t.toList∧(∀b,b < (S.H 0).n→μ0 b≠.no→μ b≠.no)∧(∀b,(S.H 0).n≤b→b < (S.H j).n→μ b≠.no)∧
   (∀i,i < j→(S.H i).n≤(S.H (i+1)).n)∧(∀i,i < j→S.wt i=true→(S.io i).amb=false→∀b,b < (S.H i).n→(S.H (i+1)).get b=(S.H i).get b):=by
  intro j
  induction j with
  | zero=>intro _;exact⟨μ0,w0,t0,hr,ht,fun _ _ h=>h,fun b h1 h2=>by omega,fun i hi=>by omega,fun i hi=>by omega⟩
  | succ j ih=>
    intro hj;obtain⟨μ,w,t,hr1,ht1,hd1,hd2,hm,hq⟩:=ih (by omega)
    cases hwt:S.wt j with
    | false=>
      obtain⟨hv,hH⟩:=hS.off j (by omega) hwt;refine⟨μ,w,mG t (S.o j).dst undef,by rw[hH];exact hr1,?_,hd1,by rw[hH];exact hd2,fun i hi=>?_,fun i hi=>?_⟩
      ·rw[hS.frs j (by omega),hv,hS.dst j (by omega)]
       cases(S.o j).dst with
       | none=>exact ht1
       | some d=>simp only[Fr.put,mG,Array.toList_setIfInBounds];exact ht1.set d ⟨#[],rfl,rfl⟩
      ·rcases Nat.lt_or_ge i j with h | h
       ·exact hm i h
       ·have:i=j:=by omega
        subst this;rw[hH];exact Nat.le_refl _
      ·intro hw ha b hb;rcases Nat.lt_or_ge i j with h | h
       ·exact hq i h hw ha b hb
       ·have:i=j:=by omega
        subst this;rw[hH]
    | true=>
      have hxs:=cX hr1 (hS.args j (by omega)) (hS.ev j (by omega) hwt) (fun i _=>gC ht1 i);obtain⟨v',w',μ',hr',hp,hv,_⟩:=hS.sim j (by omega) hwt μ w t hr1 hxs 0 none [] [] [] #[] 0 [];refine⟨μ',w',mG t (S.o j).dst v',hr',?_,fun b hb h0=>?_,fun b h1 h2=>?_,fun i hi=>?_,fun i hi hw ha b hb=>?_⟩
      ·rw[hS.frs j (by omega),hS.dst j (by omega)]
       cases(S.o j).dst with
       | none=>exact VRs.mono hp.le _ _ ht1
       | some d=>simp only[Fr.put,mG,Array.toList_setIfInBounds];exact(VRs.mono hp.le _ _ ht1).set d hv
      ·have hne:=hd1 b hb h0;rcases hp.le b hne with e | e
       ·rw[e];exact hne
       ·rw[e];exact fun x=>by cases x
      ·by_cases hb:b < (S.H j).n
       ·have hne:=hd2 b h1 hb;rcases hp.le b hne with e | e
        ·rw[e];exact hne
        ·rw[e];exact fun x=>by cases x
       ·exact hp.full b (by omega) h2
      ·rcases Nat.lt_or_ge i j with h | h
       ·exact hm i h
       ·have:i=j:=by omega
        subst this;exact hp.hn
      ·rcases Nat.lt_or_ge i j with h | h
       ·exact hq i h hw ha b hb
       ·have:i=j:=by omega
        subst this;have hlow:S.low lo i=(S.H i).n:=by simp[Seg.low,ha]
        rw[hlow] at hp;exact(hp.low b hb hb).2
 obtain⟨_,_,_,_,_,_,_,hm,hq⟩:=key m (Nat.le_refl _);exact⟨hm,hq,fun j hj=>by obtain⟨μ,w,t,h1,h2,h3,h4,_⟩:=key j hj;exact⟨μ,w,t.toList,h1,h2,h3,h4⟩⟩
def spl(o:Nat)(vs:List IV):Option IObj→Option IObj
 | some (.cells false e ez cs)=>some (.cells false e ez (ar cs o vs))
 | x=>x
noncomputable def Seg.eff(S:Seg)(j b:Nat)(x:Option IObj):Option IObj:=
 if S.wt j=false then x
 else if (S.io j).kd.light=true then x
 else if (S.io j).kd.isStore=true then
  match S.xs j with
  | [.ptr b' o,u]=>if b=b' then spl o u.cells x else x
  | _=>x
 else if b < (S.H j).n then(if (S.H (j+1)).get b=(S.H j).get b then x else(S.H (j+1)).get b)
 else if b < (S.H (j+1)).n then(S.H (j+1)).get b
 else x
noncomputable def Seg.G(S:Seg)(T:Nat→Bool):Nat→Nat→Option IObj
 | 0,b=>(S.H 0).get b
 | k+1,b=>if T k=true then S.eff k b (S.G T k b) else S.G T k b
def Seg.tmF(S:Seg)(T:Nat→Bool):Nat→List IV
 | 0=>(S.fr 0).tm
 | k+1=>if T k=true then((⟨S.tmF T k,[]⟩:Fr).put (S.io k).dst (S.v k)).tm else S.tmF T k
theorem FF(R:Option IObj→Option IObj→Prop)(T T':Nat→Bool)(b:Nat)(h0:R ((S.H 0).get b) ((S.H 0).get b)):∀k:Nat,
  (∀j x x',j < k→T j=true→T' j=true→R x x'→R (S.eff j b x) (S.eff j b x'))→
  (∀j,j < k→T j=true→T' j=false→R (S.G T j b) (S.G T' j b)→R (S.eff j b (S.G T j b)) (S.G T' j b))→
  (∀j,j < k→T j=false→T' j=true→R (S.G T j b) (S.G T' j b)→R (S.G T j b) (S.eff j b (S.G T' j b)))→R (S.G T k b) (S.G T' k b)
 | 0,_,_,_=>h0
 | k+1,h1,h2,h3=>by
   have ih:=FF R T T' b h0 k (fun j x x' hj=>h1 j x x' (by omega)) (fun j hj=>h2 j (by omega)) (fun j hj=>h3 j (by omega));simp only[Seg.G]
   cases ht:T k<;>cases ht':T' k
   ·simpa using ih
   ·simpa using h3 k (by omega) ht ht' ih
   ·simpa using h2 k (by omega) ht ht' ih
   ·simpa using h1 k _ _ (by omega) ht ht' ih
theorem N5(T T':Nat→Bool)(b k:Nat)(h:∀j x,j < k→T j≠T' j→S.eff j b x=x):S.G T k b=S.G T' k b:=by
 refine FF (S:=S) Eq T T' b rfl k (fun j x x' _ _ _ e=>by rw[e]) (fun j hj h1 h2 e=>?_) (fun j hj h1 h2 e=>?_)
 ·rw[h j _ hj (by rw[h1,h2];simp)];exact e
 ·rw[h j _ hj (by rw[h1,h2];simp)];exact e
def bm(k:Nat):Nat→Bool:=fun j=>decide (j < k)
end
open Classical
theorem Ny(g:Gt):∀n:Nat,∃H:Heap,H.n=n∧∀b,b < n→H.get b=g b:=by
 intro n
 have:∀k,k≤n→∃t:Tr IObj,∀b,b < n→t.get b=if b < k then g b else none:=by
  intro k
  induction k with
  | zero=>intro _;exact⟨.leaf,fun b _=>by rw[oa];simp⟩
  | succ k ih=>
    intro hk;obtain⟨t,ht⟩:=ih (by omega)
    cases hg:g k with
    | none=>
      refine⟨t,fun b hb=>?_⟩
      rw[ht b hb];by_cases h1:b < k
      ·rw[if_pos h1,if_pos (by omega)]
      ·rw[if_neg h1];by_cases h2:b < k+1
       ·have:b=k:=by omega
        subst this;rw[if_pos h2,hg]
       ·rw[if_neg h2]
    | some o=>
      refine⟨t.set k o,fun b hb=>?_⟩
      rw[pP];by_cases h0:k=b
      ·subst h0;rw[if_pos rfl,if_pos (by omega),hg]
      ·rw[if_neg h0,ht b hb];by_cases h1:b < k
       ·rw[if_pos h1,if_pos (by omega)]
       ·rw[if_neg h1,if_neg (by omega)]
 obtain⟨t,ht⟩:=this n (Nat.le_refl _);exact⟨⟨n,t⟩,rfl,fun b hb=>by have:=ht b hb;rw[if_pos hb] at this;exact this⟩
structure Core(P:Program)(q lo:Nat)(μ0:Mu)(g0:Gt)(n0:Nat)(w0:World)(μ:Mu)(g:Gt)(N:Nat)(w:World):Prop where
 rel:Rel P q μ g N w
 le:μ0.le μ
 old:∀b,b < n0→μ0 b=.no→μ b=.no
 low:∀b,b < lo→b < n0→μ b=μ0 b∧g b=g0 b
 own:∀b,b < n0→aY g b→aY g0 b
 new:∀b c p ez z,n0≤b→μ b=.at c p ez z→w0.heap.size≤c∨∃b0 p0 ez0 z0,lo≤b0∧b0 < n0∧aY g0 b0∧μ0 b0=.at c p0 ez0 z0
 size:w0.heap.size≤w.heap.size
 frame:∀c,c < w0.heap.size→(∀b p ez z,lo≤b→b < n0→aY g0 b→μ0 b≠.at c p ez z)→w.heap[c]? =w0.heap[c]?
 os:w.os=w0.os
 tape:w.tape=w0.tape
 output:w.output=w0.output
 drawn:w0.drawn≤w.drawn
theorem bC{g g':Gt}{b:Nat}(e:g b=g' b)(h:aY g b):aY g' b:=by
 obtain⟨o,h1,h2⟩:=h;exact⟨o,by rw[←e];exact h1,h2⟩
def Mu.merge(μ1 μ:Mu)(n:Nat):Mu:=fun b=>if b < n then μ1 b else μ b
theorem Core.step{P:Program}{q lo:Nat}{μ0:Mu}{g0:Gt}{n0:Nat}{w0:World}{μ:Mu}{g:Gt}{N:Nat}{w:World}(h:Core P q lo μ0 g0 n0 w0 μ g N w)
  {lw n1 n2:Nat} {g1 g2 g':Gt} {μ1:Mu} {w':World} (hr:Rel P q μ1 g2 n2 w') (hp:Post lw (μ.cut n1) g1 n1 w μ1 g2 n2 w') (h01:n0≤n1) (h2N:n2≤N) (hlw:lw=lo∨lw=n1)
  (hno:∀b,n1≤b→b < n2→μ b=.no)
  (e1:∀b,b < n1→(b < n0∨μ b≠.no)→g b=g1 b) (e2:∀b,b < n2→(b < n0∨μ1 b≠.no)→g' b=g2 b) (e3:∀b,n2≤b→μ b≠.no→g' b=g b):
  Core P q lo μ0 g0 n0 w0 (μ1.merge μ n2) g' N w'∧μ.le (μ1.merge μ n2)∧μ1.le (μ1.merge μ n2):=by
 have h12:=hp.hn
 have back:∀b c p ez z,b < n1→μ1 b=.at c p ez z→μ b=.at c p ez z:=by
  intro b c p ez z hb e;have hne:μ.cut n1 b≠.no:=fun e'=>by rw[hp.old b hb e'] at e;cases e
  rcases hp.le b hne with e'' | e''
  ·rw[aV μ hb] at e'';rw[←e''];exact e
  ·rw[e''] at e;cases e
 have mge:∀b,n2≤b→μ1.merge μ n2 b=μ b:=fun b hb=>by simp only[Mu.merge];rw[if_neg (by omega)]
 have mlt:∀b,b < n2→μ1.merge μ n2 b=μ1 b:=fun b hb=>by simp only[Mu.merge];rw[if_pos hb]
 have le:μ.le (μ1.merge μ n2):=by
  intro b hb;by_cases h1:b < n1
  ·rw[mlt b (by omega)]
   have:=hp.le b (by rw[aV μ h1];exact hb)
   rw[aV μ h1] at this;exact this
  ·by_cases h2:b < n2
   ·exact absurd (hno b (by omega) h2) hb
   ·left;exact mge b (by omega)
 have le1:μ1.le (μ1.merge μ n2):=fun b hb=>.inl (mlt b (hr.lt b hb))
 have new1:∀b c p ez z,n1≤b→μ1 b=.at c p ez z→w.heap.size≤c∨∃b0 p0 ez0 z0,lo≤b0∧b0 < n1∧aY g b0∧μ b0=.at c p0 ez0 z0:=by
  intro b c p ez z hb e;rcases hp.new b c p ez z hb e with hc | ⟨b0,p0,ez0,z0,k1,k2,k3,k4⟩
  ·exact .inl hc
  ·rw[aV μ k2] at k4;have hne:μ b0≠.no:=by rw[k4];exact fun x=>by cases x
   refine .inr ⟨b0,p0,ez0,z0,?_,k2,bC (e1 b0 k2 (.inr hne)).symm k3,k4⟩;rcases hlw with e | e
   ·omega
   ·omega
 have own1:∀b,b < n1→(b < n0∨μ1 b≠.no)→aY g' b→aY g b:=by
  intro b hb hd ho;have k:=hp.own b hb (bC (e2 b (by omega) hd) ho);refine bC (e1 b hb ?_).symm k;rcases hd with hd | hd
  ·exact .inl hd
  ·right;intro e'
   exact hd (hp.old b hb (by rw[aV μ hb];exact e'))
 have none_:∀{b c p ez z} {m:Mu},m b=.at c p ez z→m b≠.no:=fun e x=>by rw[e] at x;cases x
 refine⟨?_,le,le1⟩
 constructor
 ·
  constructor
  ·intro b hb;by_cases h2:b < n2
   ·omega
   ·rw[mge b (by omega)] at hb;exact h.rel.lt b hb
  ·intro b b' c p ez z p' ez' z' hb hb' ho;by_cases h2:b < n2<;>by_cases h2':b' < n2
   ·rw[mlt b h2] at hb;rw[mlt b' h2'] at hb';exact hr.inj b b' c p ez z p' ez' z' hb hb' (bC (e2 b h2 (.inr (none_ hb))) ho)
   ·rw[mlt b h2] at hb;rw[mge b' (by omega)] at hb'
    exfalso
    by_cases h1:b < n1
    ·have:=h.rel.inj b b' c _ _ _ _ _ _ (back b c p ez z h1 hb) hb' (own1 b h1 (.inr (none_ hb)) ho)
     omega
    ·rcases new1 b c p ez z (by omega) hb with hc | ⟨b0,p0,ez0,z0,k1,k2,k3,k4⟩
     ·have:=h.rel.clt hb';omega
     ·have:=h.rel.inj b0 b' c _ _ _ _ _ _ k4 hb' k3;omega
   ·rw[mge b (by omega)] at hb;rw[mlt b' h2'] at hb';have ho':aY g b:=bC (e3 b (by omega) (none_ hb)) ho
    exfalso
    by_cases h1:b' < n1
    ·have:=h.rel.inj b b' c _ _ _ _ _ _ hb (back b' c _ _ _ h1 hb') ho'
     omega
    ·rcases new1 b' c _ _ _ (by omega) hb' with hc | ⟨b0,p0,ez0,z0,k1,k2,k3,k4⟩
     ·have:=h.rel.clt hb;omega
     ·have:=h.rel.inj b b0 c _ _ _ _ _ _ hb k4 ho';omega
   ·rw[mge b (by omega)] at hb;rw[mge b' (by omega)] at hb';exact h.rel.inj b b' c p ez z p' ez' z' hb hb' (bC (e3 b (by omega) (none_ hb)) ho)
  ·intro b c p ez z hb;by_cases h2:b < n2
   ·rw[mlt b h2] at hb;obtain⟨o,k1,k2⟩:=hr.obj b c p ez z hb;exact⟨o,by rw[e2 b h2 (.inr (none_ hb))];exact k1,k2.mono le1⟩
   ·rw[mge b (by omega)] at hb;obtain⟨o,k1,k2⟩:=h.rel.obj b c p ez z hb;refine⟨o,by rw[e3 b (by omega) (none_ hb)];exact k1,?_⟩
    have:w'.heap[c]? =w.heap[c]?:=by
     refine hp.frame c (h.rel.clt hb) fun b0 p0 ez0 z0 k3 k4 k5 k6=>?_;rw[aV μ k4] at k6
     have:=h.rel.inj b0 b c _ _ _ _ _ _ k6 hb (bC (e1 b0 k4 (.inr (none_ k6))).symm k5)
     omega
    rw[this];exact k2.mono le
  ·intro i hi;rw[mlt i (hr.lt i (none_ (hr.glob i hi)))];exact hr.glob i hi
  ·intro b hb;by_cases h2:b < n2
   ·rw[mlt b h2] at hb;rw[e2 b h2 (.inr (by rw[hb];exact fun x=>by cases x))];exact hr.ded b hb
   ·rw[mge b (by omega)] at hb;rw[e3 b (by omega) (by rw[hb];exact fun x=>by cases x)];exact h.rel.ded b hb
 ·exact Mu.le_trans h.le le
 ·intro b hb e;rw[mlt b (by omega)];exact hp.old b (by omega) (by rw[aV μ (by omega)];exact h.old b hb e)
 ·intro b hl hb;obtain⟨k1,k2⟩:=hp.low b (by omega) (by omega);obtain⟨k3,k4⟩:=h.low b hl hb;rw[mlt b (by omega),k1,aV μ (by omega),e2 b (by omega) (.inl hb),k2,←e1 b (by omega) (.inl hb)];exact⟨k3,k4⟩
 ·intro b hb ho;exact h.own b hb (own1 b (by omega) (.inl hb) ho)
 ·intro b c p ez z hb e;by_cases h2:b < n2
  ·rw[mlt b h2] at e;by_cases h1:b < n1
   ·exact h.new b c p ez z hb (back b c p ez z h1 e)
   ·rcases new1 b c p ez z (by omega) e with hc | ⟨b0,p0,ez0,z0,k1,k2,k3,k4⟩
    ·exact .inl (Nat.le_trans h.size hc)
    ·by_cases h0:b0 < n0
     ·have hne:μ0 b0≠.no:=fun e'=>by rw[h.old b0 h0 e'] at k4;cases k4
      rcases h.le b0 hne with e' | e'
      ·exact .inr ⟨b0,p0,ez0,z0,k1,h0,h.own b0 h0 k3,by rw[←e'];exact k4⟩
      ·rw[e'] at k4;cases k4
     ·exact h.new b0 c p0 ez0 z0 (by omega) k4
  ·rw[mge b (by omega)] at e;exact h.new b c p ez z hb e
 ·exact Nat.le_trans h.size hp.size
 ·intro c hc hn;refine(hp.frame c (Nat.lt_of_lt_of_le hc h.size) fun b0 p0 ez0 z0 k3 k4 k5 k6=>?_).trans (h.frame c hc hn);rw[aV μ k4] at k6;have ho:aY g b0:=bC (e1 b0 k4 (.inr (none_ k6))).symm k5;have hl:lo≤b0:=by rcases hlw with e | e<;>omega
  by_cases h0:b0 < n0
  ·have hne:μ0 b0≠.no:=fun e'=>by rw[h.old b0 h0 e'] at k6;cases k6
   rcases h.le b0 hne with e' | e'
   ·exact hn b0 p0 ez0 z0 hl h0 (h.own b0 h0 ho) (by rw[←e'];exact k6)
   ·rw[e'] at k6;cases k6
  ·rcases h.new b0 c p0 ez0 z0 (by omega) k6 with hcc | ⟨b1,p1,ez1,z1,m1,m2,m3,m4⟩
   ·omega
   ·exact hn b1 p1 ez1 z1 m1 m2 m3 m4
 ·exact hp.os.trans h.os
 ·exact hp.tape.trans h.tape
 ·exact hp.output.trans h.output
 ·exact Nat.le_trans h.drawn hp.drawn
theorem Core.refl{P:Program}{q lo:Nat}{μ:Mu}{g:Gt}{n N:Nat}{w:World}(h:Rel P q μ g n w)(hN:n≤N):Core P q lo μ g n w μ g N w where
 rel:=h.more hN
 le:=μ.le_refl
 old:=fun _ _ h=>h
 low:=fun _ _ _=>⟨rfl,rfl⟩
 own:=fun _ _ h=>h
 new:=fun b c p ez z hb e=>absurd (h.lt b (by rw[e];exact fun x=>by cases x)) (by omega)
 size:=Nat.le_refl _
 frame:=fun _ _ _=>rfl
 os:=rfl
 tape:=rfl
 output:=rfl
 drawn:=Nat.le_refl _
theorem Core.post{P:Program}{q lo:Nat}{μ0:Mu}{g0:Gt}{n0:Nat}{w0:World}{μ:Mu}{g:Gt}{N:Nat}{w:World}(h:Core P q lo μ0 g0 n0 w0 μ g N w)(hN:n0≤N)(hf:∀b,n0≤b→b < N→μ b≠.no):
  Post lo μ0 g0 n0 w0 μ g N w:=
 ⟨h.le,hN,h.old,h.low,h.own,h.new,hf,h.size,h.frame,h.os,h.tape,h.output,h.drawn⟩
theorem Core.congr{P:Program}{q lo:Nat}{μ0:Mu}{g0:Gt}{n0:Nat}{w0:World}{μ:Mu}{g g':Gt}{N:Nat}{w:World}(h:Core P q lo μ0 g0 n0 w0 μ g N w)(e:∀b,(b < n0∨μ b≠.no)→g' b=g b):
  Core P q lo μ0 g0 n0 w0 μ g' N w:=
 {h with
  rel:=h.rel.congr fun b hb=>e b (.inr hb)
  low:=fun b hl hb=>by rw[e b (.inl hb)];exact h.low b hl hb
  own:=fun b hb ho=>h.own b hb (bC (e b (.inl hb)) ho)}
section
variable {P:Program}{g0 lo:Nat}{ops:Array Oper}{a m:Nat}{S:Seg}
theorem oE(T:Nat→Bool):∀k,(S.tmF T k).length=(S.fr 0).tm.length
 | 0=>rfl
 | k+1=>by
   simp only[Seg.tmF];split
   ·cases(S.io k).dst<;>simp[Fr.put,oE T k]
   ·exact oE T k
theorem qq{tm:List IV}{d:Option Nat}{v:IV}{x:Nat}(h:d≠some x):((⟨tm,[]⟩:Fr).put d v).tm.getD x IV.undef=tm.getD x IV.undef:=by
 cases d with
 | none=>rfl
 | some d=>
   simp only[Fr.put,List.getD_eq_getElem?_getD];rw[List.getElem?_set_ne (fun e=>h (by rw[e]))]
theorem Jx{tm tm':List IV}(hl:tm.length=tm'.length){d:Option Nat}{v:IV}{x:Nat}(h:tm.getD x IV.undef=tm'.getD x IV.undef):((⟨tm,[]⟩:Fr).put d v).tm.getD x IV.undef=((⟨tm',[]⟩:Fr).put d v).tm.getD x IV.undef:=by
 cases d with
 | none=>exact h
 | some d=>
   by_cases hd:d=x
   ·subst hd;simp only[Fr.put,List.getD_eq_getElem?_getD,List.getElem?_set_self'];by_cases hx:d < tm.length
    ·rw[List.getElem?_eq_getElem hx,List.getElem?_eq_getElem (by omega:d < tm'.length)];rfl
    ·rw[List.getElem?_eq_none (by omega),List.getElem?_eq_none (by omega)]
   ·rw[qq (fun e=>hd (by injection e)),qq (fun e=>hd (by injection e))];exact h
theorem EX(T T':Nat→Bool)(x:Nat):∀k,(∀j,j < k→T j≠T' j→(S.io j).dst≠some x)→(S.tmF T k).getD x IV.undef=(S.tmF T' k).getD x IV.undef
 | 0,_=>rfl
 | k+1,h=>by
   have ih:=EX T T' x k fun j hj=>h j (by omega);simp only[Seg.tmF]
   cases ht:T k<;>cases ht':T' k
   ·simpa using ih
   ·simp only[Bool.false_eq_true,if_false,if_true];rw[qq (h k (by omega) (by rw[ht,ht'];simp))];exact ih
   ·simp only[Bool.false_eq_true,if_false,if_true];rw[qq (h k (by omega) (by rw[ht,ht'];simp))];exact ih
   ·simp only[if_true];exact Jx (by rw[oE,oE]) ih
theorem zU(hS:SegOk P g0 lo ops a m S):∀j,j≤m→(S.fr j).tm=S.tmF (bm m) j
 | 0,_=>rfl
 | j+1,h=>by
   rw[hS.frs j (by omega)];have hu:bm m j=true:=by simp[bm];omega
   simp only[Seg.tmF,hu,if_true];rw[←zU hS j (by omega)]
   cases(S.io j).dst<;>rfl
theorem qe{T T':Nat→Bool}:∀{k:Nat},(∀i,i < k→T i=T' i)→S.tmF T k=S.tmF T' k
 | 0,_=>rfl
 | k+1,h=>by
   simp only[Seg.tmF];rw[h k (by omega),qe fun i hi=>h i (by omega)]
theorem Ll{T T':Nat→Bool}{b:Nat}:∀{k:Nat},(∀i,i < k→T i=T' i)→S.G T k b=S.G T' k b
 | 0,_=>rfl
 | k+1,h=>by
   simp only[Seg.G];rw[h k (by omega),Ll fun i hi=>h i (by omega)]
def ff(T:Nat→Bool)(j:Nat):Nat→Bool:=fun i=>T i||decide (i=j)
theorem dY(T:Nat→Bool)(j:Nat):ff T j j=true:=by simp[ff]
theorem cY(T:Nat→Bool){i j:Nat}(h:i≠j):ff T j i=T i:=by simp[ff,h]
theorem Iv{T:Nat→Bool}{j:Nat}(hT:T j=false)(hd:∀k,j < k→k < m→T k=true→∀d,(S.io j).dst=some d→(S.io k).dst≠some d):
  ∀k,j < k→k≤m→S.tmF (ff T j) k=((⟨S.tmF T k,[]⟩:Fr).put (S.io j).dst (S.v j)).tm:=by
 intro k
 induction k with
 | zero=>intro h;omega
 | succ k ih=>
   intro hk hm;by_cases e:k=j
   ·subst e;simp only[Seg.tmF,dY,if_true,hT,Bool.false_eq_true,if_false];rw[qe fun i hi=>cY T (by omega)]
   ·have ih:=ih (by omega) (by omega);simp only[Seg.tmF,cY T e];split
    ·rename_i ht;rw[ih];have hdd:=hd k (by omega) (by omega) ht
     cases h1:(S.io j).dst with
     | none=>cases h2:(S.io k).dst<;>rfl
     | some d=>
       cases h2:(S.io k).dst with
       | none=>rfl
       | some d'=>
         have:d≠d':=fun e'=>hdd d h1 (by rw[h2,e'])
         simp only[Fr.put];exact List.set_comm _ _ this
    ·exact ih
theorem oU{j b:Nat}{x:Option IObj}(h:S.wt j=false):S.eff j b x=x:=by simp[Seg.eff,h]
theorem fh{j b:Nat}{x:Option IObj}(h:(S.io j).kd.light=true):S.eff j b x=x:=by
 simp[Seg.eff,h]
theorem lM(hS:SegOk P g0 lo ops a m S){j:Nat}(hj:j < m)(hw:S.wt j=true)(hs:(S.io j).kd.isStore=true):
  ∃(n b o:Nat) (u:IV) (e ez:Nat) (cs:List IV),(S.io j).kd=.store n∧S.xs j=[.ptr b o,u]∧u.cells.length=n∧S.v j=IV.undef∧(S.H j).get b=some (.cells false e ez cs)∧lo≤b∧o+u.cells.length≤cs.length∧u.cells.all IV.one=true∧
   S.H (j+1)=(S.H j).put b (.cells false e ez (ar cs o u.cells))∧(∀(H2 H2':Heap),H2.write lo b o u.cells=some H2'→ev1 (.store n) (S.xs j) lo H2=some (IV.undef,H2')):=by
 cases hk:(S.io j).kd<;>rw[hk] at hs<;>simp[Kd.isStore] at hs
 rename_i n;have he:=hS.ev1 j hj hw (by rw[hk];exact fun x=>by cases x);rw[hk] at he;have hl:S.low lo j=lo:=by simp[Seg.low,hS.store j hj (by rw[hk];rfl)]
 rw[hl] at he;obtain⟨b,o,u,h1,h2,h3,h4,h5⟩:=G5 he;obtain⟨e,ez,cs,k1,k2,k3,k4,k5⟩:=uw h4;exact⟨n,b,o,u,e,ez,cs,rfl,h1,h2,h3,k1,k2,k3,k4,k5,h5⟩
theorem vR(hS:SegOk P g0 lo ops a m S){j:Nat}(hj:j < m)(hw:S.wt j=true)(hl:(S.io j).kd.light=true):S.H (j+1)=S.H j:=by
 have hne:(S.io j).kd≠.call:=fun e=>by rw[e] at hl;simp[Kd.light,Kd.pure,Kd.isLoad,Kd.isLook] at hl
 have he:=hS.ev1 j hj hw hne;simp only[Kd.light,Bool.or_eq_true] at hl;rcases hl with(hl | hl) | hl
 ·exact(BZ hl he).1
 ·cases hk:(S.io j).kd<;>rw[hk] at hl<;>simp[Kd.isLoad] at hl
  rw[hk] at he;obtain⟨_,_,_,h,_⟩:=B1 he;exact h
 ·cases hk:(S.io j).kd<;>rw[hk] at hl<;>simp[Kd.isLook] at hl
  rename_i t ky z ok
  cases ok<;>simp at hl
  rw[hk] at he;exact(B0 he).1
theorem FH(hS:SegOk P g0 lo ops a m S){μ0:Mu}(hc:Canon P g0 m S μ0){T:Nat→Bool}:∀k,k≤m→(∀i,i < k→T i=true)→∀b,b < (S.H k).n→S.G T k b=(S.H k).get b
 | 0,_,_,b,_=>rfl
 | k+1,hk,hT,b,hb=>by
   have ih:=FH hS hc k (by omega) fun i hi=>hT i (by omega);simp only[Seg.G,hT k (by omega),if_true]
   cases hw:S.wt k with
   | false=>
     rw[oU hw];rw[(hS.off k (by omega) hw).2] at hb⊢;exact ih b hb
   | true=>
     by_cases hl:(S.io k).kd.light=true
     ·rw[fh hl];rw[vR hS (by omega) hw hl] at hb⊢;exact ih b hb
     ·unfold Seg.eff;rw[if_neg (by rw[hw];simp),if_neg hl];by_cases hs:(S.io k).kd.isStore=true
      ·rw[if_pos hs];obtain⟨n,b',o,u,e,ez,cs,h1,h2,h3,h4,h5,h6,h7,h8,h9,_⟩:=lM hS (by omega) hw hs;rw[h2];rw[h9,af] at hb;have ih:=ih b hb;simp only;rw[h9,aa];by_cases e':b=b'
       ·subst e';rw[if_pos rfl,if_pos rfl,ih,h5];rfl
       ·rw[if_neg e',if_neg (Ne.symm e'),ih]
      ·rw[if_neg hs];by_cases h1:b < (S.H k).n
       ·rw[if_pos h1];split
        ·rename_i e;rw[e];exact ih b h1
        ·rfl
       ·rw[if_neg h1,if_pos hb]
end
open Classical
theorem fd:∀(cs:List IV) (o:Nat) (vs:List IV),(ar cs o vs).length=cs.length
 | [],_,_=>rfl
 | c::cs,0,[]=>rfl
 | c::cs,0,v::vs=>by simp only[ar,List.length_cons];rw[fd cs 0 vs]
 | c::cs,o+1,vs=>by simp only[ar,List.length_cons];rw[fd cs o vs]
theorem cc:∀(cs:List IV) (o:Nat) (vs:List IV) (i:Nat),(ar cs o vs)[i]? =if i < cs.length∧o≤i∧i < o+vs.length then vs[i - o]? else cs[i]?
 | [],o,vs,i=>by simp[ar]
 | c::cs,0,[],i=>by
   simp only[ar,List.length_nil];rw[if_neg (by omega)]
 | c::cs,0,v::vs,0=>by simp[ar]
 | c::cs,0,v::vs,i+1=>by
   simp only[ar,List.getElem?_cons_succ,List.length_cons];rw[cc cs 0 vs i];by_cases h:i < cs.length∧0≤i∧i < 0+vs.length
   ·rw[if_pos h,if_pos (by omega)];simp
   ·rw[if_neg h,if_neg (by omega)]
 | c::cs,o+1,vs,0=>by
   simp only[ar];rw[if_neg (by omega)];rfl
 | c::cs,o+1,vs,i+1=>by
   simp only[ar,List.getElem?_cons_succ,List.length_cons];rw[cc cs o vs i];by_cases h:i < cs.length∧o≤i∧i < o+vs.length
   ·rw[if_pos h,if_pos (by omega)]
    have:i+1 - (o+1)=i - o:=by omega
    rw[this]
   ·rw[if_neg h,if_neg (by omega)]
theorem A4(cs:List IV){o o':Nat}{vs vs':List IV}(h:o+vs.length≤o'∨o'+vs'.length≤o):ar (ar cs o vs) o' vs'=ar (ar cs o' vs') o vs:=by
 apply List.ext_getElem?;intro i;rw[cc,cc,cc,cc];simp only[fd];by_cases h1:i < cs.length∧o'≤i∧i < o'+vs'.length<;>by_cases h2:i < cs.length∧o≤i∧i < o+vs.length
 ·omega
 ·rw[if_pos h1,if_neg h2,if_pos h1]
 ·rw[if_neg h1,if_pos h2,if_pos h2]
 ·rw[if_neg h1,if_neg h2,if_neg h2,if_neg h1]
theorem IL{x:Option IObj}{o o':Nat}{vs vs':List IV}(h:o+vs.length≤o'∨o'+vs'.length≤o):spl o' vs' (spl o vs x)=spl o vs (spl o' vs' x):=by
 cases x with
 | none=>rfl
 | some ob=>
   cases ob with
   | cells ro e ez cs=>
     cases ro
     ·simp only[spl];rw[A4 cs h]
     ·rfl
   | _=>rfl
theorem Bn(f f':Fp):bg f f'=bg f' f:=by
 have hap:∀b o n b' o' n',ii b o n b' o' n'=ii b' o' n' b o n:=by
  intro b o n b' o' n';simp only[ii];rw[show decide (b≠b')=decide (b'≠b) from decide_eq_decide.2 ⟨Ne.symm,Ne.symm⟩,Bool.or_assoc,Bool.or_assoc,Bool.or_comm (decide (o+n≤o'))]
 cases f<;>cases f'<;>simp only[bg]<;>first | rfl | (exact hap _ _ _ _ _ _) | (exact decide_eq_decide.2 ⟨Ne.symm,Ne.symm⟩)
def Fp.blk:Fp→Option Nat
 | .wb b=>some b
 | .me _ _ b _=>some b
 | _=>Option.none
theorem tf{e size bytes n lo:Nat}{s:IV}{cs:List IV}{H H':Heap}{v:IV}(hs:∀b o len lb ex,s≠.slice b o len lb ex)(h:bF e size bytes s cs n lo H=some (v,H')):∀x,x < H.n→H'.get x=H.get x:=by
 unfold bF at h;split at h
 ·cases h
 ·split at h
  ·split at h
   ·injection h with h;injection h with _ h;subst h;exact fun _ _=>rfl
   ·split at h
    ·injection h with h;injection h with _ h;subst h;exact fun x hx=>zO _ hx
    ·cases h
  ·exact absurd rfl (hs _ _ _ _ _)
  ·cases h
theorem AQ{o:IOp}{xs:List IV}{lo:Nat}{H H':Heap}{v:IV}{f:Fp}(he:ev1 o.kd xs lo H=some (v,H'))(hw:o.kd.isWr=true)(ha:o.amb=true)(hf:dW o xs=some f):∀x,x < H.n→f.blk≠some x→H'.get x=H.get x:=by
 unfold dW at hf;intro x hx hb
 cases hk:o.kd<;>rw[hk] at hw<;>simp[Kd.isWr] at hw
 case append e size bytes=>
  rw[hk] at hf he
  cases xs with
  | nil=>simp[ev1] at he
  | cons s r=>
    by_cases hs:∃b o len lb ex,s=.slice b o len lb ex
    ·obtain⟨b,o',len,lb,ex,rfl⟩:=hs;simp only[ha,if_true] at hf;injection hf with hf;subst hf;exact sa he x hx (fun e=>hb (by rw[e];rfl))
    ·have hs':∀b o len lb ex,s≠.slice b o len lb ex:=fun b o len lb ex e=>hs ⟨b,o,len,lb,ex,e⟩;simp only[ev1] at he;split at he
     ·rename_i s' y heq;simp only[List.cons.injEq] at heq;obtain⟨rfl,rfl⟩:=heq
      cases hl:i4 y with
      | none=>rw[hl] at he;cases he
      | some n=>
        rw[hl] at he;simp only[Option.bind_some] at he
        cases hs2:eq H size n y with
        | none=>rw[hs2] at he;cases he
        | some cs=>
          rw[hs2] at he;exact tf hs' he x hx
     ·cases he
 case appendZ e size bytes zs=>
  rw[hk] at hf he
  cases xs with
  | nil=>simp[ev1] at he
  | cons s r=>
    by_cases hs:∃b o len lb ex,s=.slice b o len lb ex
    ·obtain⟨b,o',len,lb,ex,rfl⟩:=hs;simp only[ha,if_true] at hf;injection hf with hf;subst hf;exact qH he x hx (fun e=>hb (by rw[e];rfl))
    ·have hs':∀b o len lb ex,s≠.slice b o len lb ex:=fun b o len lb ex e=>hs ⟨b,o,len,lb,ex,e⟩;simp only[ev1] at he;split at he
     ·rename_i s' k y heq;simp only[List.cons.injEq] at heq;obtain⟨rfl,rfl⟩:=heq;split at he
      ·exact tf hs' he x hx
      ·cases he
     ·cases he
 case mapEntry t ky z=>
  rw[hk] at hf he
  have:∃b k,xs=[.map b,k]:=by
   simp only[ev1] at he;split at he
   ·exact⟨_,_,rfl⟩
   ·cases he
  obtain⟨b,k,rfl⟩:=this;simp only[ha,if_true] at hf;injection hf with hf;subst hf;exact(qG he).1 x (fun e=>hb (by rw[e];rfl))
theorem Gz{f:Fp}{b o n:Nat}(h:bg f (.rd b o n)=true):f.blk≠some b:=by
 intro e
 cases f<;>simp[Fp.blk] at e<;>subst e<;>simp[bg] at h
def View(o n:Nat)(x x':Option IObj):Prop:=
 x=x'∨∃e ez cs cs',x=some (.cells false e ez cs)∧x'=some (.cells false e ez cs')∧cs.length=cs'.length∧∀i,o≤i→i < o+n→cs[i]? =cs'[i]?
theorem View.spl{o n:Nat}{x x':Option IObj}(h:View o n x x')(o':Nat)(vs:List IV):View o n (spl o' vs x) (spl o' vs x'):=by
 rcases h with rfl | ⟨e,ez,cs,cs',rfl,rfl,hl,hi⟩
 ·exact .inl rfl
 ·refine .inr ⟨e,ez,_,_,rfl,rfl,by rw[fd,fd];exact hl,fun i h1 h2=>?_⟩;rw[cc,cc,hi i h1 h2,hl]
theorem View.splL{o n:Nat}{x x':Option IObj}(h:View o n x x'){o':Nat}{vs:List IV}(hd:o'+vs.length≤o∨o+n≤o'):View o n (Iso.spl o' vs x) x':=by
 have key:∀(cs:List IV) (i:Nat),o≤i→i < o+n→(ar cs o' vs)[i]? =cs[i]?:=fun cs i h1 h2=>by rw[cc,if_neg (by omega)]
 rcases h with rfl | ⟨e,ez,cs,cs',rfl,rfl,hl,hi⟩
 ·cases x with
  | none=>exact .inl rfl
  | some ob=>
    cases ob with
    | cells ro e ez cs=>
      cases ro
      ·exact .inr ⟨e,ez,_,_,rfl,rfl,fd _ _ _,fun i h1 h2=>key cs i h1 h2⟩
      ·exact .inl rfl
    | _=>exact .inl rfl
 ·exact .inr ⟨e,ez,_,_,rfl,rfl,by rw[fd];exact hl,fun i h1 h2=>by rw[key cs i h1 h2];exact hi i h1 h2⟩
theorem View.symm{o n:Nat}{x x':Option IObj}(h:View o n x x'):View o n x' x:=by
 rcases h with rfl | ⟨e,ez,cs,cs',rfl,rfl,hl,hi⟩
 ·exact .inl rfl
 ·exact .inr ⟨e,ez,cs',cs,rfl,rfl,hl.symm,fun i h1 h2=>(hi i h1 h2).symm⟩
theorem View.read{o n:Nat}{H H':Heap}{b:Nat}(h:View o n (H.get b) (H'.get b)):H.read b o n=H'.read b o n:=by
 unfold Heap.read;rcases h with e | ⟨e,ez,cs,cs',h1,h2,hl,hi⟩
 ·rw[e]
 ·rw[h1,h2];simp only[hl];split
  ·congr 1;apply List.ext_getElem?;intro i;by_cases h:i < n
   ·rw[List.getElem?_take_of_lt h,List.getElem?_take_of_lt h,List.getElem?_drop,List.getElem?_drop];exact hi (o+i) (by omega) (by omega)
   ·rw[List.getElem?_take_eq_none (by omega),List.getElem?_take_eq_none (by omega)]
  ·rfl
def FB(ky:Bool×List Pk)(z k:IV)(x x':Option IObj):Prop:=x=x'∨∃u,iG ky z k x=some u∧iG ky z k x'=some u
theorem GR{ky:Bool×List Pk}{z k:IV}{x:Option IObj}{u:IV}(h:iG ky z k x=some u):∃es c,x=some (.map es c):=by
 cases x with
 | none=>cases h
 | some ob=>
   cases ob with
   | map es c=>exact⟨es,c,rfl⟩
   | _=>cases h
theorem EZ{ky:Bool×List Pk}{z k:IV}{x:Option IObj}{u:IV}(h:iG ky z k x=some u)(o:Nat)(vs:List IV):spl o vs x=x:=by
 obtain⟨es,c,rfl⟩:=GR h;rfl
theorem xb{t:TypeId}{ky:Bool×List Pk}{z k:IV}{b lo:Nat}{H H':Heap}{v:IV}(h:ev1 (.mapEntry t ky z) [.map b,k] lo H=some (v,H')):∃u,iG ky z k (H.get b)=some u:=by
 simp only[ev1] at h
 cases hm:az H b with
 | none=>rw[hm] at h;cases h
 | some p=>
   obtain⟨es,clock⟩:=p;rw[hm] at h;simp only at h;have hg:H.get b=some (.map es clock):=bQ hm;split at h
   ·cases hf:aF ky k es 0 with
    | none=>rw[hf] at h;cases h
    | some r=>exact⟨_,by simp[iG,hg,hf];rfl⟩
   ·cases h
section
variable {P:Program}{g0 lo:Nat}{ops:Array Oper}{a m:Nat}{S:Seg}
def xk(S:Seg)(a m:Nat)(T:Nat→Bool):Prop:=∀i j,i < j→j < m→S.ord a i j→T j=true→T i=true
structure Ready(S:Seg)(a m:Nat)(T:Nat→Bool)(j:Nat):Prop where
 lt:j < m
 off:T j=false
 pre:∀i,i < j→S.ord a i j→T i=true
structure Un(S:Seg)(a m k j:Nat):Prop where
 ne:k≠j
 ltk:k < m
 ltj:j < m
 l:k < j→¬S.ord a k j
 r:j < k→¬S.ord a j k
theorem ja{T:Nat→Bool}{j k:Nat}(hd:xk S a m T)(hr:Ready S a m T j)(hk:k < m)(h:T k≠bm j k):Un S a m k j∧(k < j→T k=false)∧(j < k→T k=true):=by
 have hne:k≠j:=fun e=>h (by rw[e,hr.off];simp[bm])
 have h1:k < j→T k=false:=fun hlt=>by
  have:bm j k=true:=by simp[bm,hlt]
  rw[this] at h;simpa using h
 have h2:j < k→T k=true:=fun hlt=>by
  have:bm j k=false:=by simp[bm];omega
  rw[this] at h;simpa using h
 refine⟨⟨hne,hk,hr.lt,fun hlt ho=>?_,fun hlt ho=>?_⟩,h1,h2⟩
 ·have:=hr.pre k hlt ho;rw[h1 hlt] at this;cases this
 ·have:=hd j k hlt hk ho (h2 hlt);rw[hr.off] at this;cases this
theorem Un.unl{k j:Nat}(h:Un S a m k j)(hS:SegOk P g0 lo ops a m S){d:Nat}(hd:(S.io k).dst=some d):d∉(S.io j).names:=by
 have key:∀{x y:IOp},pu x y=true→(∀d,x.dst=some d→d∉y.names)∧(∀d,y.dst=some d→d∉x.names):=by
  intro x y hu;simp only[pu,Bool.and_eq_true] at hu;refine⟨fun d e=>?_,fun d e=>?_⟩
  ·have:=hu.1;rw[e] at this;simpa using this
  ·have:=hu.2;rw[e] at this;simpa using this
 rcases Nat.lt_or_gt_of_ne h.ne with hlt | hlt
 ·exact(key (hS.unl k j hlt h.ltj (h.l hlt))).1 d hd
 ·exact(key (hS.unl j k hlt h.ltk (h.r hlt))).2 d hd
theorem Un.bes{k j:Nat}(h:Un S a m k j)(hS:SegOk P g0 lo ops a m S):(S.io k).kd.light=true∨(S.io j).kd.light=true∨((S.io k).kd.isStore=true∧(S.io j).kd.isStore=true)∨((S.io k).amb=false∧(S.io j).amb=false):=by
 have key:∀{x y:IOp},jH x y=true→x.kd.light=true∨y.kd.light=true∨(x.kd.isStore=true∧y.kd.isStore=true)∨(x.amb=false∧y.amb=false):=by
  intro x y hb;simp only[jH,Bool.or_eq_true,Bool.and_eq_true,Bool.not_eq_true'] at hb;rcases hb with((hb | hb) | hb) | hb
  ·exact .inl hb
  ·exact .inr (.inl hb)
  ·exact .inr (.inr (.inl hb))
  ·exact .inr (.inr (.inr hb))
 rcases Nat.lt_or_gt_of_ne h.ne with hlt | hlt
 ·exact key (hS.bes k j hlt h.ltj (h.l hlt))
 ·rcases key (hS.bes j k hlt h.ltk (h.r hlt)) with k1 | k1 | k1 | k1
  ·exact .inr (.inl k1)
  ·exact .inl k1
  ·exact .inr (.inr (.inl ⟨k1.2,k1.1⟩))
  ·exact .inr (.inr (.inr ⟨k1.2,k1.1⟩))
theorem Un.pair{k j:Nat}(h:Un S a m k j)(hS:SegOk P g0 lo ops a m S){f f':Fp}(hk:S.wt k=true)(hj:S.wt j=true)(hf:dW (S.io k) (S.xs k)=some f)(hf':dW (S.io j) (S.xs j)=some f'):bg f f'=true:=by
 rcases Nat.lt_or_gt_of_ne h.ne with hlt | hlt
 ·exact hS.pair k j f f' hlt h.ltj (h.l hlt) hk hj hf hf'
 ·rw[Bn];exact hS.pair j k f' f hlt h.ltk (h.r hlt) hj hk hf' hf
theorem Un.amb{k j:Nat}(h:Un S a m k j)(hS:SegOk P g0 lo ops a m S)(ha:(S.io k).amb=true):(S.io k).kd.isStore=true∨(S.io j).kd.pure=true∨((S.io k).kd.isWr=true∧(S.io j).kd.light=true):=
 hS.amb k j h.ltk h.ltj h.ne h.l h.r ha
variable {μ0:Mu}
theorem Canon.le(hc:Canon P g0 m S μ0){i j:Nat}(h:i≤j)(hj:j≤m):(S.H i).n≤(S.H j).n:=by
 induction j with
 | zero=>
      have:i=0:=by omega
      subst this;exact Nat.le_refl _
 | succ j ih=>
   rcases Nat.lt_or_ge i (j+1) with hlt | hge
   ·exact Nat.le_trans (ih (by omega) (by omega)) (hc.mono j (by omega))
   ·have:i=j+1:=by omega
    subst this;exact Nat.le_refl _
theorem wl{k b:Nat}(hs:(S.io k).kd.isStore=false)(hpos:b < (S.H k).n∨(S.H (k+1)).n≤b)(hm:(S.H k).n≤(S.H (k+1)).n)(hq:b < (S.H k).n→(S.H (k+1)).get b=(S.H k).get b)(x:Option IObj):S.eff k b x=x:=by
 unfold Seg.eff
 split;· rfl
 split;· rfl
 rw[if_neg (by rw[hs];simp)];rcases hpos with h | h
 ·rw[if_pos h,if_pos (hq h)]
 ·rw[if_neg (by omega),if_neg (by omega)]
theorem sc(hS:SegOk P g0 lo ops a m S)(hc:Canon P g0 m S μ0){k b:Nat}(hk:k < m)(ha:(S.io k).amb=false)(hpos:b < (S.H k).n∨(S.H (k+1)).n≤b)(x:Option IObj):S.eff k b x=x:=by
 cases hw:S.wt k with
 | false=>exact oU hw
 | true=>
   refine wl ?_ hpos (hc.mono k hk) (fun h=>hc.quiet k hk hw ha b h) x
   cases hs:(S.io k).kd.isStore with
   | false=>rfl
   | true=>rw[hS.store k hk hs] at ha;cases ha
theorem xO{k:Kd}(h:k.light=true):k.isStore=false:=by cases k<;>first | rfl | simp[Kd.light,Kd.pure,Kd.isLoad,Kd.isLook] at h
theorem PU{k:Kd}(h:k.isWr=true):k.isStore=false:=by cases k<;>first | rfl | simp[Kd.isWr] at h
theorem yz{k:Kd}(h:k.isWr=true):k≠.call:=fun e=>by rw[e] at h;cases h
theorem Un.eff_gen{k j:Nat}(h:Un S a m k j)(hS:SegOk P g0 lo ops a m S)(hc:Canon P g0 m S μ0)(hl:(S.io j).kd.light=false)(hs:(S.io j).kd.isStore=false){b:Nat}(hpos:b < (S.H k).n∨(S.H (k+1)).n≤b)(x:Option IObj):S.eff k b x=x:=by
 rcases h.bes hS with h1 | h1 | h1 | h1
 ·exact fh h1
 ·rw[hl] at h1;cases h1
 ·rw[hs] at h1;cases h1.2
 ·exact sc hS hc h.ltk h1.1 hpos x
theorem gG{k b b' o:Nat}{u:IV}(hw:S.wt k=true)(hs:(S.io k).kd.isStore=true)(hx:S.xs k=[.ptr b' o,u])(x:Option IObj):S.eff k b x=if b=b' then spl o u.cells x else x:=by
 unfold Seg.eff;rw[if_neg (by rw[hw];simp)];split
 ·rename_i h;rw[xO h] at hs;cases hs
 ·rw[hx]
theorem yj{b o n o' n':Nat}(h:ii b o n b o' n'=true):o+n≤o'∨o'+n'≤o:=by
 simpa [ii] using h
theorem Un.eff_cells{k j:Nat}(h:Un S a m k j)(hS:SegOk P g0 lo ops a m S)(hc:Canon P g0 m S μ0){b o n:Nat}(hw:S.wt j=true)(hfj:dW (S.io j) (S.xs j)=some (.rd b o n)∨((S.io j).kd.isStore=true∧dW (S.io j) (S.xs j)=some (.wr b o n)))(hnp:(S.io j).kd.pure=false)(hpos:b < (S.H k).n∨(S.H (k+1)).n≤b):
  (∀x,S.eff k b x=x)∨∃o' vs,(o'+List.length vs≤o∨o+n≤o')∧∀x,S.eff k b x=spl o' vs x:=by
 cases hwk:S.wt k with
 | false=>exact .inl fun x=>oU hwk
 | true=>
   by_cases hl:(S.io k).kd.light=true
   ·exact .inl fun x=>fh hl
   ·by_cases hs:(S.io k).kd.isStore=true
    ·obtain⟨n',b',o',u,e,ez,cs,h1,h2,h3,h4,h5,h6,h7,h8,h9,_⟩:=lM hS h.ltk hwk hs;by_cases hb:b=b'
     ·subst hb
      right;refine⟨o',u.cells,?_,fun x=>by rw[gG hwk hs h2,if_pos rfl]⟩
      have hf:dW (S.io k) (S.xs k)=some (.wr b o' n'):=by simp[dW,h1,h2]
      rw[h3];rcases hfj with hfj | ⟨_,hfj⟩
      ·exact yj (h.pair hS hwk hw hf hfj)
      ·exact yj (h.pair hS hwk hw hf hfj)
     ·left;intro x;rw[gG hwk hs h2,if_neg hb]
    ·left;intro x
     have hs':(S.io k).kd.isStore=false:=by simpa using hs
     cases ha:(S.io k).amb with
     | false=>exact sc hS hc h.ltk ha hpos x
     | true=>
       rcases h.amb hS ha with h1 | h1 | ⟨h1,h2⟩
       ·exact absurd h1 hs
       ·rw[hnp] at h1;cases h1
       ·obtain⟨f,hf⟩:=hS.fp k h.ltk hwk;rcases hfj with hfj | ⟨h3,_⟩
        ·have hb:=Gz (h.pair hS hwk hw hf hfj);exact wl hs' hpos (hc.mono k h.ltk) (fun hlt=>AQ (hS.ev1 k h.ltk hwk (yz h1)) h1 ha hf b hlt hb) x
        ·rw[xO h2] at h3;cases h3
theorem KG{k b o n:Nat}{x x':Option IObj}(h:View o n x x'):View o n (S.eff k b x) (S.eff k b x'):=by
 unfold Seg.eff
 repeat' split
 all_goals first
  | exact h
  | exact .inl rfl
  | exact h.spl _ _
theorem RA{j b:Nat}:∀{k:Nat},j≤k→S.G (bm j) k b=S.G (bm j) j b:=by
 intro k hk
 induction k with
 | zero=>
      have:j=0:=by omega
      subst this;rfl
 | succ k ih=>
   rcases Nat.lt_or_ge k j with h | h
   ·have:j=k+1:=by omega
    subst this;rfl
   ·simp only[Seg.G]
    have:bm j k=false:=by simp[bm];omega
    rw[this];simpa using ih h
theorem TO(hS:SegOk P g0 lo ops a m S)(hc:Canon P g0 m S μ0){j b:Nat}(hj:j≤m)(hb:b < (S.H j).n):S.G (bm j) m b=(S.H j).get b:=by
 rw[RA hj];exact FH hS hc j hj (fun i hi=>by simp[bm,hi]) b hb
theorem EU(hS:SegOk P g0 lo ops a m S)(hc:Canon P g0 m S μ0){T:Nat→Bool}{j:Nat}(hd:xk S a m T)(hr:Ready S a m T j){b o n:Nat}(hw:S.wt j=true)(hfj:dW (S.io j) (S.xs j)=some (.rd b o n)∨((S.io j).kd.isStore=true∧dW (S.io j) (S.xs j)=some (.wr b o n)))(hnp:(S.io j).kd.pure=false)
  (hb:b < (S.H j).n) (hpos:∀k,k < m→T k=false→b < (S.H k).n∨(S.H (k+1)).n≤b):View o n (S.G T m b) ((S.H j).get b):=by
 rw[←TO hS hc (Nat.le_of_lt hr.lt) hb]
 have hp:∀k,k < m→T k≠bm j k→b < (S.H k).n∨(S.H (k+1)).n≤b:=by
  intro k hk hne;obtain⟨hu,h1,h2⟩:=ja hd hr hk hne;rcases Nat.lt_or_gt_of_ne hu.ne with hlt | hlt
  ·exact hpos k hk (h1 hlt)
  ·left;exact Nat.lt_of_lt_of_le hb (hc.le (Nat.le_of_lt hlt) (Nat.le_of_lt hk))
 refine FF (View o n) T (bm j) b (.inl rfl) m (fun k x x' _ _ _ h=>KG h) (fun k hk h1 h2 h=>?_) (fun k hk h1 h2 h=>?_)
 ·have hne:T k≠bm j k:=by rw[h1,h2];simp
  rcases(ja hd hr hk hne).1.eff_cells hS hc hw hfj hnp (hp k hk hne) with e | ⟨o',vs,e1,e2⟩
  ·rw[e];exact h
  ·rw[e2];exact h.splL e1
 ·have hne:T k≠bm j k:=by rw[h1,h2];simp
  rcases(ja hd hr hk hne).1.eff_cells hS hc hw hfj hnp (hp k hk hne) with e | ⟨o',vs,e1,e2⟩
  ·rw[e];exact h
  ·rw[e2];exact(h.symm.splL e1).symm
end
open Classical
section
variable {P:Program}{g0 lo:Nat}{ops:Array Oper}{a m:Nat}{S:Seg}{μ0:Mu}
theorem tp{op op':Op}{t:TypeId}{ky ky':Bool×List Pk}{z z':IV}{ok:Bool}(h:bG P op=some (.lookup t ky z ok))(h':bG P op'=some (.mapEntry t ky' z')):ky=ky'∧z=z':=by
 have h1:∃k e,P.underlying t=some (.map k e)∧lg P k=some ky∧fk P e=some z:=by
  cases op<;>simp only[bG,BQ,aH,Option.map_eq_some_iff,Option.bind_eq_some_iff] at h
  all_goals (repeat' split at h)
  all_goals (try cases h;done)
  all_goals (try simp only[Option.bind_eq_some_iff,Option.map_eq_some_iff,reduceCtorEq,and_false,exists_false] at h)
  all_goals grind
 have h2:∃k e,P.underlying t=some (.map k e)∧lg P k=some ky'∧fk P e=some z':=by
  cases op'<;>simp only[bG,BQ,aH,Option.map_eq_some_iff,Option.bind_eq_some_iff] at h'
  all_goals (repeat' split at h')
  all_goals (try cases h';done)
  all_goals (try simp only[Option.bind_eq_some_iff,Option.map_eq_some_iff,reduceCtorEq,and_false,exists_false] at h')
  all_goals grind
 obtain⟨k,e,a1,a2,a3⟩:=h1;obtain⟨k',e',b1,b2,b3⟩:=h2;rw[a1] at b1;injection b1 with b1;injection b1 with b1 b1';subst b1 b1';rw[a2] at b2;rw[a3] at b3;injection b2 with b2;injection b3 with b3;exact⟨b2,b3⟩
theorem FG(hS:SegOk P g0 lo ops a m S)(hc:Canon P g0 m S μ0){T:Nat→Bool}(hd:xk S a m T){k b:Nat}(hk:k < m)(hT:T k=true)(ha:(S.io k).amb=true)(hw:(S.io k).kd.isWr=true)(hb:b < (S.H k).n):S.G T k b=(S.H k).get b:=by
 have h1:S.G T k b=S.G (bm k) k b:=by
  refine N5 T (bm k) b k fun i x hi hne=>?_;have hu:bm k i=true:=by simp[bm,hi]
  rw[hu] at hne;have hTi:T i=false:=by simpa using hne
  have hun:Un S a m k i:=⟨by omega,hk,by omega,fun h=>by omega,fun _ ho=>by have:=hd i k hi hk ho hT;rw[hTi] at this;cases this⟩;rcases hun.amb hS ha with h | h | h
  ·rw[PU hw] at h;cases h
  ·exact fh (by simp[Kd.light,h])
  ·exact fh h.2
 rw[h1];exact FH hS hc k (Nat.le_of_lt hk) (fun i hi=>by simp[bm,hi]) b hb
theorem Hf{k b:Nat}{ky:Bool×List Pk}{z key:IV}{x x':Option IObj}(h:FB ky z key x x'):FB ky z key (S.eff k b x) (S.eff k b x'):=by
 rcases h with rfl | ⟨u,h1,h2⟩
 ·exact .inl rfl
 ·unfold Seg.eff
  repeat' split
  all_goals first
   | exact .inr ⟨u,h1,h2⟩
   | exact .inl rfl
   | (rw[EZ h1,EZ h2];exact .inr ⟨u,h1,h2⟩)
theorem Un.eff_look{k j:Nat}(h:Un S a m k j)(hS:SegOk P g0 lo ops a m S)(hc:Canon P g0 m S μ0){t:TypeId}{ky:Bool×List Pk}{z key:IV}{b:Nat}(hw:S.wt j=true)(hkj:(S.io j).kd=.lookup t ky z false)(hxj:S.xs j=[.map b,key])(hpos:b < (S.H k).n∨(S.H (k+1)).n≤b):
  (∀x,S.eff k b x=x)∨(b < (S.H k).n∧(S.io k).amb=true∧(S.io k).kd.isWr=true∧(∃u,iG ky z key ((S.H k).get b)=some u∧iG ky z key ((S.H (k+1)).get b)=some u)∧(S.eff k b ((S.H k).get b)=(S.H (k+1)).get b)):=by
 have hfj:dW (S.io j) (S.xs j)=some (.lk t ky b key):=by simp[dW,hkj,hxj]
 cases hwk:S.wt k with
 | false=>exact .inl fun x=>oU hwk
 | true=>
   by_cases hl:(S.io k).kd.light=true
   ·exact .inl fun x=>fh hl
   ·by_cases hs:(S.io k).kd.isStore=true
    ·obtain⟨n',b',o',u,e,ez,cs,h1,h2,h3,h4,h5,h6,h7,h8,h9,_⟩:=lM hS h.ltk hwk hs;by_cases hb:b=b'
     ·subst hb;have hf:dW (S.io k) (S.xs k)=some (.wr b o' n'):=by simp[dW,h1,h2]
      have:=h.pair hS hwk hw hf hfj
      simp[bg] at this
     ·left;intro x;rw[gG hwk hs h2,if_neg hb]
    ·have hs':(S.io k).kd.isStore=false:=by simpa using hs
     cases ha:(S.io k).amb with
     | false=>exact .inl fun x=>sc hS hc h.ltk ha hpos x
     | true=>
       rcases h.amb hS ha with h1 | h1 | ⟨h1,h2⟩
       ·exact absurd h1 hs
       ·rw[hkj] at h1;simp[Kd.pure] at h1
       ·obtain⟨f,hf⟩:=hS.fp k h.ltk hwk;have hpair:=h.pair hS hwk hw hf hfj;by_cases hb:f.blk=some b
        ·rcases hpos with hlt | hge
         ·right;have hev:=hS.ev1 k h.ltk hwk (yz h1)
          have:∃t' ky' z' key',(S.io k).kd=.mapEntry t' ky' z'∧S.xs k=[.map b,key']∧f=.me t' ky' b key':=by
           cases hk:(S.io k).kd<;>rw[hk] at h1<;>simp[Kd.isWr] at h1
           case append e size bytes=>
            exfalso
            have:f=.wb b:=by
             unfold dW at hf;rw[hk] at hf;simp only[ha,if_true] at hf;split at hf
             all_goals first
              | (cases hf;done)
              | (rename_i heq _;cases heq;done)
              | (rename_i heq;cases heq;done)
              | (injection hf with hf;subst hf;simp[Fp.blk] at hb;done)
              | (injection hf with hf;subst hf;simp only[Fp.blk,Option.some.injEq] at hb;rw[hb])
            rw[this] at hpair;simp[bg] at hpair
           case appendZ e size bytes zs=>
            exfalso
            have:f=.wb b:=by
             unfold dW at hf;rw[hk] at hf;simp only[ha,if_true] at hf;split at hf
             all_goals first
              | (cases hf;done)
              | (rename_i heq _;cases heq;done)
              | (rename_i heq;cases heq;done)
              | (injection hf with hf;subst hf;simp[Fp.blk] at hb;done)
              | (injection hf with hf;subst hf;simp only[Fp.blk,Option.some.injEq] at hb;rw[hb])
            rw[this] at hpair;simp[bg] at hpair
           case mapEntry t' ky' z'=>
            rw[hk] at hev
            have:∃b' k',S.xs k=[.map b',k']:=by
             simp only[ev1] at hev;split at hev
             ·rename_i b' k' heq;exact⟨_,_,heq⟩
             ·cases hev
            obtain⟨b',k',hx⟩:=this;have hff:f=.me t' ky' b' k':=by simpa [dW,hk,hx,ha] using hf.symm
            subst hff;simp only[Fp.blk,Option.some.injEq] at hb;subst hb;exact⟨t',ky',z',k',rfl,hx,rfl⟩
          obtain⟨t',ky',z',key',hk,hx,rfl⟩:=this;rw[hk,hx] at hev;simp only[bg,ne_eq,not_true_eq_false,decide_false,Bool.false_or,Bool.and_eq_true,beq_iff_eq] at hpair;obtain⟨htt,hkk⟩:=hpair;subst htt
          have hkeq:key=key':=by
           cases hq:dU ky key key' with
           | none=>rw[hq] at hkk;cases hkk
           | some r=>cases r<;>rw[hq] at hkk<;>first | cases hkk;done | exact vU hq
          subst hkeq;have hkjs:=hS.kd j h.ltj;rw[hkj] at hkjs;have hkks:=hS.kd k h.ltk;rw[hk] at hkks;obtain⟨e1,e2⟩:=tp hkjs hkks;subst e1 e2;obtain⟨u,hu⟩:=xb hev;refine⟨hlt,rfl,by rw[hk];rfl,⟨u,hu,(qG hev).2 u hu⟩,?_⟩;unfold Seg.eff;rw[if_neg (by rw[hwk];simp),if_neg hl,if_neg hs,if_pos hlt];split
          ·rename_i e;exact e.symm
          ·rfl
         ·left;intro x
          exact wl hs' (.inr hge) (hc.mono k h.ltk) (fun hlt=>by have:=hc.mono k h.ltk;omega) x
        ·left;intro x
         exact wl hs' hpos (hc.mono k h.ltk) (fun hlt=>AQ (hS.ev1 k h.ltk hwk (yz h1)) h1 ha hf b hlt hb) x
theorem In(hS:SegOk P g0 lo ops a m S)(hc:Canon P g0 m S μ0){T:Nat→Bool}{j:Nat}(hd:xk S a m T)(hr:Ready S a m T j){t:TypeId}{ky:Bool×List Pk}{z key:IV}{b:Nat}(hw:S.wt j=true)(hkj:(S.io j).kd=.lookup t ky z false)(hxj:S.xs j=[.map b,key])
  (hb:b < (S.H j).n) (hpos:∀k,k < m→T k=false→b < (S.H k).n∨(S.H (k+1)).n≤b):FB ky z key (S.G T m b) ((S.H j).get b):=by
 rw[←TO hS hc (Nat.le_of_lt hr.lt) hb]
 have hp:∀k,k < m→T k≠bm j k→b < (S.H k).n∨(S.H (k+1)).n≤b:=by
  intro k hk hne;obtain⟨hu,h1,h2⟩:=ja hd hr hk hne;rcases Nat.lt_or_gt_of_ne hu.ne with hlt | hlt
  ·exact hpos k hk (h1 hlt)
  ·left;exact Nat.lt_of_lt_of_le hb (hc.le (Nat.le_of_lt hlt) (Nat.le_of_lt hk))
 have hdu:xk S a m (bm j):=by
  intro i k hik _ _ hk;simp only[bm,decide_eq_true_eq] at hk⊢;omega
 refine FF (FB ky z key) T (bm j) b (.inl rfl) m (fun k x x' _ _ _ h=>Hf h) (fun k hk h1 h2 h=>?_) (fun k hk h1 h2 h=>?_)
 ·have hne:T k≠bm j k:=by rw[h1,h2];simp
  rcases(ja hd hr hk hne).1.eff_look hS hc hw hkj hxj (hp k hk hne) with e | ⟨e1,e2,e3,⟨u,e4,e5⟩,e6⟩
  ·rw[e];exact h
  ·have hg:=FG hS hc hd hk h1 e2 e3 e1;rw[hg] at h⊢;rw[e6];rcases h with h | ⟨u',h3,h4⟩
   ·rw[←h];exact .inr ⟨u,e5,e4⟩
   ·rw[e4] at h3;injection h3 with h3;subst h3;exact .inr ⟨u,e5,h4⟩
 ·have hne:T k≠bm j k:=by rw[h1,h2];simp
  rcases(ja hd hr hk hne).1.eff_look hS hc hw hkj hxj (hp k hk hne) with e | ⟨e1,e2,e3,⟨u,e4,e5⟩,e6⟩
  ·rw[e];exact h
  ·have hg:=FG hS hc hdu hk h2 e2 e3 e1;rw[hg] at h⊢;rw[e6];rcases h with h | ⟨u',h3,h4⟩
   ·rw[h];exact .inr ⟨u,e4,e5⟩
   ·rw[e4] at h4;injection h4 with h4;subst h4;exact .inr ⟨u,h3,e5⟩
end
open Classical
section
variable {P:Program}{g0 lo:Nat}{ops:Array Oper}{a m:Nat}{S:Seg}{μ0:Mu}{w0:World}
structure FInv(P:Program)(g0 lo m:Nat)(S:Seg)(μ0:Mu)(w0:World)(T:Nat→Bool)(μ:Mu)(t:Array Value)(w:World):Prop where
 core:Core P g0 lo μ0 (S.H 0).get (S.H 0).n w0 μ (S.G T m) (S.H m).n w
 dom:∀b,(S.H 0).n≤b→(μ b≠.no↔∃k,k < m∧T k=true∧(S.H k).n≤b∧b < (S.H (k+1)).n)
 tm:VRs μ (S.tmF T m) t.toList
variable {T:Nat→Bool}{μ:Mu}{t:Array Value}{w:World}{j:Nat}
theorem FInv.pos(h:FInv P g0 lo m S μ0 w0 T μ t w)(hc:Canon P g0 m S μ0){b:Nat}(hb:b < (S.H 0).n∨μ b≠.no):∀k,k < m→T k=false→b < (S.H k).n∨(S.H (k+1)).n≤b:=by
 intro k hk hT;have h0:=hc.le (Nat.zero_le k) (Nat.le_of_lt hk);rcases hb with hb | hb
 ·left;omega
 ·by_cases hb0:b < (S.H 0).n
  ·left;omega
  ·obtain⟨k',k1,k2,k3,k4⟩:=(h.dom b (by omega)).1 hb;rcases Nat.lt_trichotomy k k' with hlt | heq | hlt
   ·right;have:=hc.le (i:=k+1) (j:=k') (by omega) (by omega);omega
   ·subst heq;rw[hT] at k2;cases k2
   ·left;have:=hc.le (i:=k'+1) (j:=k) (by omega) (by omega);omega
theorem FInv.none_(h:FInv P g0 lo m S μ0 w0 T μ t w)(hc:Canon P g0 m S μ0)(hj:j < m)(hT:T j=false){b:Nat}(h1:(S.H j).n≤b)(h2:b < (S.H (j+1)).n):μ b=.no:=by
 by_cases hb:μ b=.no
 ·exact hb
 ·rcases h.pos hc (.inr hb) j hj hT with h3 | h3<;>omega
theorem FInv.next(h:FInv P g0 lo m S μ0 w0 T μ t w)(hS:SegOk P g0 lo ops a m S)(hc:Canon P g0 m S μ0)(hd:xk S a m T)(hr:Ready S a m T j)
  {lw n1 n2:Nat} {g1 g2:Gt} {μ1:Mu} {w':World} {v':Value} (hr1:Rel P g0 μ1 g2 n2 w') (hp:Post lw (μ.cut n1) g1 n1 w μ1 g2 n2 w') (hv:VR μ1 (S.v j) v') (h01:(S.H 0).n≤n1) (h2N:n2≤(S.H m).n) (hlw:lw=lo∨lw=n1)
  (hrange:∀b,(n1≤b∧b < n2)↔((S.H j).n≤b∧b < (S.H (j+1)).n))
  (e1:∀b,b < n1→(b < (S.H 0).n∨μ b≠.no)→S.G T m b=g1 b) (e2:∀b,b < n2→(b < (S.H 0).n∨μ1 b≠.no)→S.G (ff T j) m b=g2 b) (e3:∀b,n2≤b→μ b≠.no→S.G (ff T j) m b=S.G T m b):
  ∃μ',FInv P g0 lo m S μ0 w0 (ff T j) μ' (mG t (S.o j).dst v') w':=by
 obtain⟨hcore,hle,hle1⟩:=h.core.step hr1 hp h01 h2N hlw (fun b k1 k2=>by obtain⟨k3,k4⟩:=(hrange b).1 ⟨k1,k2⟩;exact h.none_ hc hr.lt hr.off k3 k4) e1 e2 e3;have h12:=hp.hn;refine⟨μ1.merge μ n2,hcore,fun b hb=>?_,?_⟩
 ·have key:(μ1.merge μ n2) b≠.no↔(μ b≠.no∨(n1≤b∧b < n2)):=by
   by_cases h2:b < n2
   ·have hm:μ1.merge μ n2 b=μ1 b:=by simp only[Mu.merge];rw[if_pos h2]
    rw[hm];by_cases h1:b < n1
    ·constructor
     ·intro hne;left;intro e;exact hne (hp.old b h1 (by rw[aV μ h1];exact e))
     ·rintro(hne | hh)
      ·rcases hp.le b (by rw[aV μ h1];exact hne) with e | e
       ·rw[e,aV μ h1];exact hne
       ·rw[e];exact fun x=>by cases x
      ·omega
    ·exact⟨fun _=>.inr ⟨by omega,h2⟩,fun _=>hp.full b (by omega) h2⟩
   ·have hm:μ1.merge μ n2 b=μ b:=by simp only[Mu.merge];rw[if_neg h2]
    rw[hm];exact⟨fun x=>.inl x,fun x=>by rcases x with x | x;exact x;omega⟩
  rw[key,h.dom b hb,hrange b]
  constructor
  ·rintro(⟨k,k1,k2,k3⟩ | k3)
   ·exact⟨k,k1,by simp[ff,k2],k3⟩
   ·exact⟨j,hr.lt,dY T j,k3⟩
  ·rintro⟨k,k1,k2,k3⟩
   by_cases e:k=j
   ·subst e;exact .inr k3
   ·rw[cY T e] at k2;exact .inl ⟨k,k1,k2,k3⟩
 ·rw[Iv (m:=m) hr.off (fun k hk hkm hT d hd1 hd2=>?_) m hr.lt (Nat.le_refl _)]
  ·rw[hS.dst j hr.lt]
   cases(S.o j).dst with
   | none=>exact VRs.mono hle _ _ h.tm
   | some d=>simp only[Fr.put,mG,Array.toList_setIfInBounds];exact(VRs.mono hle _ _ h.tm).set d (VR.mono hle1 _ _ hv)
  ·have hun:Un S a m k j:=⟨by omega,hkm,hr.lt,fun x=>by omega,fun _ ho=>by have:=hd j k hk hkm ho hT;rw[hr.off] at this;cases this⟩
   have:=hun.unl hS hd2
   exact this (by simp[IOp.names,hd1])
theorem FInv.agree(h:FInv P g0 lo m S μ0 w0 T μ t w)(hS:SegOk P g0 lo ops a m S)(hd:xk S a m T)(hr:Ready S a m T j){x:Nat}(hx:x∈(S.io j).names):VR μ ((S.fr j).tm.getD x IV.undef) (t.getD x undef):=by
 have e1:(S.fr j).tm=S.tmF (bm j) j:=by
  rw[zU hS j (Nat.le_of_lt hr.lt)];exact qe fun i hi=>by have:=hr.lt;simp[bm];omega
 have e2:∀k,j≤k→S.tmF (bm j) k=S.tmF (bm j) j:=by
  intro k hk
  induction k with
  | zero=>
       have:j=0:=by omega
       rw[this]
  | succ k ih=>
    rcases Nat.lt_or_ge k j with h | h
    ·have:j=k+1:=by omega
     rw[this]
    ·simp only[Seg.tmF]
     have:bm j k=false:=by simp[bm];omega
     rw[this];simpa using ih h
 have e3:(S.tmF T m).getD x IV.undef=(S.fr j).tm.getD x IV.undef:=by
  rw[e1,←e2 m (Nat.le_of_lt hr.lt)];refine EX T (bm j) x m fun k hk hne hdst=>?_;exact(ja hd hr hk hne).1.unl hS hdst hx
 rw[←e3];exact gC h.tm x
theorem DI{o:IOp}{x:Nat}(h:x∈o.args.filterMap uu):x∈o.names:=by
 simp only[IOp.names,List.mem_append];exact .inl (.inr h)
theorem BB{o:IOp}{x:Nat}{w:Bool}(h:o.guard=some (x,w)):x∈o.names:=by
 simp[IOp.names,h]
theorem LocR.ne{b o:Nat}{x:Addr}(h:LocR μ b o x):μ b≠.no:=fun e=>by unfold LocR at h;rw[e] at h;exact h
theorem FInv.rel_at(h:FInv P g0 lo m S μ0 w0 T μ t w)(hc:Canon P g0 m S μ0)(hj:j < m)(e1:∀b,b < (S.H j).n→(b < (S.H 0).n∨μ b≠.no)→S.G T m b=(S.H j).get b):
  Rel P g0 (μ.cut (S.H j).n) (S.H j).get (S.H j).n w:=by
 obtain⟨μj,wj,tj,hrj,_,hd1,hd2⟩:=hc.refs j (Nat.le_of_lt hj);have none_:∀{b c p ez z} {m:Mu},m b=.at c p ez z→m b≠.no:=fun e x=>by rw[e] at x;cases x
 constructor
 ·intro b hb;rcases Nat.lt_or_ge b (S.H j).n with h1 | h1
  ·exact h1
  ·rw[o0 μ h1] at hb;exact absurd rfl hb
 ·intro b b' c p ez z p' ez' z' hb hb' ho;obtain⟨k1,k2⟩:=sm hb;obtain⟨k3,k4⟩:=sm hb';exact h.core.rel.inj b b' c _ _ _ _ _ _ k2 k4 (bC (e1 b k1 (.inr (none_ k2))).symm ho)
 ·intro b c p ez z hb;obtain⟨k1,k2⟩:=sm hb;obtain⟨o,k3,k4⟩:=h.core.rel.obj b c p ez z k2;have hg:=e1 b k1 (.inr (none_ k2));rw[hg] at k3;refine⟨o,k3,?_⟩
  have hne:μj b≠.no:=by
   by_cases hb0:b < (S.H 0).n
   ·exact hd1 b hb0 (fun e=>by rw[h.core.old b hb0 e] at k2;cases k2)
   ·exact hd2 b (by omega) k1
  cases hmj:μj b with
  | no=>exact absurd hmj hne
  | dead=>
    have:=hrj.ded b hmj
    rw[k3] at this;injection this with this;subst this;exact k4.elim
  | «at» c1 p1 ez1 z1=>
    obtain⟨o1,k5,k6⟩:=hrj.obj b c1 p1 ez1 z1 hmj;rw[k3] at k5;injection k5 with k5;subst k5;exact k4.cut hrj.lt k6
 ·intro i hi;have hlt:i < (S.H j).n:=hrj.lt i (none_ (hrj.glob i hi));rw[aV μ hlt];exact h.core.rel.glob i hi
 ·intro b hb;rcases Nat.lt_or_ge b (S.H j).n with h1 | h1
  ·rw[aV μ h1] at hb;rw[←e1 b h1 (.inr (by rw[hb];exact fun x=>by cases x))];exact h.core.rel.ded b hb
  ·rw[o0 μ h1] at hb;cases hb
theorem FInv.step(h:FInv P g0 lo m S μ0 w0 T μ t w)(hS:SegOk P g0 lo ops a m S)(hc:Canon P g0 m S μ0)(hd:xk S a m T)(hr:Ready S a m T j)
  (f:FuncId) (rd:Option Nat) (ds:List Deferred) (k:List Item) (cs:List Frame) (rest:List Nat):
  ∃μ' t' w',FInv P g0 lo m S μ0 w0 (ff T j) μ' t' w'∧Steps P (lone (aZ f rd t ds (.inRegion ops ((a+j)::rest)::k)) cs w) (lone (aZ f rd t' ds (.inRegion ops rest::k)) cs w'):=by
 have hj:=hr.lt;have hop:=hS.op j hj
 have hlen:(S.fr j).tm.length=t.size:=by
  rw[zU hS j (Nat.le_of_lt hj),oE,←oE T m];simpa using h.tm.length
 have hwant:Region.wanted (S.o j) (yielded ops t)=S.wt j:=by
  rw[lx (hS.guard j hj) hlen (fun d w' e=>h.agree hS hd hr (BB e))];exact hS.wtd j hj
 have h0j:=hc.le (Nat.zero_le j) (Nat.le_of_lt hj);have hjm:=hc.le (i:=j+1) (j:=m) hj (Nat.le_refl _);have hjj:=hc.mono j hj
 have hcut:μ.cut (S.H m).n=μ:=by
  funext b
  rcases Nat.lt_or_ge b (S.H m).n with h1 | h1
  ·exact aV μ h1
  ·rw[o0 μ h1]
   cases e:μ b with
   | no=>rfl
   | dead=>exact absurd (h.core.rel.lt b (by rw[e];exact fun x=>by cases x)) (by omega)
   | «at» c p ez z=>exact absurd (h.core.rel.lt b (by rw[e];exact fun x=>by cases x)) (by omega)
 have hsame:∀b,(∀x,S.eff j b x=x)→S.G (ff T j) m b=S.G T m b:=by
  intro b he;refine N5 (ff T j) T b m fun i x _ hne=>?_
  have:i=j:=by
   by_cases e:i=j
   ·exact e
   ·exact absurd (cY T e) hne
  subst this;exact he x
 cases hw:S.wt j with
 | false=>
   obtain⟨hv,hH⟩:=hS.off j hj hw
   obtain⟨μ',hf⟩:=h.next (lw:=(S.H m).n) (v':=undef) (g1:=S.G T m) (g2:=S.G T m) hS hc hd hr h.core.rel (by rw[hcut];exact Post.refl h.core.rel) (by rw[hv];exact⟨#[],rfl,rfl⟩) (hc.le (Nat.zero_le _) (Nat.le_refl _)) (Nat.le_refl _) (.inr rfl)
    (fun b=>by rw[hH];omega) (fun _ _ _=>rfl) (fun b _ _=>hsame b fun x=>oU hw) (fun b _ _=>hsame b fun x=>oU hw)
   rw[hw] at hwant;exact⟨μ',_,w,hf,.one (vl hop hwant)⟩
 | true=>
   rw[hw] at hwant;have hev:=hS.ev j hj hw;have hxs:=cX h.core.rel (hS.args j hj) hev (fun i hi=>h.agree hS hd hr (DI hi));obtain⟨μj,wj,tj,hrj,htj,_,_⟩:=hc.refs j (Nat.le_of_lt hj);have hxsj:=cX (t:=tj.toArray) hrj (hS.args j hj) hev (fun i _=>gC (by simpa using htj) i);obtain⟨H2,hn2,hg2⟩:=Ny (S.G T m) (S.H m).n;have hrel2:Rel P g0 μ H2.get H2.n w:=by rw[hn2];exact h.core.rel.congr fun b hb=>hg2 b (h.core.rel.lt b hb)
   by_cases hl:(S.io j).kd.light=true
   ·
    have hne:(S.io j).kd≠.call:=fun e=>by rw[e] at hl;simp[Kd.light,Kd.pure,Kd.isLoad,Kd.isLook] at hl
    have he:=hS.ev1 j hj hw hne;have hH:=vR hS hj hw hl
    have he2:ev1 (S.io j).kd (S.xs j) H2.n H2=some (S.v j,H2):=by
     have hl':=hl;simp only[Kd.light,Bool.or_eq_true] at hl';rcases hl' with(hl' | hl') | hl'
     ·exact(BZ hl' he).2 _ _
     ·cases hk:(S.io j).kd<;>rw[hk] at hl'<;>simp[Kd.isLoad] at hl'
      rename_i n;rw[hk] at he;obtain⟨b,o,hx,_,⟨rs,hrs⟩,hall⟩:=B1 he;rw[hx] at hxs hxsj;obtain⟨y,_,_,⟨ad,_,hloc⟩,_⟩:=hxs;obtain⟨y',_,_,⟨ad',_,hloc'⟩,_⟩:=hxsj;have hb:=hrj.lt b hloc'.ne;have hv:=EU hS hc hd hr (o:=o) (n:=n.getD 1) hw (.inl (by simp[dW,hk,hx])) (by rw[hk];rfl) hb (h.pos hc (.inr hloc.ne));rw[←hg2 b (h.core.rel.lt b hloc.ne)] at hv;exact hall _ _ hv.read
     ·cases hk:(S.io j).kd<;>rw[hk] at hl'<;>simp[Kd.isLook] at hl'
      rename_i ty ky z ok
      cases ok<;>simp at hl'
      rw[hk] at he;rcases(B0 he).2 with⟨key,hx,hall⟩ | ⟨b,key,hx,hlk,hall⟩
      ·exact hall _ _
      ·rw[hx] at hxs hxsj;obtain⟨y,_,_,⟨ad,_,hloc⟩,_⟩:=hxs;obtain⟨y',_,_,⟨ad',_,hloc'⟩,_⟩:=hxsj;have hb:=hrj.lt b hloc'.ne;have hv:=In hS hc hd hr hw hk hx hb (h.pos hc (.inr hloc.ne));rw[←hg2 b (h.core.rel.lt b hloc.ne)] at hv;refine hall _ _ ?_;rcases hv with e | ⟨u,e1,e2⟩
       ·rw[e];exact hlk
       ·rw[hlk] at e2;injection e2 with e2;subst e2;exact e1
    obtain⟨v',w',μ1,hr1,hp1,hv1,hst⟩:=rL (hS.kd j hj) he2 μ w t hrel2 hxs f rd ds k cs ops (a+j) rest;rw[hn2] at hr1 hp1
    obtain⟨μ',hf⟩:=h.next (v':=v') hS hc hd hr hr1 (by rw[hcut];exact hp1) hv1 (hc.le (Nat.zero_le _) (Nat.le_refl _)) (Nat.le_refl _) (.inr rfl)
     (fun b=>by rw[hH];omega) (fun b hb _=>(hg2 b hb).symm) (fun b hb _=>by rw[hsame b fun x=>fh hl];exact(hg2 b hb).symm) (fun b _ _=>hsame b fun x=>fh hl)
    exact⟨μ',_,w',hf,hst hop hwant⟩
   ·have hl':(S.io j).kd.light=false:=by simpa using hl
    by_cases hs:(S.io j).kd.isStore=true
    ·
     obtain⟨n,b,o,u,e,ez,cs0,h1,h2,h3,h4,h5,h6,h7,h8,h9,hall⟩:=lM hS hj hw hs;rw[h2] at hxs hxsj;have hxs0:=hxs;obtain⟨y,_,_,⟨ad,_,hloc⟩,_⟩:=hxs;obtain⟨y',_,_,⟨ad',_,hloc'⟩,_⟩:=hxsj;have hb:=hrj.lt b hloc'.ne;have hbN:=h.core.rel.lt b hloc.ne;have hfp:dW (S.io j) (S.xs j)=some (.wr b o n):=by simp[dW,h1,h2]
     have hnp:(S.io j).kd.pure=false:=by rw[h1];rfl
     have hv:=EU hS hc hd hr (o:=o) (n:=n) hw (.inr ⟨hs,hfp⟩) hnp hb (h.pos hc (.inr hloc.ne));rw[h5] at hv
     have hshape:∃cs1,S.G T m b=some (.cells false e ez cs1)∧cs1.length=cs0.length:=by
      rcases hv with e' | ⟨e1,ez1,cs1,cs2,k1,k2,k3,_⟩
      ·exact⟨cs0,e',rfl⟩
      ·injection k2 with k2;injection k2 with _ k4 k5 k6;subst k4 k5 k6;exact⟨cs1,k1,k3⟩
     obtain⟨cs1,hg,hlen1⟩:=hshape;have hwr:=HQ (H:=H2) (lo:=lo) (by rw[hg2 b hbN];exact hg) h6 (by rw[hlen1];exact h7) h8;have he2:=hall _ _ hwr;obtain⟨v',w',μ1,hr1,hp1,hv1,hst⟩:=rL (o:=S.o j) (by rw[←h1];exact hS.kd j hj) he2 μ w t hrel2 (by rw[h2];exact hxs0) f rd ds k cs ops (a+j) rest;rw[af,hn2] at hr1 hp1;have hother:∀b',b'≠b→∀x,S.eff j b' x=x:=fun b' hne x=>by rw[gG hw hs h2,if_neg hne]
     have hself:∀k,j < k→k≤m→S.G (ff T j) k b=spl o u.cells (S.G T k b):=by
      intro k
      induction k with
      | zero=>intro hk;omega
      | succ k ih=>
        intro hk hm;by_cases ek:k=j
        ·subst ek;simp only[Seg.G,dY,if_true,hr.off,Bool.false_eq_true,if_false];rw[gG hw hs h2,if_pos rfl,Ll fun i hi=>cY T (by omega)]
        ·have ih:=ih (by omega) (by omega);simp only[Seg.G,cY T ek];by_cases hTk:T k=true
         ·rw[if_pos hTk,if_pos hTk,ih];have hun:Un S a m k j:=⟨ek,by omega,hj,fun x=>by omega,fun _ ho=>by have:=hd j k (by omega) (by omega) ho hTk;rw[hr.off] at this;cases this⟩;have hpos:b < (S.H k).n:=Nat.lt_of_lt_of_le hb (hc.le (by omega) (by omega));rcases hun.eff_cells hS hc hw (.inr ⟨hs,hfp⟩) hnp (.inl hpos) with ee | ⟨o',vs,ee1,ee2⟩
          ·rw[ee,ee]
          ·rw[ee2,ee2,IL];rw[h3];omega
         ·rw[if_neg hTk,if_neg hTk,ih]
     have hG:∀b',b' < (S.H m).n→S.G (ff T j) m b'=(H2.put b (.cells false e ez (ar cs1 o u.cells))).get b':=by
      intro b' hb';rw[aa];by_cases eb:b=b'
      ·subst eb;rw[if_pos rfl,hself m hj (Nat.le_refl _),hg];rfl
      ·rw[if_neg eb,hsame b' (hother b' (Ne.symm eb))];exact(hg2 b' hb').symm
     obtain⟨μ',hf⟩:=h.next (v':=v') hS hc hd hr hr1 (by rw[hcut];exact hp1) (by rw[h4];exact hv1) (hc.le (Nat.zero_le _) (Nat.le_refl _)) (Nat.le_refl _) (.inl rfl)
      (fun b'=>by rw[h9,af];omega) (fun b' hb' _=>(hg2 b' hb').symm) (fun b' hb' _=>hG b' hb') (fun b' hb' hne=>absurd (h.core.rel.lt b' hne) (by omega))
     exact⟨μ',_,w',hf,hst hop hwant⟩
    ·
     have hs':(S.io j).kd.isStore=false:=by simpa using hs
     have e1:∀b,b < (S.H j).n→(b < (S.H 0).n∨μ b≠.no)→S.G T m b=(S.H j).get b:=by
      intro b hb hdm;rw[←TO hS hc (Nat.le_of_lt hj) hb];refine N5 T (bm j) b m fun i x hi hne=>?_;obtain⟨hun,k1,k2⟩:=ja hd hr hi hne;refine hun.eff_gen hS hc hl' hs' ?_ x;rcases Nat.lt_or_gt_of_ne hun.ne with hlt | hlt
      ·exact h.pos hc hdm i hi (k1 hlt)
      ·left;exact Nat.lt_of_lt_of_le hb (hc.le (Nat.le_of_lt hlt) (Nat.le_of_lt hi))
     have hrel:=h.rel_at hc hj e1;have hxc:=VRs.cut hrj.lt _ _ _ hxs hxsj;obtain⟨v',w',μ1,hr1,hp1,hv1,hst⟩:=hS.sim j hj hw (μ.cut (S.H j).n) w t hrel hxc f rd ds k cs ops (a+j) rest
     have e2:∀b,b < (S.H (j+1)).n→(b < (S.H 0).n∨μ1 b≠.no)→S.G (ff T j) m b=(S.H (j+1)).get b:=by
      intro b hb hdm;rw[←TO hS hc hj hb];refine N5 (ff T j) (bm (j+1)) b m fun i x hi hne=>?_;have hij:i≠j:=fun e=>hne (by rw[e,dY];simp[bm]);rw[cY T hij] at hne
      have hne':T i≠bm j i:=by
       have:bm (j+1) i=bm j i:=by simp only[bm];exact decide_eq_decide.2 (by omega)
       rw[←this];exact hne
      obtain⟨hun,k1,k2⟩:=ja hd hr hi hne';refine hun.eff_gen hS hc hl' hs' ?_ x;rcases Nat.lt_or_gt_of_ne hun.ne with hlt | hlt
      ·by_cases hbj:b < (S.H j).n
       ·refine h.pos hc ?_ i hi (k1 hlt);rcases hdm with hdm | hdm
        ·exact .inl hdm
        ·right;intro e;exact hdm (hp1.old b hbj (by rw[aV μ hbj];exact e))
       ·right;have:=hc.le (i:=i+1) (j:=j) (by omega) (Nat.le_of_lt hj);omega
      ·left;exact Nat.lt_of_lt_of_le hb (hc.le (i:=j+1) (j:=i) (by omega) (Nat.le_of_lt hi))
     have e3:∀b,(S.H (j+1)).n≤b→μ b≠.no→S.G (ff T j) m b=S.G T m b:=by
      intro b hb _;exact hsame b fun x=>wl hs' (.inr hb) hjj (fun hlt=>by omega) x
     obtain⟨μ',hf⟩:=h.next (v':=v') hS hc hd hr hr1 hp1 hv1 h0j hjm (by unfold Seg.low;split;exact .inl rfl;exact .inr rfl)
      (fun b=>Iff.rfl) e1 e2 e3
     exact⟨μ',_,w',hf,hst hop hwant⟩
end
end Go.Iso
