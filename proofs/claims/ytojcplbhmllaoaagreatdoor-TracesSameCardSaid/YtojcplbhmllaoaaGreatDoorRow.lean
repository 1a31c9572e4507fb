/-
  arguments.
-/
import Derived.Test.YtojcplbhmllaoaaGreatDoorEnv
import Derived.Test.YtojcplbhmllaoaaGreatDoorFnD
import Derived.Test.YtojcplbhmllaoaaGreatDoorRows
import Derived.ProofKit
import Derived.LaidMore
import Derived.OpenShut
import Derived.Stop.Joined
set_option linter.unusedSimpArgs false
set_option linter.unusedVariables false
set_option maxRecDepth 100000
section
namespace Go.Iso
theorem abV{α:Type}[Cell α]{H:Heap}(V:Ro H){Z:Ty}{P:α->Prop}(T:∀c d,Rd H Z c d->∃a:α,c=Cell.cs a/\P a){c:List IV}{d:PD}(h:Rd H (.slice Z) c d):∃(v:SV) (l:List α),c=[v.iv]/\Sl H v l/\l.length<=maxLen/\∀a∈l,P a:=by cases h with|nil=>exact⟨.nil,[],rfl,rfl,Nat.zero_le _,λa h=>by cases h⟩|slice e b cap l E h1 h2 hb he=>have key:∀(n:Nat)(E:List (List IV))(l:List PD),Rds H (List.replicate n Z) E l->∃xs:List α,xs.length=l.length/\E.flatten=aB xs/\∀a∈xs,P a:=by{intro n;induction n with|zero=>intro E l h;cases h;exact⟨[],rfl,rfl,λa h=>by cases h⟩|succ n ih=>intro E l h;cases h with|cons h hs=>obtain⟨xs,I,J,O⟩:=ih _ _ hs;obtain⟨p,rfl,hp⟩:=T _ _ h;refine⟨p::xs,by simp[I],by rw[List.flatten_cons,J,bG],λa Q=>?_⟩;rcases List.mem_cons.1 Q with rfl|Q;{exact hp};{exact O a Q}};obtain⟨xs,I,J,O⟩:=key _ _ _ he;refine⟨.sl b 0 xs.length cap true,xs,by rw[I];rfl,⟨rfl,by omega,λhx=>?_⟩,by omega,O⟩;have F:0<l.length:=by{rw[<-I];exact List.length_pos_iff.2 hx};have U:=hb F;rw[J] at U;refine⟨(V b _ U).1,?_⟩;rw[ae U,Nat.zero_add,if_pos (by rw[az];omega),List.drop_zero,<-az,List.take_length]
end Go.Iso
namespace Go.Iso.Gen
open Go.Iso Go.Proofs
theorem Ja{H:Heap}{c:List IV}{d:PD}(h:Rd H (.int .u8) c d):∃x:Nat,c=[.int .u8 (x:Int)]/\x<=255:=by cases h with|int k x hx=>have E:IntKind.u8.min=0:=rfl;have F:IntKind.u8.max=255:=rfl;rw[E,F] at hx;exact⟨x.toNat,by rw[Int.toNat_of_nonneg hx.1],by omega⟩
theorem SM:ownKnob Tryz.prog.godebug=none:=by kernel_rfl
theorem gSteps:Tryz.prog.globalNamed "gansey/orders.steps"=some 0:=by kernel_rfl
theorem tSteps:(Tryz.prog.globals[0]?).map (·.type)=some 233:=by kernel_rfl
theorem ZJ:Tryz.prog.underlying 233=some (.array 2 3):=by kernel_rfl
theorem abJ:Tryz.prog.underlying 3=some (.int .i64):=by kernel_rfl
theorem co3:Tryz.prog.cellsOf 3=1:=by kernel_rfl
theorem agS:Tryz.prog.cellsOf 233=2:=by kernel_rfl
abbrev JQ:List (String×DataW Unit):=[("gansey/orders.steps",YtojcplbhmllaoaaGreatDoor.Rows.laid_gansey_orders_steps)]
theorem RC{W:World}(h:laidMetH Tryz.prog JQ W):XH tabs W:=by rw[MakeChecks.laidMetH_plain _ _ _ (by kernel_rfl)] at h;obtain⟨ps,⟨g0,t0,Q,f0,p0,q0,Z,ay,F,V,_,_⟩,_,_⟩:=h;obtain rfl:=Option.some.inj (gSteps.symm.trans Z);obtain rfl:=Option.some.inj (tSteps.symm.trans ay);obtain⟨xs,m,rfl,E,I,ag,J⟩:=DataW.trod_array ZJ V;rw[agS] at I;rw[co3] at J;have h0:=J 0 (by decide);have O:=J 1 (by decide);obtain⟨l⟩:=Q;simp only[Prod.mk.injEq,YtojcplbhmllaoaaGreatDoor.Rows.laid_gansey_orders_steps,DataW.agg.injEq] at E;match xs,ag,E,h0,O with|[x0,x1],_,E,h0,O=>simp only[List.map_cons,List.map_nil,List.cons.injEq,and_true] at E;match l,I with|[a,b],_=>simp only[Nat.zero_mul,List.drop_zero,List.take_succ_cons,List.take_zero,Nat.one_mul,List.drop_succ_cons,List.getElem?_cons_zero,List.getElem?_cons_succ] at h0 O;obtain⟨k0,T,e2,_⟩:=DataW.trod_int abJ h0;obtain⟨k1,U,e4,_⟩:=DataW.trod_int abJ O;rw[e2,e4] at E;injection T with T;injection U with U;have q0:k0= -1:=by{have:=E.1.1;simp at this;exact this.symm};have q1:k1=1:=by{have:=E.1.2;simp at this;exact this.symm};subst T U q0 q1;intro i hi;have ad:i=0:=by{simp[tabs] at hi;exact hi};subst ad;simp only[World.var?,gSteps,Option.bind_some] at F;split at F;{rename_i c t fr hb;cases F;exact⟨_,_,_,hb,Nat.le_refl 2,⟨_,_,rfl,rfl,_,_,rfl,rfl,rfl⟩⟩};{cases F}
theorem Us(os:Os)(args:Array Value):laidMetH Tryz.prog JQ ((World.doorLaid Tryz.prog 400 os).forCall (λ_ _=>0) ⟨#[],args,[]⟩).memory:=laidMetH_of_parts3 (fuel:=8) (laidMet_of_run' 8 (by kernel_rfl) (by kernel_rfl)) (by kernel_rfl) (by kernel_rfl)
end Go.Iso.Gen
end
