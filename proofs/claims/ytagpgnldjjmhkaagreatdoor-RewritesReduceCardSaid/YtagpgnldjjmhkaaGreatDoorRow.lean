/-
  arguments.
-/
import Derived.Test.YtagpgnldjjmhkaaGreatDoorEnv
import Derived.Test.YtagpgnldjjmhkaaGreatDoorFnD
import Derived.Test.YtagpgnldjjmhkaaGreatDoorRows
import Derived.ProofKit
import Derived.LaidMore
import Derived.OpenShut
import Derived.Stop.Joined
set_option linter.unusedSimpArgs false
set_option linter.unusedVariables false
set_option maxRecDepth 100000
section
namespace Go.Iso
theorem WW{α:Type}[Cell α]{H:Heap}(U:Ro H){V:Ty}{P:α->Prop}(Q:∀c d,Rd H V c d->∃a:α,c=Cell.cs a/\P a){c:List IV}{d:PD}(h:Rd H (.slice V) c d):∃(v:SV) (l:List α),c=[v.iv]/\Sl H v l/\l.length<=maxLen/\∀a∈l,P a:=by cases h with|nil=>exact⟨.nil,[],rfl,rfl,Nat.zero_le _,λa h=>by cases h⟩|slice e b cap l q h1 h2 Z he=>have key:∀(n:Nat)(q:List (List IV))(l:List PD),Rds H (List.replicate n V) q l->∃xs:List α,xs.length=l.length/\q.flatten=aA xs/\∀a∈xs,P a:=by{intro n;induction n with|zero=>intro q l h;cases h;exact⟨[],rfl,rfl,λa h=>by cases h⟩|succ n ih=>intro q l h;cases h with|cons h hs=>obtain⟨xs,E,F,I⟩:=ih _ _ hs;obtain⟨p,rfl,hp⟩:=Q _ _ h;refine⟨p::xs,by simp[E],by rw[List.flatten_cons,F,bP],λa O=>?_⟩;rcases List.mem_cons.1 O with rfl|O;{exact hp};{exact I a O}};obtain⟨xs,E,F,I⟩:=key _ _ _ he;refine⟨.sl b 0 xs.length cap true,xs,by rw[E];rfl,⟨rfl,by omega,λhx=>?_⟩,by omega,I⟩;have A:0<l.length:=by{rw[<-E];exact List.length_pos_iff.2 hx};have T:=Z A;rw[F] at T;refine⟨(U b _ T).1,?_⟩;rw[ae T,Nat.zero_add,if_pos (by rw[ax];omega),List.drop_zero,<-ax,List.take_length]
end Go.Iso
namespace Go.Iso.Gen
open Go.Iso Go.Proofs
theorem Mw{H:Heap}{c:List IV}{d:PD}(h:Rd H (.int .u8) c d):∃x:Nat,c=[.int .u8 (x:Int)]/\x<=255:=by cases h with|int k x hx=>have q:IntKind.u8.min=0:=rfl;have A:IntKind.u8.max=255:=rfl;rw[q,A] at hx;exact⟨x.toNat,by rw[Int.toNat_of_nonneg hx.1],by omega⟩
theorem W6:ownKnob Tryz.prog.godebug=none:=by kernel_rfl
theorem gSteps:Tryz.prog.globalNamed "gansey/orders.steps"=some 0:=by kernel_rfl
theorem tSteps:(Tryz.prog.globals[0]?).map (·.type)=some 252:=by kernel_rfl
theorem acY:Tryz.prog.underlying 252=some (.array 2 3):=by kernel_rfl
theorem af6:Tryz.prog.underlying 3=some (.int .i64):=by kernel_rfl
theorem co3:Tryz.prog.cellsOf 3=1:=by kernel_rfl
theorem ajD:Tryz.prog.cellsOf 252=2:=by kernel_rfl
abbrev Nr:List (String×DataW Unit):=[("gansey/orders.steps",YtagpgnldjjmhkaaGreatDoor.Rows.laid_gansey_orders_steps)]
theorem VX{W:World}(h:laidMetH Tryz.prog Nr W):aeA tabs W:=by rw[MakeChecks.laidMetH_plain _ _ _ (by kernel_rfl)] at h;obtain⟨ps,⟨g0,t0,O,f0,p0,q0,V,ag,A,U,_,_⟩,_,_⟩:=h;obtain rfl:=Option.some.inj (gSteps.symm.trans V);obtain rfl:=Option.some.inj (tSteps.symm.trans ag);obtain⟨xs,m,rfl,q,E,ad,F⟩:=DataW.trod_array acY U;rw[ajD] at E;rw[co3] at F;have h0:=F 0 (by decide);have I:=F 1 (by decide);obtain⟨l⟩:=O;simp only[Prod.mk.injEq,YtagpgnldjjmhkaaGreatDoor.Rows.laid_gansey_orders_steps,DataW.agg.injEq] at q;match xs,ad,q,h0,I with|[x0,x1],_,q,h0,I=>simp only[List.map_cons,List.map_nil,List.cons.injEq,and_true] at q;match l,E with|[a,b],_=>simp only[Nat.zero_mul,List.drop_zero,List.take_succ_cons,List.take_zero,Nat.one_mul,List.drop_succ_cons,List.getElem?_cons_zero,List.getElem?_cons_succ] at h0 I;obtain⟨k0,Q,e2,_⟩:=DataW.trod_int af6 h0;obtain⟨k1,T,e4,_⟩:=DataW.trod_int af6 I;rw[e2,e4] at q;injection Q with Q;injection T with T;have q0:k0= -1:=by{have:=q.1.1;simp at this;exact this.symm};have q1:k1=1:=by{have:=q.1.2;simp at this;exact this.symm};subst Q T q0 q1;intro i hi;have Z:i=0:=by{simp[tabs] at hi;exact hi};subst Z;simp only[World.var?,gSteps,Option.bind_some] at A;split at A;{rename_i c t fr hb;cases A;exact⟨_,_,_,hb,Nat.le_refl 2,⟨_,_,rfl,rfl,_,_,rfl,rfl,rfl⟩⟩};{cases A}
theorem Ym(os:Os)(args:Array Value):laidMetH Tryz.prog Nr ((World.doorLaid Tryz.prog 400 os).forCall (λ_ _=>0) ⟨#[],args,[]⟩).memory:=laidMetH_of_parts3 (fuel:=8) (laidMet_of_run' 8 (by kernel_rfl) (by kernel_rfl)) (by kernel_rfl) (by kernel_rfl)
end Go.Iso.Gen
end
