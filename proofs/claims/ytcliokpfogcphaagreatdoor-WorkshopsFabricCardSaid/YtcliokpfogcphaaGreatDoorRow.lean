/-
  arguments.
-/
import Derived.Test.YtcliokpfogcphaaGreatDoorEnv
import Derived.Test.YtcliokpfogcphaaGreatDoorFnD
import Derived.Test.YtcliokpfogcphaaGreatDoorRows
import Derived.ProofKit
import Derived.LaidMore
import Derived.OpenShut
import Derived.Stop.Joined
set_option linter.unusedSimpArgs false
set_option linter.unusedVariables false
set_option maxRecDepth 100000
section
namespace Go.Iso
theorem R4{α:Type}[Cell α]{H:Heap}(V:Ro H){Y:Ty}{P:α->Prop}(O:∀c d,Rd H Y c d->∃a:α,c=Cell.cs a/\P a){c:List IV}{d:PD}(h:Rd H (.slice Y) c d):∃(v:SV) (l:List α),c=[v.iv]/\Sl H v l/\l.length<=maxLen/\∀a∈l,P a:=by cases h with|nil=>exact⟨.nil,[],rfl,rfl,Nat.zero_le _,λa h=>by cases h⟩|slice e b cap l q h1 h2 Z he=>have key:∀(n:Nat)(q:List (List IV))(l:List PD),Rds H (List.replicate n Y) q l->∃xs:List α,xs.length=l.length/\q.flatten=aw xs/\∀a∈xs,P a:=by{intro n;induction n with|zero=>intro q l h;cases h;exact⟨[],rfl,rfl,λa h=>by cases h⟩|succ n ih=>intro q l h;cases h with|cons h hs=>obtain⟨xs,F,I,J⟩:=ih _ _ hs;obtain⟨p,rfl,hp⟩:=O _ _ h;refine⟨p::xs,by simp[F],by rw[List.flatten_cons,I,bL],λa K=>?_⟩;rcases List.mem_cons.1 K with rfl|K;{exact hp};{exact J a K}};obtain⟨xs,F,I,J⟩:=key _ _ _ he;refine⟨.sl b 0 xs.length cap true,xs,by rw[F];rfl,⟨rfl,by omega,λhx=>?_⟩,by omega,J⟩;have E:0<l.length:=by{rw[<-F];exact List.length_pos_iff.2 hx};have U:=Z E;rw[I] at U;refine⟨(V b _ U).1,?_⟩;rw[ae U,Nat.zero_add,if_pos (by rw[ax];omega),List.drop_zero,<-ax,List.take_length]
end Go.Iso
namespace Go.Iso.Gen
open Go.Iso Go.Proofs
theorem Cd{H:Heap}{c:List IV}{d:PD}(h:Rd H (.int .u8) c d):∃x:Nat,c=[.int .u8 (x:Int)]/\x<=255:=by cases h with|int k x hx=>have q:IntKind.u8.min=0:=rfl;have E:IntKind.u8.max=255:=rfl;rw[q,E] at hx;exact⟨x.toNat,by rw[Int.toNat_of_nonneg hx.1],by omega⟩
theorem WY:ownKnob Tryz.prog.godebug=none:=by kernel_rfl
theorem gSteps:Tryz.prog.globalNamed "gansey/orders.steps"=some 0:=by kernel_rfl
theorem tSteps:(Tryz.prog.globals[0]?).map (·.type)=some 31:=by kernel_rfl
theorem acM:Tryz.prog.underlying 31=some (.array 2 3):=by kernel_rfl
theorem agk:Tryz.prog.underlying 3=some (.int .i64):=by kernel_rfl
theorem co3:Tryz.prog.cellsOf 3=1:=by kernel_rfl
theorem ajW:Tryz.prog.cellsOf 31=2:=by kernel_rfl
abbrev NP:List (String×DataW Unit):=[("gansey/orders.steps",YtcliokpfogcphaaGreatDoor.Rows.laid_gansey_orders_steps)]
theorem VU{W:World}(h:laidMetH Tryz.prog NP W):aeC tabs W:=by rw[MakeChecks.laidMetH_plain _ _ _ (by kernel_rfl)] at h;obtain⟨ps,⟨g0,t0,K,f0,p0,q0,Y,aE,E,V,_,_⟩,_,_⟩:=h;obtain rfl:=Option.some.inj (gSteps.symm.trans Y);obtain rfl:=Option.some.inj (tSteps.symm.trans aE);obtain⟨xs,m,rfl,q,F,ad,I⟩:=DataW.trod_array acM V;rw[ajW] at F;rw[co3] at I;have h0:=I 0 (by decide);have J:=I 1 (by decide);obtain⟨l⟩:=K;simp only[Prod.mk.injEq,YtcliokpfogcphaaGreatDoor.Rows.laid_gansey_orders_steps,DataW.agg.injEq] at q;match xs,ad,q,h0,J with|[x0,x1],_,q,h0,J=>simp only[List.map_cons,List.map_nil,List.cons.injEq,and_true] at q;match l,F with|[a,b],_=>simp only[Nat.zero_mul,List.drop_zero,List.take_succ_cons,List.take_zero,Nat.one_mul,List.drop_succ_cons,List.getElem?_cons_zero,List.getElem?_cons_succ] at h0 J;obtain⟨k0,O,e2,_⟩:=DataW.trod_int agk h0;obtain⟨k1,U,e4,_⟩:=DataW.trod_int agk J;rw[e2,e4] at q;injection O with O;injection U with U;have q0:k0= -1:=by{have:=q.1.1;simp at this;exact this.symm};have q1:k1=1:=by{have:=q.1.2;simp at this;exact this.symm};subst O U q0 q1;intro i hi;have Z:i=0:=by{simp[tabs] at hi;exact hi};subst Z;simp only[World.var?,gSteps,Option.bind_some] at E;split at E;{rename_i c t fr hb;cases E;exact⟨_,_,_,hb,Nat.le_refl 2,⟨_,_,rfl,rfl,_,_,rfl,rfl,rfl⟩⟩};{cases E}
theorem Yq(os:Os)(args:Array Value):laidMetH Tryz.prog NP ((World.doorLaid Tryz.prog 400 os).forCall (λ_ _=>0) ⟨#[],args,[]⟩).memory:=laidMetH_of_parts3 (fuel:=8) (laidMet_of_run' 8 (by kernel_rfl) (by kernel_rfl)) (by kernel_rfl) (by kernel_rfl)
end Go.Iso.Gen
end
