/-
  arguments.
-/
import Derived.Test.YtblalpngahiehaaGreatDoorEnv
import Derived.Test.YtblalpngahiehaaGreatDoorFnD
import Derived.Test.YtblalpngahiehaaGreatDoorRows
import Derived.ProofKit
import Derived.LaidMore
import Derived.OpenShut
import Derived.Stop.Joined
set_option linter.unusedSimpArgs false
set_option linter.unusedVariables false
set_option maxRecDepth 100000
section
namespace Go.Iso
theorem ZW{α:Type}[Cell α]{H:Heap}(T:Ro H){U:Ty}{P:α->Prop}(K:∀c d,Rd H U c d->∃a:α,c=Cell.cs a/\P a){c:List IV}{d:PD}(h:Rd H (.slice U) c d):∃(v:SV) (l:List α),c=[v.iv]/\Sl H v l/\l.length<=maxLen/\∀a∈l,P a:=by cases h with|nil=>exact⟨.nil,[],rfl,rfl,Nat.zero_le _,λa h=>by cases h⟩|slice e b cap l q h1 h2 V Y=>have key:∀(n:Nat)(q:List (List IV))(l:List PD),Rds H (List.replicate n U) q l->∃xs:List α,xs.length=l.length/\q.flatten=au xs/\∀a∈xs,P a:=by{intro n;induction n with|zero=>intro q l h;cases h;exact⟨[],rfl,rfl,λa h=>by cases h⟩|succ n ih=>intro q l h;cases h with|cons h hs=>obtain⟨xs,E,F,I⟩:=ih _ _ hs;obtain⟨p,rfl,Z⟩:=K _ _ h;refine⟨p::xs,by simp[E],by rw[List.flatten_cons,F,br],λa J=>?_⟩;rcases List.mem_cons.1 J with rfl|J;{exact Z};{exact I a J}};obtain⟨xs,E,F,I⟩:=key _ _ _ Y;refine⟨.sl b 0 xs.length cap true,xs,by rw[E];rfl,⟨rfl,by omega,λhx=>?_⟩,by omega,I⟩;have A:0<l.length:=by{rw[<-E];exact List.length_pos_iff.2 hx};have O:=V A;rw[F] at O;refine⟨(T b _ O).1,?_⟩;rw[af O,Nat.zero_add,if_pos (by rw[av];omega),List.drop_zero,<-av,List.take_length]
end Go.Iso
namespace Go.Iso.Gen
open Go.Iso Go.Proofs
theorem Do{H:Heap}{c:List IV}{d:PD}(h:Rd H (.int .u8) c d):∃x:Nat,c=[.int .u8 (x:Int)]/\x<=255:=by cases h with|int k x hx=>have q:IntKind.u8.min=0:=rfl;have A:IntKind.u8.max=255:=rfl;rw[q,A] at hx;exact⟨x.toNat,by rw[Int.toNat_of_nonneg hx.1],by omega⟩
theorem Q1:ownKnob Tryz.prog.godebug=none:=by kernel_rfl
theorem gSteps:Tryz.prog.globalNamed "gansey/orders.steps"=some 0:=by kernel_rfl
theorem tSteps:(Tryz.prog.globals[0]?).map (·.type)=some 247:=by kernel_rfl
theorem XF:Tryz.prog.underlying 247=some (.array 2 3):=by kernel_rfl
theorem ZH:Tryz.prog.underlying 3=some (.int .i64):=by kernel_rfl
theorem co3:Tryz.prog.cellsOf 3=1:=by kernel_rfl
theorem aeG:Tryz.prog.cellsOf 247=2:=by kernel_rfl
abbrev Ip:List (String×DataW Unit):=[("gansey/orders.steps",YtblalpngahiehaaGreatDoor.Rows.laid_gansey_orders_steps)]
theorem PU{W:World}(h:laidMetH Tryz.prog Ip W):VF tabs W:=by rw[MakeChecks.laidMetH_plain _ _ _ (by kernel_rfl)] at h;obtain⟨ps,⟨g0,t0,J,f0,p0,q0,U,Z,A,T,_,_⟩,_,_⟩:=h;obtain rfl:=Option.some.inj (gSteps.symm.trans U);obtain rfl:=Option.some.inj (tSteps.symm.trans Z);obtain⟨xs,m,rfl,q,E,Y,F⟩:=DataW.trod_array XF T;rw[aeG] at E;rw[co3] at F;have h0:=F 0 (by decide);have I:=F 1 (by decide);obtain⟨l⟩:=J;simp only[Prod.mk.injEq,YtblalpngahiehaaGreatDoor.Rows.laid_gansey_orders_steps,DataW.agg.injEq] at q;match xs,Y,q,h0,I with|[x0,x1],_,q,h0,I=>simp only[List.map_cons,List.map_nil,List.cons.injEq,and_true] at q;match l,E with|[a,b],_=>simp only[Nat.zero_mul,List.drop_zero,List.take_succ_cons,List.take_zero,Nat.one_mul,List.drop_succ_cons,List.getElem?_cons_zero,List.getElem?_cons_succ] at h0 I;obtain⟨k0,K,e2,_⟩:=DataW.trod_int ZH h0;obtain⟨k1,O,e4,_⟩:=DataW.trod_int ZH I;rw[e2,e4] at q;injection K with K;injection O with O;have q0:k0= -1:=by{have:=q.1.1;simp at this;exact this.symm};have q1:k1=1:=by{have:=q.1.2;simp at this;exact this.symm};subst K O q0 q1;intro i hi;have V:i=0:=by{simp[tabs] at hi;exact hi};subst V;simp only[World.var?,gSteps,Option.bind_some] at A;split at A;{rename_i c t fr hb;cases A;exact⟨_,_,_,hb,Nat.le_refl 2,⟨_,_,rfl,rfl,_,_,rfl,rfl,rfl⟩⟩};{cases A}
theorem Sv(os:Os)(args:Array Value):laidMetH Tryz.prog Ip ((World.doorLaid Tryz.prog 400 os).forCall (λ_ _=>0) ⟨#[],args,[]⟩).memory:=laidMetH_of_parts3 (fuel:=8) (laidMet_of_run' 8 (by kernel_rfl) (by kernel_rfl)) (by kernel_rfl) (by kernel_rfl)
end Go.Iso.Gen
end
