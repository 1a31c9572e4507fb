/-
  arguments.
-/
import Derived.Test.YtiofebdpgbojmaaGreatDoorEnv
import Derived.Test.YtiofebdpgbojmaaGreatDoorFnC
import Derived.Test.YtiofebdpgbojmaaGreatDoorRows
import Derived.ProofKit
import Derived.LaidMore
import Derived.OpenShut
import Derived.Stop.Joined
set_option linter.unusedSimpArgs false
set_option linter.unusedVariables false
set_option maxRecDepth 100000
section
namespace Go.Iso
theorem Vc{α:Type}[Cell α]{H:Heap}(Q:Ro H){T:Ty}{P:α->Prop}(K:∀c d,Rd H T c d->∃a:α,c=Cell.cs a/\P a){c:List IV}{d:PD}(h:Rd H (.slice T) c d):∃(v:SV) (l:List α),c=[v.iv]/\Sl H v l/\l.length<=maxLen/\∀a∈l,P a:=by cases h with|nil=>exact⟨.nil,[],rfl,rfl,Nat.zero_le _,λa h=>by cases h⟩|slice e b cap l q h1 h2 U V=>have key:∀(n:Nat)(q:List (List IV))(l:List PD),Rds H (List.replicate n T) q l->∃xs:List α,xs.length=l.length/\q.flatten=aA xs/\∀a∈xs,P a:=by{intro n;induction n with|zero=>intro q l h;cases h;exact⟨[],rfl,rfl,λa h=>by cases h⟩|succ n Z=>intro q l h;cases h with|cons h hs=>obtain⟨xs,A,E,F⟩:=Z _ _ hs;obtain⟨p,rfl,Y⟩:=K _ _ h;refine⟨p::xs,by simp[A],by rw[List.flatten_cons,E,bA],λa I=>?_⟩;rcases List.mem_cons.1 I with rfl|I;{exact Y};{exact F a I}};obtain⟨xs,A,E,F⟩:=key _ _ _ V;refine⟨.sl b 0 xs.length cap true,xs,by rw[A];rfl,⟨rfl,by omega,λhx=>?_⟩,by omega,F⟩;have u:0<l.length:=by{rw[<-A];exact List.length_pos_iff.2 hx};have O:=U u;rw[E] at O;refine⟨(Q b _ O).1,?_⟩;rw[ae O,Nat.zero_add,if_pos (by rw[az];omega),List.drop_zero,<-az,List.take_length]
end Go.Iso
namespace Go.Iso.Gen
open Go.Iso Go.Proofs
theorem KM{H:Heap}{c:List IV}{d:PD}(h:Rd H (.int .u8) c d):∃x:Nat,c=[.int .u8 (x:Int)]/\x<=255:=by cases h with|int k x hx=>have q:IntKind.u8.min=0:=rfl;have u:IntKind.u8.max=255:=rfl;rw[q,u] at hx;exact⟨x.toNat,by rw[Int.toNat_of_nonneg hx.1],by omega⟩
theorem P0:ownKnob Tryz.prog.godebug=none:=by kernel_rfl
theorem gSteps:Tryz.prog.globalNamed "gansey/orders.steps"=some 0:=by kernel_rfl
theorem tSteps:(Tryz.prog.globals[0]?).map (·.type)=some 301:=by kernel_rfl
theorem V9:Tryz.prog.underlying 301=some (.array 2 3):=by kernel_rfl
theorem ZZ:Tryz.prog.underlying 3=some (.int .i64):=by kernel_rfl
theorem co3:Tryz.prog.cellsOf 3=1:=by kernel_rfl
theorem ads:Tryz.prog.cellsOf 301=2:=by kernel_rfl
abbrev Gx:List (String×DataW Unit):=[("gansey/orders.steps",YtiofebdpgbojmaaGreatDoor.Rows.laid_gansey_orders_steps)]
theorem OW{W:World}(h:laidMetH Tryz.prog Gx W):UM tabs W:=by rw[MakeChecks.laidMetH_plain _ _ _ (by kernel_rfl)] at h;obtain⟨ps,⟨g0,t0,I,f0,p0,q0,T,Y,u,Q,_,_⟩,_,_⟩:=h;obtain rfl:=Option.some.inj (gSteps.symm.trans T);obtain rfl:=Option.some.inj (tSteps.symm.trans Y);obtain⟨xs,m,rfl,q,A,V,E⟩:=DataW.trod_array V9 Q;rw[ads] at A;rw[co3] at E;have h0:=E 0 (by decide);have F:=E 1 (by decide);obtain⟨l⟩:=I;simp only[Prod.mk.injEq,YtiofebdpgbojmaaGreatDoor.Rows.laid_gansey_orders_steps,DataW.agg.injEq] at q;match xs,V,q,h0,F with|[x0,x1],_,q,h0,F=>simp only[List.map_cons,List.map_nil,List.cons.injEq,and_true] at q;match l,A with|[a,b],_=>simp only[Nat.zero_mul,List.drop_zero,List.take_succ_cons,List.take_zero,Nat.one_mul,List.drop_succ_cons,List.getElem?_cons_zero,List.getElem?_cons_succ] at h0 F;obtain⟨k0,K,Z,_⟩:=DataW.trod_int ZZ h0;obtain⟨k1,O,e4,_⟩:=DataW.trod_int ZZ F;rw[Z,e4] at q;injection K with K;injection O with O;have q0:k0= -1:=by{have:=q.1.1;simp at this;exact this.symm};have q1:k1=1:=by{have:=q.1.2;simp at this;exact this.symm};subst K O q0 q1;intro i hi;have U:i=0:=by{simp[tabs] at hi;exact hi};subst U;simp only[World.var?,gSteps,Option.bind_some] at u;split at u;{rename_i c t fr hb;cases u;exact⟨_,_,_,hb,Nat.le_refl 2,⟨_,_,rfl,rfl,_,_,rfl,rfl,rfl⟩⟩};{cases u}
theorem Ra(os:Os)(args:Array Value):laidMetH Tryz.prog Gx ((World.doorLaid Tryz.prog 400 os).forCall (λ_ _=>0) ⟨#[],args,[]⟩).memory:=laidMetH_of_parts3 (fuel:=8) (laidMet_of_run' 8 (by kernel_rfl) (by kernel_rfl)) (by kernel_rfl) (by kernel_rfl)
end Go.Iso.Gen
end
