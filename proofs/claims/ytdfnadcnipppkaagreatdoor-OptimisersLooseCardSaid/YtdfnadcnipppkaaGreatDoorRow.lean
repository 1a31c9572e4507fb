/-
  arguments.
-/
import Derived.Test.YtdfnadcnipppkaaGreatDoorEnv
import Derived.Test.YtdfnadcnipppkaaGreatDoorFnH
import Derived.Test.YtdfnadcnipppkaaGreatDoorRows
import Derived.ProofKit
import Derived.LaidMore
import Derived.OpenShut
import Derived.Stop.Joined
set_option linter.unusedSimpArgs false
set_option linter.unusedVariables false
set_option maxRecDepth 100000
section
namespace Go.Iso
theorem Ui{α:Type}[Cell α]{H:Heap}(Z:Ro H){τ:Ty}{P:α->Prop}(V:∀c d,Rd H τ c d->∃a:α,c=Cell.cs a/\P a){c:List IV}{d:PD}(h:Rd H (.slice τ) c d):∃(v:SV) (l:List α),c=[v.iv]/\Sl H v l/\l.length<=maxLen/\∀a∈l,P a:=by cases h with|nil=>exact⟨.nil,[],rfl,rfl,Nat.zero_le _,λa h=>by cases h⟩|slice e b cap l E h1 h2 hb he=>have key:∀(n:Nat)(E:List (List IV))(l:List PD),Rds H (List.replicate n τ) E l->∃xs:List α,xs.length=l.length/\E.flatten=ax xs/\∀a∈xs,P a:=by{intro n;induction n with|zero=>intro E l h;cases h;exact⟨[],rfl,rfl,λa h=>by cases h⟩|succ n ih=>intro E l h;cases h with|cons h hs=>obtain⟨xs,I,O,T⟩:=ih _ _ hs;obtain⟨p,rfl,hp⟩:=V _ _ h;refine⟨p::xs,by simp[I],by rw[List.flatten_cons,O,bm],λa U=>?_⟩;rcases List.mem_cons.1 U with rfl|U;{exact hp};{exact T a U}};obtain⟨xs,I,O,T⟩:=key _ _ _ he;refine⟨.sl b 0 xs.length cap true,xs,by rw[I];rfl,⟨rfl,by omega,λhx=>?_⟩,by omega,T⟩;have F:0<l.length:=by{rw[<-I];exact List.length_pos_iff.2 hx};have Y:=hb F;rw[O] at Y;refine⟨(Z b _ Y).1,?_⟩;rw[ac Y,Nat.zero_add,if_pos (by rw[aw];omega),List.drop_zero,<-aw,List.take_length]
end Go.Iso
namespace Go.Iso.Gen
open Go.Iso Go.Proofs
theorem aez{H:Heap}{c:List IV}{d:PD}(h:Rd H (.int .u8) c d):∃x:Nat,c=[.int .u8 (x:Int)]/\x<=255:=by cases h with|int k x hx=>have E:IntKind.u8.min=0:=rfl;have F:IntKind.u8.max=255:=rfl;rw[E,F] at hx;exact⟨x.toNat,by rw[Int.toNat_of_nonneg hx.1],by omega⟩
theorem Us:ownKnob Tryz.prog.godebug=none:=by kernel_rfl
theorem gSteps:Tryz.prog.globalNamed "gansey/orders.steps"=some 0:=by kernel_rfl
theorem tSteps:(Tryz.prog.globals[0]?).map (·.type)=some 262:=by kernel_rfl
theorem aaG:Tryz.prog.underlying 262=some (.array 2 3):=by kernel_rfl
theorem aek:Tryz.prog.underlying 3=some (.int .i64):=by kernel_rfl
theorem co3:Tryz.prog.cellsOf 3=1:=by kernel_rfl
theorem ahX:Tryz.prog.cellsOf 262=2:=by kernel_rfl
abbrev Jk:List (String×DataW Unit):=[("gansey/orders.steps",YtdfnadcnipppkaaGreatDoor.Rows.laid_gansey_orders_steps)]
theorem Ti{W:World}(h:laidMetH Tryz.prog Jk W):acu tabs W:=by rw[MakeChecks.laidMetH_plain _ _ _ (by kernel_rfl)] at h;obtain⟨ps,⟨g0,t0,U,f0,p0,q0,ad,aS,F,Z,_,_⟩,_,_⟩:=h;obtain rfl:=Option.some.inj (gSteps.symm.trans ad);obtain rfl:=Option.some.inj (tSteps.symm.trans aS);obtain⟨xs,m,rfl,E,I,aE,O⟩:=DataW.trod_array aaG Z;rw[ahX] at I;rw[co3] at O;have h0:=O 0 (by decide);have T:=O 1 (by decide);obtain⟨l⟩:=U;simp only[Prod.mk.injEq,YtdfnadcnipppkaaGreatDoor.Rows.laid_gansey_orders_steps,DataW.agg.injEq] at E;match xs,aE,E,h0,T with|[x0,x1],_,E,h0,T=>simp only[List.map_cons,List.map_nil,List.cons.injEq,and_true] at E;match l,I with|[a,b],_=>simp only[Nat.zero_mul,List.drop_zero,List.take_succ_cons,List.take_zero,Nat.one_mul,List.drop_succ_cons,List.getElem?_cons_zero,List.getElem?_cons_succ] at h0 T;obtain⟨k0,V,e2,_⟩:=DataW.trod_int aek h0;obtain⟨k1,Y,e4,_⟩:=DataW.trod_int aek T;rw[e2,e4] at E;injection V with V;injection Y with Y;have q0:k0= -1:=by{have:=E.1.1;simp at this;exact this.symm};have q1:k1=1:=by{have:=E.1.2;simp at this;exact this.symm};subst V Y q0 q1;intro i hi;have ag:i=0:=by{simp[tabs] at hi;exact hi};subst ag;simp only[World.var?,gSteps,Option.bind_some] at F;split at F;{rename_i c t fr hb;cases F;exact⟨_,_,_,hb,Nat.le_refl 2,⟨_,_,rfl,rfl,_,_,rfl,rfl,rfl⟩⟩};{cases F}
theorem VV(os:Os)(args:Array Value):laidMetH Tryz.prog Jk ((World.doorLaid Tryz.prog 400 os).forCall (λ_ _=>0) ⟨#[],args,[]⟩).memory:=laidMetH_of_parts3 (fuel:=8) (laidMet_of_run' 8 (by kernel_rfl) (by kernel_rfl)) (by kernel_rfl) (by kernel_rfl)
end Go.Iso.Gen
end
