/-
  arguments.
-/
import Derived.Test.YtkeadbgfiiphlaaGreatDoorEnv
import Derived.Test.YtkeadbgfiiphlaaGreatDoorFnD
import Derived.Test.YtkeadbgfiiphlaaGreatDoorRows
import Derived.ProofKit
import Derived.LaidMore
import Derived.OpenShut
import Derived.Stop.Joined
set_option linter.unusedSimpArgs false
set_option linter.unusedVariables false
set_option maxRecDepth 100000
section
namespace Go.Iso
end Go.Iso
namespace Go.Iso.Gen
open Go.Iso Go.Proofs
theorem TW:ownKnob Tryz.prog.godebug=none:=by kernel_rfl
theorem gSteps:Tryz.prog.globalNamed "gansey/orders.steps"=some 0:=by kernel_rfl
theorem tSteps:(Tryz.prog.globals[0]?).map (·.type)=some 258:=by kernel_rfl
theorem aaR:Tryz.prog.underlying 258=some (.array 2 3):=by kernel_rfl
theorem aee:Tryz.prog.underlying 3=some (.int .i64):=by kernel_rfl
theorem co3:Tryz.prog.cellsOf 3=1:=by kernel_rfl
theorem ahL:Tryz.prog.cellsOf 258=2:=by kernel_rfl
abbrev Ix:List (String×DataW Unit):=[("gansey/orders.steps",YtkeadbgfiiphlaaGreatDoor.Rows.laid_gansey_orders_steps)]
theorem SE{W:World}(h:laidMetH Tryz.prog Ix W):acx tabs W:=by rw[MakeChecks.laidMetH_plain _ _ _ (by kernel_rfl)] at h;obtain⟨ps,⟨g0,t0,Q,f0,p0,q0,Z,an,E,V,_,_⟩,_,_⟩:=h;obtain rfl:=Option.some.inj (gSteps.symm.trans Z);obtain rfl:=Option.some.inj (tSteps.symm.trans an);obtain⟨xs,m,rfl,q,F,ag,I⟩:=DataW.trod_array aaR V;rw[ahL] at F;rw[co3] at I;have h0:=I 0 (by decide);have O:=I 1 (by decide);obtain⟨l⟩:=Q;simp only[Prod.mk.injEq,YtkeadbgfiiphlaaGreatDoor.Rows.laid_gansey_orders_steps,DataW.agg.injEq] at q;match xs,ag,q,h0,O with|[x0,x1],_,q,h0,O=>simp only[List.map_cons,List.map_nil,List.cons.injEq,and_true] at q;match l,F with|[a,b],_=>simp only[Nat.zero_mul,List.drop_zero,List.take_succ_cons,List.take_zero,Nat.one_mul,List.drop_succ_cons,List.getElem?_cons_zero,List.getElem?_cons_succ] at h0 O;obtain⟨k0,T,e2,_⟩:=DataW.trod_int aee h0;obtain⟨k1,U,e4,_⟩:=DataW.trod_int aee O;rw[e2,e4] at q;injection T with T;injection U with U;have q0:k0= -1:=by{have:=q.1.1;simp at this;exact this.symm};have q1:k1=1:=by{have:=q.1.2;simp at this;exact this.symm};subst T U q0 q1;intro i hi;have ad:i=0:=by{simp[tabs] at hi;exact hi};subst ad;simp only[World.var?,gSteps,Option.bind_some] at E;split at E;{rename_i c t fr hb;cases E;exact⟨_,_,_,hb,Nat.le_refl 2,⟨_,_,rfl,rfl,_,_,rfl,rfl,rfl⟩⟩};{cases E}
theorem Vm(os:Os)(args:Array Value):laidMetH Tryz.prog Ix ((World.doorLaid Tryz.prog 400 os).forCall (λ_ _=>0) ⟨#[],args,[]⟩).memory:=laidMetH_of_parts3 (fuel:=8) (laidMet_of_run' 8 (by kernel_rfl) (by kernel_rfl)) (by kernel_rfl) (by kernel_rfl)
end Go.Iso.Gen
end
