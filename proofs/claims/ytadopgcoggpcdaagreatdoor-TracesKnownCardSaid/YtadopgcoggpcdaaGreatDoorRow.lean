/-
  arguments.
-/
import Derived.Test.YtadopgcoggpcdaaGreatDoorEnv
import Derived.Test.YtadopgcoggpcdaaGreatDoorFnD
import Derived.Test.YtadopgcoggpcdaaGreatDoorRows
import Derived.ProofKit
import Derived.LaidMore
import Derived.OpenShut
import Derived.Stop.Joined
set_option linter.unusedSimpArgs false
set_option linter.unusedVariables false
set_option maxRecDepth 100000
section
namespace Go.Iso
end Go.Iso
namespace Go.Iso.Gen
open Go.Iso Go.Proofs
theorem V6:ownKnob Tryz.prog.godebug=none:=by kernel_rfl
theorem gSteps:Tryz.prog.globalNamed "gansey/orders.steps"=some 0:=by kernel_rfl
theorem tSteps:(Tryz.prog.globals[0]?).map (·.type)=some 236:=by kernel_rfl
theorem abG:Tryz.prog.underlying 236=some (.array 2 3):=by kernel_rfl
theorem aeu:Tryz.prog.underlying 3=some (.int .i64):=by kernel_rfl
theorem co3:Tryz.prog.cellsOf 3=1:=by kernel_rfl
theorem ahw:Tryz.prog.cellsOf 236=2:=by kernel_rfl
abbrev K1:List (String×DataW Unit):=[("gansey/orders.steps",YtadopgcoggpcdaaGreatDoor.Rows.laid_gansey_orders_steps)]
theorem U3{W:World}(h:laidMetH Tryz.prog K1 W):aaD tabs W:=by rw[MakeChecks.laidMetH_plain _ _ _ (by kernel_rfl)] at h;obtain⟨ps,⟨g0,t0,Q,f0,p0,q0,Z,ay,F,V,_,_⟩,_,_⟩:=h;obtain rfl:=Option.some.inj (gSteps.symm.trans Z);obtain rfl:=Option.some.inj (tSteps.symm.trans ay);obtain⟨xs,m,rfl,E,I,ag,J⟩:=DataW.trod_array abG V;rw[ahw] at I;rw[co3] at J;have h0:=J 0 (by decide);have O:=J 1 (by decide);obtain⟨l⟩:=Q;simp only[Prod.mk.injEq,YtadopgcoggpcdaaGreatDoor.Rows.laid_gansey_orders_steps,DataW.agg.injEq] at E;match xs,ag,E,h0,O with|[x0,x1],_,E,h0,O=>simp only[List.map_cons,List.map_nil,List.cons.injEq,and_true] at E;match l,I with|[a,b],_=>simp only[Nat.zero_mul,List.drop_zero,List.take_succ_cons,List.take_zero,Nat.one_mul,List.drop_succ_cons,List.getElem?_cons_zero,List.getElem?_cons_succ] at h0 O;obtain⟨k0,T,e2,_⟩:=DataW.trod_int aeu h0;obtain⟨k1,U,e4,_⟩:=DataW.trod_int aeu O;rw[e2,e4] at E;injection T with T;injection U with U;have q0:k0= -1:=by{have:=E.1.1;simp at this;exact this.symm};have q1:k1=1:=by{have:=E.1.2;simp at this;exact this.symm};subst T U q0 q1;intro i hi;have ad:i=0:=by{simp[tabs] at hi;exact hi};subst ad;simp only[World.var?,gSteps,Option.bind_some] at F;split at F;{rename_i c t fr hb;cases F;exact⟨_,_,_,hb,Nat.le_refl 2,⟨_,_,rfl,rfl,_,_,rfl,rfl,rfl⟩⟩};{cases F}
theorem Xx(os:Os)(args:Array Value):laidMetH Tryz.prog K1 ((World.doorLaid Tryz.prog 400 os).forCall (λ_ _=>0) ⟨#[],args,[]⟩).memory:=laidMetH_of_parts3 (fuel:=8) (laidMet_of_run' 8 (by kernel_rfl) (by kernel_rfl)) (by kernel_rfl) (by kernel_rfl)
end Go.Iso.Gen
end
