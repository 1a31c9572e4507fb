/-
  arguments.
-/
import Derived.Test.YtadopgcoggpcdabGreatDoorEnv
import Derived.Test.YtadopgcoggpcdabGreatDoorFnD
import Derived.Test.YtadopgcoggpcdabGreatDoorRows
import Derived.ProofKit
import Derived.LaidMore
import Derived.OpenShut
import Derived.Stop.Joined
set_option linter.unusedSimpArgs false
set_option linter.unusedVariables false
set_option maxRecDepth 100000
section
namespace Go.Iso
end Go.Iso
namespace Go.Iso.Gen
open Go.Iso Go.Proofs
theorem VU:ownKnob Tryz.prog.godebug=none:=by kernel_rfl
theorem gSteps:Tryz.prog.globalNamed "gansey/orders.steps"=some 0:=by kernel_rfl
theorem tSteps:(Tryz.prog.globals[0]?).map (·.type)=some 251:=by kernel_rfl
theorem abf:Tryz.prog.underlying 251=some (.array 2 3):=by kernel_rfl
theorem ad9:Tryz.prog.underlying 3=some (.int .i64):=by kernel_rfl
theorem co3:Tryz.prog.cellsOf 3=1:=by kernel_rfl
theorem ag8:Tryz.prog.cellsOf 251=2:=by kernel_rfl
abbrev MG:List (String×DataW Unit):=[("gansey/orders.steps",YtadopgcoggpcdabGreatDoor.Rows.laid_gansey_orders_steps)]
theorem UQ{W:World}(h:laidMetH Tryz.prog MG W):aab tabs W:=by rw[MakeChecks.laidMetH_plain _ _ _ (by kernel_rfl)] at h;obtain⟨ps,⟨g0,t0,J,f0,p0,q0,U,Z,A,T,_,_⟩,_,_⟩:=h;obtain rfl:=Option.some.inj (gSteps.symm.trans U);obtain rfl:=Option.some.inj (tSteps.symm.trans Z);obtain⟨xs,m,rfl,q,E,Y,F⟩:=DataW.trod_array abf T;rw[ag8] at E;rw[co3] at F;have h0:=F 0 (by decide);have I:=F 1 (by decide);obtain⟨l⟩:=J;simp only[Prod.mk.injEq,YtadopgcoggpcdabGreatDoor.Rows.laid_gansey_orders_steps,DataW.agg.injEq] at q;match xs,Y,q,h0,I with|[x0,x1],_,q,h0,I=>simp only[List.map_cons,List.map_nil,List.cons.injEq,and_true] at q;match l,E with|[a,b],_=>simp only[Nat.zero_mul,List.drop_zero,List.take_succ_cons,List.take_zero,Nat.one_mul,List.drop_succ_cons,List.getElem?_cons_zero,List.getElem?_cons_succ] at h0 I;obtain⟨k0,K,e2,_⟩:=DataW.trod_int ad9 h0;obtain⟨k1,O,e4,_⟩:=DataW.trod_int ad9 I;rw[e2,e4] at q;injection K with K;injection O with O;have q0:k0= -1:=by{have:=q.1.1;simp at this;exact this.symm};have q1:k1=1:=by{have:=q.1.2;simp at this;exact this.symm};subst K O q0 q1;intro i hi;have V:i=0:=by{simp[tabs] at hi;exact hi};subst V;simp only[World.var?,gSteps,Option.bind_some] at A;split at A;{rename_i c t fr hb;cases A;exact⟨_,_,_,hb,Nat.le_refl 2,⟨_,_,rfl,rfl,_,_,rfl,rfl,rfl⟩⟩};{cases A}
theorem Xj(os:Os)(args:Array Value):laidMetH Tryz.prog MG ((World.doorLaid Tryz.prog 400 os).forCall (λ_ _=>0) ⟨#[],args,[]⟩).memory:=laidMetH_of_parts3 (fuel:=8) (laidMet_of_run' 8 (by kernel_rfl) (by kernel_rfl)) (by kernel_rfl) (by kernel_rfl)
end Go.Iso.Gen
end
