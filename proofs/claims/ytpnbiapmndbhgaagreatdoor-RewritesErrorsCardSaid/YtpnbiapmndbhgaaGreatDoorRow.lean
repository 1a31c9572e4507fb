/-
  arguments.
-/
import Derived.Test.YtpnbiapmndbhgaaGreatDoorEnv
import Derived.Test.YtpnbiapmndbhgaaGreatDoorFnX
import Derived.Test.YtpnbiapmndbhgaaGreatDoorRows
import Derived.ProofKit
import Derived.LaidMore
import Derived.OpenShut
import Derived.Stop.Joined
set_option linter.unusedSimpArgs false
set_option linter.unusedVariables false
set_option maxRecDepth 100000
section
namespace Go.Iso
theorem Sc{α:Type}[Cell α]{H:Heap}(hro:Ro H){τ:Ty}{P:α→Prop}(hel:∀c d,Rd H τ c d→∃a:α,c=Cell.cs a∧P a){c:List IV}{d:PD}(h:Rd H (.slice τ) c d):∃(v:SV) (l:List α),c=[v.iv]∧Sl H v l∧l.length≤maxLen∧∀a∈l,P a:=by
 cases h with
 | nil=>exact⟨.nil,[],rfl,rfl,Nat.zero_le _,fun a h=>by cases h⟩
 | slice e b cap l css h1 h2 hb he=>
   have key:∀(n:Nat) (css:List (List IV)) (l:List PD),Rds H (List.replicate n τ) css l→∃xs:List α,xs.length=l.length∧css.flatten=aB xs∧∀a∈xs,P a:=by
    intro n
    induction n with
    | zero=>intro css l h;cases h;exact⟨[],rfl,rfl,fun a h=>by cases h⟩
    | succ n ih=>
      intro css l h
      cases h with
      | cons h hs=>
        obtain⟨xs,a1,a2,a3⟩:=ih _ _ hs;obtain⟨p,rfl,hp⟩:=hel _ _ h;refine⟨p::xs,by simp[a1],by rw[List.flatten_cons,a2,cW],fun a ha=>?_⟩;rcases List.mem_cons.1 ha with rfl | ha
        ·exact hp
        ·exact a3 a ha
   obtain⟨xs,a1,a2,a3⟩:=key _ _ _ he;refine⟨.sl b 0 xs.length cap true,xs,by rw[a1];rfl,⟨rfl,by omega,fun hx=>?_⟩,by omega,a3⟩;have hpos:0 < l.length:=by rw[←a1];exact List.length_pos_iff.2 hx
   have hg:=hb hpos;rw[a2] at hg;refine⟨(hro b _ hg).1,?_⟩;rw[ae hg,Nat.zero_add,if_pos (by rw[ao];omega),List.drop_zero,←ao,List.take_length]
end Go.Iso
namespace Go.Iso.Gen
open Go.Iso Go.Proofs
theorem Bl{H:Heap}{c:List IV}{d:PD}(h:Rd H (.int .u8) c d):∃x:Nat,c=[.int .u8 (x:Int)]∧x≤255:=by
 cases h with
 | int k x hx=>
   have e1:IntKind.u8.min=0:=rfl;have e2:IntKind.u8.max=255:=rfl;rw[e1,e2] at hx;exact⟨x.toNat,by rw[Int.toNat_of_nonneg hx.1],by omega⟩
theorem Ds{H:Heap}{c:List IV}{d:PD}(h:Rd H (.int .i64) c d):∃x:Int,c=[.int .i64 x]∧ -9223372036854775808≤x∧x≤9223372036854775807:=by
 cases h with
 | int k x hx=>
   have e1:IntKind.i64.min= -9223372036854775808:=rfl;have e2:IntKind.i64.max=9223372036854775807:=rfl;rw[e1,e2] at hx;exact⟨x,rfl,hx.1,hx.2⟩
theorem JD:ownKnob Tryz.prog.godebug=none:=by kernel_rfl
theorem gSteps:Tryz.prog.globalNamed "gansey/orders.steps"=some 0:=by kernel_rfl
theorem tSteps:(Tryz.prog.globals[0]?).map (·.type)=some 283:=by kernel_rfl
theorem P5:Tryz.prog.underlying 283=some (.array 2 3):=by kernel_rfl
theorem RX:Tryz.prog.underlying 3=some (.int .i64):=by kernel_rfl
theorem co3:Tryz.prog.cellsOf 3=1:=by kernel_rfl
theorem W9:Tryz.prog.cellsOf 283=2:=by kernel_rfl
abbrev BM:List (String×DataW Unit):=[("gansey/orders.steps",YtpnbiapmndbhgaaGreatDoor.Rows.laid_gansey_orders_steps)]
theorem Iz{W:World}(h:laidMetH Tryz.prog BM W):N0 tabs W:=by
 rw[MakeChecks.laidMetH_plain _ _ _ (by kernel_rfl)] at h;obtain⟨ps,⟨g0,t0,cs0,f0,p0,q0,hg0,ht0,hv0,hd0,_,_⟩,_,_⟩:=h;obtain rfl:=Option.some.inj (gSteps.symm.trans hg0);obtain rfl:=Option.some.inj (tSteps.symm.trans ht0);obtain⟨xs,m,rfl,hx1,hlen,hn2,hel⟩:=DataW.trod_array P5 hd0;rw[W9] at hlen;rw[co3] at hel;have h0:=hel 0 (by decide);have h1:=hel 1 (by decide);obtain⟨l⟩:=cs0;simp only[Prod.mk.injEq,YtpnbiapmndbhgaaGreatDoor.Rows.laid_gansey_orders_steps,DataW.agg.injEq] at hx1
 match xs,hn2,hx1,h0,h1 with
 | [x0,x1],_,hx1,h0,h1=>
   simp only[List.map_cons,List.map_nil,List.cons.injEq,and_true] at hx1
   match l,hlen with
   | [a,b],_=>
     simp only[Nat.zero_mul,List.drop_zero,List.take_succ_cons,List.take_zero,Nat.one_mul,List.drop_succ_cons,List.getElem?_cons_zero,List.getElem?_cons_succ] at h0 h1;obtain⟨k0,e1,e2,_⟩:=DataW.trod_int RX h0;obtain⟨k1,e3,e4,_⟩:=DataW.trod_int RX h1;rw[e2,e4] at hx1;injection e1 with e1;injection e3 with e3;have q0:k0= -1:=by have:=hx1.1.1;simp at this;exact this.symm
     have q1:k1=1:=by have:=hx1.1.2;simp at this;exact this.symm
     subst e1 e3 q0 q1;intro i hi;have hi0:i=0:=by simp[tabs] at hi;exact hi
     subst hi0;simp only[World.var?,gSteps,Option.bind_some] at hv0;split at hv0
     ·rename_i c t fr hb;cases hv0;exact⟨_,_,_,hb,Nat.le_refl 2,⟨_,_,rfl,rfl,_,_,rfl,rfl,rfl⟩⟩
     ·cases hv0
theorem KK(os:Os)(args:Array Value):laidMetH Tryz.prog BM ((World.doorLaid Tryz.prog 400 os).forCall (fun _ _=>0) ⟨#[],args,[]⟩).memory:=
 laidMetH_of_parts3 (fuel:=8) (laidMet_of_run' 8 (by kernel_rfl) (by kernel_rfl)) (by kernel_rfl) (by kernel_rfl)
end Go.Iso.Gen
end
