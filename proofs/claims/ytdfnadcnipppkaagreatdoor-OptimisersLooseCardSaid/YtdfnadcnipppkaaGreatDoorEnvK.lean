/-
  the code is that of the program.
-/
import Derived.Test.YtdfnadcnipppkaaGreatDoorGen
import Derived.Test.YtdfnadcnipppkaaGreatDoorIsoP5
set_option linter.defProp false
set_option linter.unusedSimpArgs false
set_option linter.unusedVariables false
set_option maxRecDepth 100000
set_option maxHeartbeats 4000000
section
namespace Go.Iso.Gen
open Go.Proofs Go.Proofs.Tryz
noncomputable def Wa:Tr IFn->(Nat->Nat)->Tr IFn|.leaf,_=>.leaf|.node v l r,g=>.node (v.bind λ_=>iK prog (g 0)) (Wa l λi=>g (2*i+1)) (Wa r λi=>g (2*i+2))
def m6:∀{t:Tr IFn}{g:Nat->Nat},Wa t g=t->t.All (λf fn=>iK prog f=some fn) g|.leaf,_,_=>trivial|.node v l r,g,h=>by injection h with E F I;refine⟨λx e=>?_,m6 F,m6 I⟩;subst e;exact E
noncomputable def tL:Tr IFn->Tr IFn|.leaf=>.leaf|.node _ l _=>l
noncomputable def tR:Tr IFn->Tr IFn|.leaf=>.leaf|.node _ _ r=>r
def gL(g:Nat->Nat)(i:Nat):Nat:=g (2*i+1)
def gR(g:Nat->Nat)(i:Nat):Nat:=g (2*i+2)
def k3:iK prog 3=some F3:=by kernel_rfl
def k4:iK prog 4=some F4:=by kernel_rfl
def k5:iK prog 5=some F5:=by kernel_rfl
def k6:iK prog 6=some F6:=by kernel_rfl
def k58:iK prog 58=some F58:=by kernel_rfl
def afm:Wa (tL (tL (tL fnT))) (gL (gL (gL id)))=tL (tL (tL fnT)):=by kernel_rfl
def afl:Wa (tR (tL (tL fnT))) (gR (gL (gL id)))=tR (tL (tL fnT)):=by kernel_rfl
def afk:Wa (tL (tR (tL fnT))) (gL (gR (gL id)))=tL (tR (tL fnT)):=by kernel_rfl
def afj:Wa (tR (tR (tL fnT))) (gR (gR (gL id)))=tR (tR (tL fnT)):=by kernel_rfl
def afi:Wa (tL (tL (tR fnT))) (gL (gL (gR id)))=tL (tL (tR fnT)):=by kernel_rfl
def afh:Wa (tR (tL (tR fnT))) (gR (gL (gR id)))=tR (tL (tR fnT)):=by kernel_rfl
def afg:Wa (tL (tR (tR fnT))) (gL (gR (gR id)))=tL (tR (tR fnT)):=by kernel_rfl
def aff:Wa (tR (tR (tR fnT))) (gR (gR (gR id)))=tR (tR (tR fnT)):=by kernel_rfl
noncomputable def tV:Tr IFn->Option IFn|.leaf=>none|.node v _ _=>v
def mr{t:Tr IFn}{g:Nat->Nat}(h0:∀x,tV t=some x->iK prog (g 0)=some x)(hl:(tL t).All (λf fn=>iK prog f=some fn) (gL g))(hr:(tR t).All (λf fn=>iK prog f=some fn) (gR g)):t.All (λf fn=>iK prog f=some fn) g:=by cases t with|leaf=>trivial|node v l r=>exact⟨h0,hl,hr⟩
def noF{x:IFn}{P:Prop}(h:(none:Option IFn)=some x):P:=by cases h
def YA:fnT.All (λf fn=>iK prog f=some fn) id:=(mr (λx h=>noF h) (mr (λx h=>noF h) (mr (λx h=>k3.trans h) (m6 afm) (m6 afl)) (mr (λx h=>k5.trans h) (m6 afk) (m6 afj))) (mr (λx h=>noF h) (mr (λx h=>k4.trans h) (m6 afi) (m6 afh)) (mr (λx h=>k6.trans h) (m6 afg) (m6 aff))))
end Go.Iso.Gen
end
