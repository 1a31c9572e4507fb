/-
  the code is that of the program.
-/
import Derived.Test.YtbgdblhggjonaaaGreatDoorGen
import Derived.Test.YtbgdblhggjonaaaGreatDoorIsoP5
set_option linter.defProp false
set_option linter.unusedSimpArgs false
set_option linter.unusedVariables false
set_option maxRecDepth 100000
set_option maxHeartbeats 4000000
section
namespace Go.Iso.Gen
open Go.Proofs Go.Proofs.Tryz
noncomputable def To:Tr IFn->(Nat->Nat)->Tr IFn|.leaf,_=>.leaf|.node v l r,g=>.node (v.bind λ_=>fU prog (g 0)) (To l λi=>g (2*i+1)) (To r λi=>g (2*i+2))
def lC:∀{t:Tr IFn}{g:Nat->Nat},To t g=t->t.All (λf fn=>fU prog f=some fn) g|.leaf,_,_=>trivial|.node v l r,g,h=>by injection h with q A E;refine⟨λx e=>?_,lC A,lC E⟩;subst e;exact q
noncomputable def tL:Tr IFn->Tr IFn|.leaf=>.leaf|.node _ l _=>l
noncomputable def tR:Tr IFn->Tr IFn|.leaf=>.leaf|.node _ _ r=>r
def gL(g:Nat->Nat)(i:Nat):Nat:=g (2*i+1)
def gR(g:Nat->Nat)(i:Nat):Nat:=g (2*i+2)
def k3:fU prog 3=some F3:=by kernel_rfl
def k4:fU prog 4=some F4:=by kernel_rfl
def k5:fU prog 5=some F5:=by kernel_rfl
def k6:fU prog 6=some F6:=by kernel_rfl
def k17:fU prog 17=some F17:=by kernel_rfl
def ab8:To (tL (tL (tL fnT))) (gL (gL (gL id)))=tL (tL (tL fnT)):=by kernel_rfl
def ab7:To (tR (tL (tL fnT))) (gR (gL (gL id)))=tR (tL (tL fnT)):=by kernel_rfl
def ab6:To (tL (tR (tL fnT))) (gL (gR (gL id)))=tL (tR (tL fnT)):=by kernel_rfl
def ab5:To (tR (tR (tL fnT))) (gR (gR (gL id)))=tR (tR (tL fnT)):=by kernel_rfl
def ab4:To (tL (tL (tR fnT))) (gL (gL (gR id)))=tL (tL (tR fnT)):=by kernel_rfl
def ab3:To (tR (tL (tR fnT))) (gR (gL (gR id)))=tR (tL (tR fnT)):=by kernel_rfl
def ab2:To (tL (tR (tR fnT))) (gL (gR (gR id)))=tL (tR (tR fnT)):=by kernel_rfl
def ab1:To (tR (tR (tR fnT))) (gR (gR (gR id)))=tR (tR (tR fnT)):=by kernel_rfl
noncomputable def tV:Tr IFn->Option IFn|.leaf=>none|.node v _ _=>v
def kj{t:Tr IFn}{g:Nat->Nat}(h0:∀x,tV t=some x->fU prog (g 0)=some x)(hl:(tL t).All (λf fn=>fU prog f=some fn) (gL g))(hr:(tR t).All (λf fn=>fU prog f=some fn) (gR g)):t.All (λf fn=>fU prog f=some fn) g:=by cases t with|leaf=>trivial|node v l r=>exact⟨h0,hl,hr⟩
def noF{x:IFn}{P:Prop}(h:(none:Option IFn)=some x):P:=by cases h
def VN:fnT.All (λf fn=>fU prog f=some fn) id:=(kj (λx h=>noF h) (kj (λx h=>noF h) (kj (λx h=>k3.trans h) (lC ab8) (lC ab7)) (kj (λx h=>k5.trans h) (lC ab6) (lC ab5))) (kj (λx h=>noF h) (kj (λx h=>k4.trans h) (lC ab4) (lC ab3)) (kj (λx h=>k6.trans h) (lC ab2) (lC ab1))))
end Go.Iso.Gen
end
