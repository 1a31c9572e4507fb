/-
  the code is that of the program.
-/
import Derived.Test.YtiofebdpgbojmaaGreatDoorGen
import Derived.Test.YtiofebdpgbojmaaGreatDoorIsoP5
set_option linter.defProp false
set_option linter.unusedSimpArgs false
set_option linter.unusedVariables false
set_option maxRecDepth 100000
set_option maxHeartbeats 4000000
section
namespace Go.Iso.Gen
open Go.Proofs Go.Proofs.Tryz
noncomputable def Rs:Tr IFn->(Nat->Nat)->Tr IFn|.leaf,_=>.leaf|.node v l r,g=>.node (v.bind λ_=>iX prog (g 0)) (Rs l λi=>g (2*i+1)) (Rs r λi=>g (2*i+2))
def lN:∀{t:Tr IFn}{g:Nat->Nat},Rs t g=t->t.All (λf fn=>iX prog f=some fn) g|.leaf,_,_=>trivial|.node v l r,g,h=>by injection h with q u A;refine⟨λx e=>?_,lN u,lN A⟩;subst e;exact q
noncomputable def tL:Tr IFn->Tr IFn|.leaf=>.leaf|.node _ l _=>l
noncomputable def tR:Tr IFn->Tr IFn|.leaf=>.leaf|.node _ _ r=>r
def gL(g:Nat->Nat)(i:Nat):Nat:=g (2*i+1)
def gR(g:Nat->Nat)(i:Nat):Nat:=g (2*i+2)
def k6:iX prog 6=some F6:=by kernel_rfl
def k44:iX prog 44=some F44:=by kernel_rfl
def aa7:Rs (tL (tL (tL fnT))) (gL (gL (gL id)))=tL (tL (tL fnT)):=by kernel_rfl
def aa6:Rs (tR (tL (tL fnT))) (gR (gL (gL id)))=tR (tL (tL fnT)):=by kernel_rfl
def aa5:Rs (tL (tR (tL fnT))) (gL (gR (gL id)))=tL (tR (tL fnT)):=by kernel_rfl
def aa4:Rs (tR (tR (tL fnT))) (gR (gR (gL id)))=tR (tR (tL fnT)):=by kernel_rfl
def aa3:Rs (tL (tL (tR fnT))) (gL (gL (gR id)))=tL (tL (tR fnT)):=by kernel_rfl
def aa2:Rs (tR (tL (tR fnT))) (gR (gL (gR id)))=tR (tL (tR fnT)):=by kernel_rfl
def aa1:Rs (tL (tR (tR fnT))) (gL (gR (gR id)))=tL (tR (tR fnT)):=by kernel_rfl
def aa0:Rs (tR (tR (tR fnT))) (gR (gR (gR id)))=tR (tR (tR fnT)):=by kernel_rfl
noncomputable def tV:Tr IFn->Option IFn|.leaf=>none|.node v _ _=>v
def kF{t:Tr IFn}{g:Nat->Nat}(h0:∀x,tV t=some x->iX prog (g 0)=some x)(q:(tL t).All (λf fn=>iX prog f=some fn) (gL g))(u:(tR t).All (λf fn=>iX prog f=some fn) (gR g)):t.All (λf fn=>iX prog f=some fn) g:=by cases t with|leaf=>trivial|node v l r=>exact⟨h0,q,u⟩
def ZO{x:IFn}{P:Prop}(h:(none:Option IFn)=some x):P:=by cases h
def K4:fnT.All (λf fn=>iX prog f=some fn) id:=(kF (λx h=>ZO h) (kF (λx h=>ZO h) (kF (λx h=>ZO h) (lN aa7) (lN aa6)) (kF (λx h=>ZO h) (lN aa5) (lN aa4))) (kF (λx h=>ZO h) (kF (λx h=>ZO h) (lN aa3) (lN aa2)) (kF (λx h=>k6.trans h) (lN aa1) (lN aa0))))
end Go.Iso.Gen
end
