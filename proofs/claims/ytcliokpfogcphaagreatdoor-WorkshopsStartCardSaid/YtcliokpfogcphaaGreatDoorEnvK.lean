/-
  the code is that of the program.
-/
import Derived.Test.YtcliokpfogcphaaGreatDoorGen
import Derived.Test.YtcliokpfogcphaaGreatDoorIsoP5
set_option linter.defProp false
set_option linter.unusedSimpArgs false
set_option linter.unusedVariables false
set_option maxRecDepth 100000
set_option maxHeartbeats 4000000
section
namespace Go.Iso.Gen
open Go.Proofs Go.Proofs.Tryz
noncomputable def X4:Tr IFn->(Nat->Nat)->Tr IFn|.leaf,_=>.leaf|.node v l r,g=>.node (v.bind λ_=>lN prog (g 0)) (X4 l λi=>g (2*i+1)) (X4 r λi=>g (2*i+2))
def qC:∀{t:Tr IFn}{g:Nat->Nat},X4 t g=t->t.All (λf fn=>lN prog f=some fn) g|.leaf,_,_=>trivial|.node v l r,g,h=>by injection h with q E F;refine⟨λx e=>?_,qC E,qC F⟩;subst e;exact q
noncomputable def tL:Tr IFn->Tr IFn|.leaf=>.leaf|.node _ l _=>l
noncomputable def tR:Tr IFn->Tr IFn|.leaf=>.leaf|.node _ _ r=>r
def gL(g:Nat->Nat)(i:Nat):Nat:=g (2*i+1)
def gR(g:Nat->Nat)(i:Nat):Nat:=g (2*i+2)
def k3:lN prog 3=some F3:=by kernel_rfl
def k6:lN prog 6=some F6:=by kernel_rfl
def k29:lN prog 29=some F29:=by kernel_rfl
def agS:X4 (tL (tL (tL fnT))) (gL (gL (gL id)))=tL (tL (tL fnT)):=by kernel_rfl
def agR:X4 (tR (tL (tL fnT))) (gR (gL (gL id)))=tR (tL (tL fnT)):=by kernel_rfl
def agQ:X4 (tL (tR (tL fnT))) (gL (gR (gL id)))=tL (tR (tL fnT)):=by kernel_rfl
def agP:X4 (tR (tR (tL fnT))) (gR (gR (gL id)))=tR (tR (tL fnT)):=by kernel_rfl
def agO:X4 (tL (tL (tR fnT))) (gL (gL (gR id)))=tL (tL (tR fnT)):=by kernel_rfl
def agN:X4 (tR (tL (tR fnT))) (gR (gL (gR id)))=tR (tL (tR fnT)):=by kernel_rfl
def agM:X4 (tL (tR (tR fnT))) (gL (gR (gR id)))=tL (tR (tR fnT)):=by kernel_rfl
def agL:X4 (tR (tR (tR fnT))) (gR (gR (gR id)))=tR (tR (tR fnT)):=by kernel_rfl
noncomputable def tV:Tr IFn->Option IFn|.leaf=>none|.node v _ _=>v
def po{t:Tr IFn}{g:Nat->Nat}(h0:∀x,tV t=some x->lN prog (g 0)=some x)(q:(tL t).All (λf fn=>lN prog f=some fn) (gL g))(E:(tR t).All (λf fn=>lN prog f=some fn) (gR g)):t.All (λf fn=>lN prog f=some fn) g:=by cases t with|leaf=>trivial|node v l r=>exact⟨h0,q,E⟩
def noF{x:IFn}{P:Prop}(h:(none:Option IFn)=some x):P:=by cases h
def aal:fnT.All (λf fn=>lN prog f=some fn) id:=(po (λx h=>noF h) (po (λx h=>noF h) (po (λx h=>k3.trans h) (qC agS) (qC agR)) (po (λx h=>noF h) (qC agQ) (qC agP))) (po (λx h=>noF h) (po (λx h=>noF h) (qC agO) (qC agN)) (po (λx h=>k6.trans h) (qC agM) (qC agL))))
end Go.Iso.Gen
end
