/-
  the code is that of the program.
-/
import Derived.Test.YtagpgnldjjmhkaaGreatDoorGen
import Derived.Test.YtagpgnldjjmhkaaGreatDoorIsoP5
set_option linter.defProp false
set_option linter.unusedSimpArgs false
set_option linter.unusedVariables false
set_option maxRecDepth 100000
set_option maxHeartbeats 4000000
section
namespace Go.Iso.Gen
open Go.Proofs Go.Proofs.Tryz
noncomputable def YJ:Tr IFn->(Nat->Nat)->Tr IFn|.leaf,_=>.leaf|.node v l r,g=>.node (v.bind λ_=>ju prog (g 0)) (YJ l λi=>g (2*i+1)) (YJ r λi=>g (2*i+2))
def rD:∀{t:Tr IFn}{g:Nat->Nat},YJ t g=t->t.All (λf fn=>ju prog f=some fn) g|.leaf,_,_=>trivial|.node v l r,g,h=>by injection h with q A E;refine⟨λx e=>?_,rD A,rD E⟩;subst e;exact q
noncomputable def tL:Tr IFn->Tr IFn|.leaf=>.leaf|.node _ l _=>l
noncomputable def tR:Tr IFn->Tr IFn|.leaf=>.leaf|.node _ _ r=>r
def gL(g:Nat->Nat)(i:Nat):Nat:=g (2*i+1)
def gR(g:Nat->Nat)(i:Nat):Nat:=g (2*i+2)
def k3:ju prog 3=some F3:=by kernel_rfl
def k4:ju prog 4=some F4:=by kernel_rfl
def k5:ju prog 5=some F5:=by kernel_rfl
def k6:ju prog 6=some F6:=by kernel_rfl
def k34:ju prog 34=some F34:=by kernel_rfl
def ahc:YJ (tL (tL (tL fnT))) (gL (gL (gL id)))=tL (tL (tL fnT)):=by kernel_rfl
def ahb:YJ (tR (tL (tL fnT))) (gR (gL (gL id)))=tR (tL (tL fnT)):=by kernel_rfl
def aha:YJ (tL (tR (tL fnT))) (gL (gR (gL id)))=tL (tR (tL fnT)):=by kernel_rfl
def ag9:YJ (tR (tR (tL fnT))) (gR (gR (gL id)))=tR (tR (tL fnT)):=by kernel_rfl
def ag8:YJ (tL (tL (tR fnT))) (gL (gL (gR id)))=tL (tL (tR fnT)):=by kernel_rfl
def ag7:YJ (tR (tL (tR fnT))) (gR (gL (gR id)))=tR (tL (tR fnT)):=by kernel_rfl
def ag6:YJ (tL (tR (tR fnT))) (gL (gR (gR id)))=tL (tR (tR fnT)):=by kernel_rfl
def ag5:YJ (tR (tR (tR fnT))) (gR (gR (gR id)))=tR (tR (tR fnT)):=by kernel_rfl
noncomputable def tV:Tr IFn->Option IFn|.leaf=>none|.node v _ _=>v
def qm{t:Tr IFn}{g:Nat->Nat}(h0:∀x,tV t=some x->ju prog (g 0)=some x)(q:(tL t).All (λf fn=>ju prog f=some fn) (gL g))(A:(tR t).All (λf fn=>ju prog f=some fn) (gR g)):t.All (λf fn=>ju prog f=some fn) g:=by cases t with|leaf=>trivial|node v l r=>exact⟨h0,q,A⟩
def noF{x:IFn}{P:Prop}(h:(none:Option IFn)=some x):P:=by cases h
def aa5:fnT.All (λf fn=>ju prog f=some fn) id:=(qm (λx h=>noF h) (qm (λx h=>noF h) (qm (λx h=>k3.trans h) (rD ahc) (rD ahb)) (qm (λx h=>k5.trans h) (rD aha) (rD ag9))) (qm (λx h=>noF h) (qm (λx h=>k4.trans h) (rD ag8) (rD ag7)) (qm (λx h=>k6.trans h) (rD ag6) (rD ag5))))
end Go.Iso.Gen
end
