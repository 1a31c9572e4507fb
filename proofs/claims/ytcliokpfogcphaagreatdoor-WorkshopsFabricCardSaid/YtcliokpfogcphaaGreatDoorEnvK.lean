/-
  the code is that of the program.
-/
import Derived.Test.YtcliokpfogcphaaGreatDoorGen
import Derived.Test.YtcliokpfogcphaaGreatDoorIsoP5
set_option linter.defProp false
set_option linter.unusedSimpArgs false
set_option linter.unusedVariables false
set_option maxRecDepth 100000
set_option maxHeartbeats 4000000
section
namespace Go.Iso.Gen
open Go.Proofs Go.Proofs.Tryz
noncomputable def YL:Tr IFn->(Nat->Nat)->Tr IFn|.leaf,_=>.leaf|.node v l r,g=>.node (v.bind λ_=>mF prog (g 0)) (YL l λi=>g (2*i+1)) (YL r λi=>g (2*i+2))
def ru:∀{t:Tr IFn}{g:Nat->Nat},YL t g=t->t.All (λf fn=>mF prog f=some fn) g|.leaf,_,_=>trivial|.node v l r,g,h=>by injection h with q E F;refine⟨λx e=>?_,ru E,ru F⟩;subst e;exact q
noncomputable def tL:Tr IFn->Tr IFn|.leaf=>.leaf|.node _ l _=>l
noncomputable def tR:Tr IFn->Tr IFn|.leaf=>.leaf|.node _ _ r=>r
def gL(g:Nat->Nat)(i:Nat):Nat:=g (2*i+1)
def gR(g:Nat->Nat)(i:Nat):Nat:=g (2*i+2)
def k4:mF prog 4=some F4:=by kernel_rfl
def k6:mF prog 6=some F6:=by kernel_rfl
def k29:mF prog 29=some F29:=by kernel_rfl
def ahx:YL (tL (tL (tL fnT))) (gL (gL (gL id)))=tL (tL (tL fnT)):=by kernel_rfl
def ahw:YL (tR (tL (tL fnT))) (gR (gL (gL id)))=tR (tL (tL fnT)):=by kernel_rfl
def ahv:YL (tL (tR (tL fnT))) (gL (gR (gL id)))=tL (tR (tL fnT)):=by kernel_rfl
def ahu:YL (tR (tR (tL fnT))) (gR (gR (gL id)))=tR (tR (tL fnT)):=by kernel_rfl
def aht:YL (tL (tL (tR fnT))) (gL (gL (gR id)))=tL (tL (tR fnT)):=by kernel_rfl
def ahs:YL (tR (tL (tR fnT))) (gR (gL (gR id)))=tR (tL (tR fnT)):=by kernel_rfl
def ahr:YL (tL (tR (tR fnT))) (gL (gR (gR id)))=tL (tR (tR fnT)):=by kernel_rfl
def ahq:YL (tR (tR (tR fnT))) (gR (gR (gR id)))=tR (tR (tR fnT)):=by kernel_rfl
noncomputable def tV:Tr IFn->Option IFn|.leaf=>none|.node v _ _=>v
def qa{t:Tr IFn}{g:Nat->Nat}(h0:∀x,tV t=some x->mF prog (g 0)=some x)(q:(tL t).All (λf fn=>mF prog f=some fn) (gL g))(E:(tR t).All (λf fn=>mF prog f=some fn) (gR g)):t.All (λf fn=>mF prog f=some fn) g:=by cases t with|leaf=>trivial|node v l r=>exact⟨h0,q,E⟩
def noF{x:IFn}{P:Prop}(h:(none:Option IFn)=some x):P:=by cases h
def aaV:fnT.All (λf fn=>mF prog f=some fn) id:=(qa (λx h=>noF h) (qa (λx h=>noF h) (qa (λx h=>noF h) (ru ahx) (ru ahw)) (qa (λx h=>noF h) (ru ahv) (ru ahu))) (qa (λx h=>noF h) (qa (λx h=>k4.trans h) (ru aht) (ru ahs)) (qa (λx h=>k6.trans h) (ru ahr) (ru ahq))))
end Go.Iso.Gen
end
