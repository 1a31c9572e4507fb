/-
  the code is that of the program.
-/
import Derived.Test.YtagpgnldjjmhkabGreatDoorGen
import Derived.Test.YtagpgnldjjmhkabGreatDoorIsoP5
set_option linter.defProp false
set_option linter.unusedSimpArgs false
set_option linter.unusedVariables false
set_option maxRecDepth 100000
set_option maxHeartbeats 4000000
section
namespace Go.Iso.Gen
open Go.Proofs Go.Proofs.Tryz
noncomputable def T6:Tr IFn->(Nat->Nat)->Tr IFn|.leaf,_=>.leaf|.node v l r,g=>.node (v.bind λ_=>iC prog (g 0)) (T6 l λi=>g (2*i+1)) (T6 r λi=>g (2*i+2))
def mP:∀{t:Tr IFn}{g:Nat->Nat},T6 t g=t->t.All (λf fn=>iC prog f=some fn) g|.leaf,_,_=>trivial|.node v l r,g,h=>by injection h with q E F;refine⟨λx e=>?_,mP E,mP F⟩;subst e;exact q
noncomputable def tL:Tr IFn->Tr IFn|.leaf=>.leaf|.node _ l _=>l
noncomputable def tR:Tr IFn->Tr IFn|.leaf=>.leaf|.node _ _ r=>r
def gL(g:Nat->Nat)(i:Nat):Nat:=g (2*i+1)
def gR(g:Nat->Nat)(i:Nat):Nat:=g (2*i+2)
def k3:iC prog 3=some F3:=by kernel_rfl
def k4:iC prog 4=some F4:=by kernel_rfl
def k5:iC prog 5=some F5:=by kernel_rfl
def k6:iC prog 6=some F6:=by kernel_rfl
def k27:iC prog 27=some F27:=by kernel_rfl
def acK:T6 (tL (tL (tL fnT))) (gL (gL (gL id)))=tL (tL (tL fnT)):=by kernel_rfl
def acJ:T6 (tR (tL (tL fnT))) (gR (gL (gL id)))=tR (tL (tL fnT)):=by kernel_rfl
def acI:T6 (tL (tR (tL fnT))) (gL (gR (gL id)))=tL (tR (tL fnT)):=by kernel_rfl
def acH:T6 (tR (tR (tL fnT))) (gR (gR (gL id)))=tR (tR (tL fnT)):=by kernel_rfl
def acG:T6 (tL (tL (tR fnT))) (gL (gL (gR id)))=tL (tL (tR fnT)):=by kernel_rfl
def acF:T6 (tR (tL (tR fnT))) (gR (gL (gR id)))=tR (tL (tR fnT)):=by kernel_rfl
def acE:T6 (tL (tR (tR fnT))) (gL (gR (gR id)))=tL (tR (tR fnT)):=by kernel_rfl
def acD:T6 (tR (tR (tR fnT))) (gR (gR (gR id)))=tR (tR (tR fnT)):=by kernel_rfl
noncomputable def tV:Tr IFn->Option IFn|.leaf=>none|.node v _ _=>v
def lP{t:Tr IFn}{g:Nat->Nat}(h0:∀x,tV t=some x->iC prog (g 0)=some x)(q:(tL t).All (λf fn=>iC prog f=some fn) (gL g))(E:(tR t).All (λf fn=>iC prog f=some fn) (gR g)):t.All (λf fn=>iC prog f=some fn) g:=by cases t with|leaf=>trivial|node v l r=>exact⟨h0,q,E⟩
def noF{x:IFn}{P:Prop}(h:(none:Option IFn)=some x):P:=by cases h
def Wu:fnT.All (λf fn=>iC prog f=some fn) id:=(lP (λx h=>noF h) (lP (λx h=>noF h) (lP (λx h=>k3.trans h) (mP acK) (mP acJ)) (lP (λx h=>k5.trans h) (mP acI) (mP acH))) (lP (λx h=>noF h) (lP (λx h=>k4.trans h) (mP acG) (mP acF)) (lP (λx h=>k6.trans h) (mP acE) (mP acD))))
end Go.Iso.Gen
end
