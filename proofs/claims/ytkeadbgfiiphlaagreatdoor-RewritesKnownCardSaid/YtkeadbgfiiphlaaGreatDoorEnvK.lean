/-
  the code is that of the program.
-/
import Derived.Test.YtkeadbgfiiphlaaGreatDoorGen
import Derived.Test.YtkeadbgfiiphlaaGreatDoorIsoP5
set_option linter.defProp false
set_option linter.unusedSimpArgs false
set_option linter.unusedVariables false
set_option maxRecDepth 100000
set_option maxHeartbeats 4000000
section
namespace Go.Iso.Gen
open Go.Proofs Go.Proofs.Tryz
noncomputable def VJ:Tr IFn->(Nat->Nat)->Tr IFn|.leaf,_=>.leaf|.node v l r,g=>.node (v.bind λ_=>iy prog (g 0)) (VJ l λi=>g (2*i+1)) (VJ r λi=>g (2*i+2))
def ng:∀{t:Tr IFn}{g:Nat->Nat},VJ t g=t->t.All (λf fn=>iy prog f=some fn) g|.leaf,_,_=>trivial|.node v l r,g,h=>by injection h with q E F;refine⟨λx e=>?_,ng E,ng F⟩;subst e;exact q
noncomputable def tL:Tr IFn->Tr IFn|.leaf=>.leaf|.node _ l _=>l
noncomputable def tR:Tr IFn->Tr IFn|.leaf=>.leaf|.node _ _ r=>r
def gL(g:Nat->Nat)(i:Nat):Nat:=g (2*i+1)
def gR(g:Nat->Nat)(i:Nat):Nat:=g (2*i+2)
theorem k3:iy prog 3=some F3:=by kernel_rfl
def k4:iy prog 4=some F4:=by kernel_rfl
def k5:iy prog 5=some F5:=by kernel_rfl
theorem k6:iy prog 6=some F6:=by kernel_rfl
def k31:iy prog 31=some F31:=by kernel_rfl
def aff:VJ (tL (tL (tL fnT))) (gL (gL (gL id)))=tL (tL (tL fnT)):=by kernel_rfl
def afe:VJ (tR (tL (tL fnT))) (gR (gL (gL id)))=tR (tL (tL fnT)):=by kernel_rfl
def afd:VJ (tL (tR (tL fnT))) (gL (gR (gL id)))=tL (tR (tL fnT)):=by kernel_rfl
def afc:VJ (tR (tR (tL fnT))) (gR (gR (gL id)))=tR (tR (tL fnT)):=by kernel_rfl
def afb:VJ (tL (tL (tR fnT))) (gL (gL (gR id)))=tL (tL (tR fnT)):=by kernel_rfl
def afa:VJ (tR (tL (tR fnT))) (gR (gL (gR id)))=tR (tL (tR fnT)):=by kernel_rfl
def ae9:VJ (tL (tR (tR fnT))) (gL (gR (gR id)))=tL (tR (tR fnT)):=by kernel_rfl
def ae8:VJ (tR (tR (tR fnT))) (gR (gR (gR id)))=tR (tR (tR fnT)):=by kernel_rfl
noncomputable def tV:Tr IFn->Option IFn|.leaf=>none|.node v _ _=>v
def mf{t:Tr IFn}{g:Nat->Nat}(h0:∀x,tV t=some x->iy prog (g 0)=some x)(q:(tL t).All (λf fn=>iy prog f=some fn) (gL g))(E:(tR t).All (λf fn=>iy prog f=some fn) (gR g)):t.All (λf fn=>iy prog f=some fn) g:=by cases t with|leaf=>trivial|node v l r=>exact⟨h0,q,E⟩
def noF{x:IFn}{P:Prop}(h:(none:Option IFn)=some x):P:=by cases h
def X7:fnT.All (λf fn=>iy prog f=some fn) id:=(mf (λx h=>noF h) (mf (λx h=>noF h) (mf (λx h=>k3.trans h) (ng aff) (ng afe)) (mf (λx h=>k5.trans h) (ng afd) (ng afc))) (mf (λx h=>noF h) (mf (λx h=>k4.trans h) (ng afb) (ng afa)) (mf (λx h=>k6.trans h) (ng ae9) (ng ae8))))
end Go.Iso.Gen
end
