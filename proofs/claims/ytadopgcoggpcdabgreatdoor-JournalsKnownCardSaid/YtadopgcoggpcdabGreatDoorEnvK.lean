/-
  the code is that of the program.
-/
import Derived.Test.YtadopgcoggpcdabGreatDoorGen
import Derived.Test.YtadopgcoggpcdabGreatDoorIsoP5
set_option linter.defProp false
set_option linter.unusedSimpArgs false
set_option linter.unusedVariables false
set_option maxRecDepth 100000
set_option maxHeartbeats 4000000
section
namespace Go.Iso.Gen
open Go.Proofs Go.Proofs.Tryz
noncomputable def Xx:Tr IFn->(Nat->Nat)->Tr IFn|.leaf,_=>.leaf|.node v l r,g=>.node (v.bind λ_=>jp prog (g 0)) (Xx l λi=>g (2*i+1)) (Xx r λi=>g (2*i+2))
def qx:∀{t:Tr IFn}{g:Nat->Nat},Xx t g=t->t.All (λf fn=>jp prog f=some fn) g|.leaf,_,_=>trivial|.node v l r,g,h=>by injection h with q A E;refine⟨λx e=>?_,qx A,qx E⟩;subst e;exact q
noncomputable def tL:Tr IFn->Tr IFn|.leaf=>.leaf|.node _ l _=>l
noncomputable def tR:Tr IFn->Tr IFn|.leaf=>.leaf|.node _ _ r=>r
def gL(g:Nat->Nat)(i:Nat):Nat:=g (2*i+1)
def gR(g:Nat->Nat)(i:Nat):Nat:=g (2*i+2)
def k3:jp prog 3=some F3:=by kernel_rfl
def k4:jp prog 4=some F4:=by kernel_rfl
def k5:jp prog 5=some F5:=by kernel_rfl
def k6:jp prog 6=some F6:=by kernel_rfl
def k9:jp prog 9=some F9:=by kernel_rfl
def k36:jp prog 36=some F36:=by kernel_rfl
def ae3:Xx (tL (tL (tL fnT))) (gL (gL (gL id)))=tL (tL (tL fnT)):=by kernel_rfl
def ae2:Xx (tR (tL (tL fnT))) (gR (gL (gL id)))=tR (tL (tL fnT)):=by kernel_rfl
def ae1:Xx (tL (tR (tL fnT))) (gL (gR (gL id)))=tL (tR (tL fnT)):=by kernel_rfl
def ae0:Xx (tR (tR (tL fnT))) (gR (gR (gL id)))=tR (tR (tL fnT)):=by kernel_rfl
def aeZ:Xx (tL (tL (tR fnT))) (gL (gL (gR id)))=tL (tL (tR fnT)):=by kernel_rfl
def aeY:Xx (tR (tL (tR fnT))) (gR (gL (gR id)))=tR (tL (tR fnT)):=by kernel_rfl
def aeX:Xx (tL (tR (tR fnT))) (gL (gR (gR id)))=tL (tR (tR fnT)):=by kernel_rfl
def aeW:Xx (tR (tR (tR fnT))) (gR (gR (gR id)))=tR (tR (tR fnT)):=by kernel_rfl
noncomputable def tV:Tr IFn->Option IFn|.leaf=>none|.node v _ _=>v
def pC{t:Tr IFn}{g:Nat->Nat}(h0:∀x,tV t=some x->jp prog (g 0)=some x)(q:(tL t).All (λf fn=>jp prog f=some fn) (gL g))(A:(tR t).All (λf fn=>jp prog f=some fn) (gR g)):t.All (λf fn=>jp prog f=some fn) g:=by cases t with|leaf=>trivial|node v l r=>exact⟨h0,q,A⟩
def noF{x:IFn}{P:Prop}(h:(none:Option IFn)=some x):P:=by cases h
def QW:fnT.All (λf fn=>jp prog f=some fn) id:=(pC (λx h=>noF h) (pC (λx h=>noF h) (pC (λx h=>k3.trans h) (qx ae3) (qx ae2)) (pC (λx h=>k5.trans h) (qx ae1) (qx ae0))) (pC (λx h=>noF h) (pC (λx h=>k4.trans h) (qx aeZ) (qx aeY)) (pC (λx h=>k6.trans h) (qx aeX) (qx aeW))))
def ag4:EnvOk prog En:=⟨λf fn h=>sK fnT (λi=>i) f fn QW h,λf s h=>by cases h⟩
def isT:Out->Heap->Bool:=λo _=>match o with|.val v=>(match v with|.bool b=>b|_=>false)|_=>false
def WL{o:Out}{H:Heap}(h:isT o H=true):o=.val (.bool true):=by cases o with|ex e fr=>cases h|val v=>cases v<;>first|(cases h;done)|(rename_i b;cases b<;>first|rfl|(cases h;done))
end Go.Iso.Gen
end
