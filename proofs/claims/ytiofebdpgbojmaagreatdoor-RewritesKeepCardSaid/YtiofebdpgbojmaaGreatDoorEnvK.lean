/-
  the code is that of the program.
-/
import Derived.Test.YtiofebdpgbojmaaGreatDoorGen
import Derived.Test.YtiofebdpgbojmaaGreatDoorIsoP5
set_option linter.defProp false
set_option linter.unusedSimpArgs false
set_option linter.unusedVariables false
set_option maxRecDepth 100000
set_option maxHeartbeats 4000000
section
namespace Go.Iso.Gen
open Go.Proofs Go.Proofs.Tryz
noncomputable def SA:Tr IFn->(Nat->Nat)->Tr IFn|.leaf,_=>.leaf|.node v l r,g=>.node (v.bind λ_=>iK prog (g 0)) (SA l λi=>g (2*i+1)) (SA r λi=>g (2*i+2))
def lK:∀{t:Tr IFn}{g:Nat->Nat},SA t g=t->t.All (λf fn=>iK prog f=some fn) g|.leaf,_,_=>trivial|.node v l r,g,h=>by injection h with q u A;refine⟨λx e=>?_,lK u,lK A⟩;subst e;exact q
noncomputable def tL:Tr IFn->Tr IFn|.leaf=>.leaf|.node _ l _=>l
noncomputable def tR:Tr IFn->Tr IFn|.leaf=>.leaf|.node _ _ r=>r
def gL(g:Nat->Nat)(i:Nat):Nat:=g (2*i+1)
def gR(g:Nat->Nat)(i:Nat):Nat:=g (2*i+2)
def k16:iK prog 16=some (QG 16):=by kernel_rfl
def k44:iK prog 44=some F44:=by kernel_rfl
def acs:SA (tL (tL (tL fnT))) (gL (gL (gL id)))=tL (tL (tL fnT)):=by kernel_rfl
def acr:SA (tR (tL (tL fnT))) (gR (gL (gL id)))=tR (tL (tL fnT)):=by kernel_rfl
def acq:SA (tL (tR (tL fnT))) (gL (gR (gL id)))=tL (tR (tL fnT)):=by kernel_rfl
def acp:SA (tR (tR (tL fnT))) (gR (gR (gL id)))=tR (tR (tL fnT)):=by kernel_rfl
def aco:SA (tL (tL (tR fnT))) (gL (gL (gR id)))=tL (tL (tR fnT)):=by kernel_rfl
def acn:SA (tR (tL (tR fnT))) (gR (gL (gR id)))=tR (tL (tR fnT)):=by kernel_rfl
def acm:SA (tL (tR (tR fnT))) (gL (gR (gR id)))=tL (tR (tR fnT)):=by kernel_rfl
def acl:SA (tR (tR (tR fnT))) (gR (gR (gR id)))=tR (tR (tR fnT)):=by kernel_rfl
noncomputable def tV:Tr IFn->Option IFn|.leaf=>none|.node v _ _=>v
def kI{t:Tr IFn}{g:Nat->Nat}(h0:∀x,tV t=some x->iK prog (g 0)=some x)(q:(tL t).All (λf fn=>iK prog f=some fn) (gL g))(u:(tR t).All (λf fn=>iK prog f=some fn) (gR g)):t.All (λf fn=>iK prog f=some fn) g:=by cases t with|leaf=>trivial|node v l r=>exact⟨h0,q,u⟩
def Yu{x:IFn}{P:Prop}(h:(none:Option IFn)=some x):P:=by cases h
def LH:fnT.All (λf fn=>iK prog f=some fn) id:=(kI (λx h=>Yu h) (kI (λx h=>Yu h) (kI (λx h=>Yu h) (lK acs) (lK acr)) (kI (λx h=>Yu h) (lK acq) (lK acp))) (kI (λx h=>Yu h) (kI (λx h=>Yu h) (lK aco) (lK acn)) (kI (λx h=>Yu h) (lK acm) (lK acl))))
def aeE:EnvOk prog En:=⟨λf fn h=>nK fnT (λi=>i) f fn LH h,λf s h=>by cases h⟩
def isT:Out->Heap->Bool:=λo _=>match o with|.val v=>(match v with|.bool b=>b|_=>false)|_=>false
def RC{o:Out}{H:Heap}(h:isT o H=true):o=.val (.bool true):=by cases o with|ex e fr=>cases h|val v=>cases v<;>first|(cases h;done)|(rename_i b;cases b<;>first|rfl|(cases h;done))
end Go.Iso.Gen
end
