/-
  the code is that of the program.
-/
import Derived.Test.YtagpgnldjjmhkacGreatDoorGen
import Derived.Test.YtagpgnldjjmhkacGreatDoorIsoP5
set_option linter.defProp false
set_option linter.unusedSimpArgs false
set_option linter.unusedVariables false
set_option maxRecDepth 100000
set_option maxHeartbeats 4000000
section
namespace Go.Iso.Gen
open Go.Proofs Go.Proofs.Tryz
noncomputable def T7:Tr IFn->(Nat->Nat)->Tr IFn|.leaf,_=>.leaf|.node v l r,g=>.node (v.bind λ_=>gl prog (g 0)) (T7 l λi=>g (2*i+1)) (T7 r λi=>g (2*i+2))
def lL:∀{t:Tr IFn}{g:Nat->Nat},T7 t g=t->t.All (λf fn=>gl prog f=some fn) g|.leaf,_,_=>trivial|.node v l r,g,h=>by injection h with q A E;refine⟨λx e=>?_,lL A,lL E⟩;subst e;exact q
noncomputable def tL:Tr IFn->Tr IFn|.leaf=>.leaf|.node _ l _=>l
noncomputable def tR:Tr IFn->Tr IFn|.leaf=>.leaf|.node _ _ r=>r
def gL(g:Nat->Nat)(i:Nat):Nat:=g (2*i+1)
def gR(g:Nat->Nat)(i:Nat):Nat:=g (2*i+2)
def k3:gl prog 3=some F3:=by kernel_rfl
def k4:gl prog 4=some F4:=by kernel_rfl
def k5:gl prog 5=some F5:=by kernel_rfl
def k6:gl prog 6=some F6:=by kernel_rfl
def k29:gl prog 29=some F29:=by kernel_rfl
def acR:T7 (tL (tL (tL fnT))) (gL (gL (gL id)))=tL (tL (tL fnT)):=by kernel_rfl
def acQ:T7 (tR (tL (tL fnT))) (gR (gL (gL id)))=tR (tL (tL fnT)):=by kernel_rfl
def acP:T7 (tL (tR (tL fnT))) (gL (gR (gL id)))=tL (tR (tL fnT)):=by kernel_rfl
def acO:T7 (tR (tR (tL fnT))) (gR (gR (gL id)))=tR (tR (tL fnT)):=by kernel_rfl
def acN:T7 (tL (tL (tR fnT))) (gL (gL (gR id)))=tL (tL (tR fnT)):=by kernel_rfl
def acM:T7 (tR (tL (tR fnT))) (gR (gL (gR id)))=tR (tL (tR fnT)):=by kernel_rfl
def acL:T7 (tL (tR (tR fnT))) (gL (gR (gR id)))=tL (tR (tR fnT)):=by kernel_rfl
def acK:T7 (tR (tR (tR fnT))) (gR (gR (gR id)))=tR (tR (tR fnT)):=by kernel_rfl
noncomputable def tV:Tr IFn->Option IFn|.leaf=>none|.node v _ _=>v
def kw{t:Tr IFn}{g:Nat->Nat}(h0:∀x,tV t=some x->gl prog (g 0)=some x)(hl:(tL t).All (λf fn=>gl prog f=some fn) (gL g))(hr:(tR t).All (λf fn=>gl prog f=some fn) (gR g)):t.All (λf fn=>gl prog f=some fn) g:=by cases t with|leaf=>trivial|node v l r=>exact⟨h0,hl,hr⟩
def noF{x:IFn}{P:Prop}(h:(none:Option IFn)=some x):P:=by cases h
def Ws:fnT.All (λf fn=>gl prog f=some fn) id:=(kw (λx h=>noF h) (kw (λx h=>noF h) (kw (λx h=>k3.trans h) (lL acR) (lL acQ)) (kw (λx h=>k5.trans h) (lL acP) (lL acO))) (kw (λx h=>noF h) (kw (λx h=>k4.trans h) (lL acN) (lL acM)) (kw (λx h=>k6.trans h) (lL acL) (lL acK))))
end Go.Iso.Gen
end
