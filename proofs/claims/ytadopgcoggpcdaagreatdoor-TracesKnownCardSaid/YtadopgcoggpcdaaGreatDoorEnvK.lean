/-
  the code is that of the program.
-/
import Derived.Test.YtadopgcoggpcdaaGreatDoorGen
import Derived.Test.YtadopgcoggpcdaaGreatDoorIsoP5
set_option linter.defProp false
set_option linter.unusedSimpArgs false
set_option linter.unusedVariables false
set_option maxRecDepth 100000
set_option maxHeartbeats 4000000
section
namespace Go.Iso.Gen
open Go.Proofs Go.Proofs.Tryz
noncomputable def XL:Tr IFn->(Nat->Nat)->Tr IFn|.leaf,_=>.leaf|.node v l r,g=>.node (v.bind λ_=>iz prog (g 0)) (XL l λi=>g (2*i+1)) (XL r λi=>g (2*i+2))
def oB:∀{t:Tr IFn}{g:Nat->Nat},XL t g=t->t.All (λf fn=>iz prog f=some fn) g|.leaf,_,_=>trivial|.node v l r,g,h=>by injection h with E F I;refine⟨λx e=>?_,oB F,oB I⟩;subst e;exact E
noncomputable def tL:Tr IFn->Tr IFn|.leaf=>.leaf|.node _ l _=>l
noncomputable def tR:Tr IFn->Tr IFn|.leaf=>.leaf|.node _ _ r=>r
def gL(g:Nat->Nat)(i:Nat):Nat:=g (2*i+1)
def gR(g:Nat->Nat)(i:Nat):Nat:=g (2*i+2)
def k3:iz prog 3=some F3:=by kernel_rfl
def k4:iz prog 4=some F4:=by kernel_rfl
def k5:iz prog 5=some F5:=by kernel_rfl
def k6:iz prog 6=some F6:=by kernel_rfl
def k9:iz prog 9=some F9:=by kernel_rfl
def k33:iz prog 33=some F33:=by kernel_rfl
def afn:XL (tL (tL (tL fnT))) (gL (gL (gL id)))=tL (tL (tL fnT)):=by kernel_rfl
def afm:XL (tR (tL (tL fnT))) (gR (gL (gL id)))=tR (tL (tL fnT)):=by kernel_rfl
def afl:XL (tL (tR (tL fnT))) (gL (gR (gL id)))=tL (tR (tL fnT)):=by kernel_rfl
def afk:XL (tR (tR (tL fnT))) (gR (gR (gL id)))=tR (tR (tL fnT)):=by kernel_rfl
def afj:XL (tL (tL (tR fnT))) (gL (gL (gR id)))=tL (tL (tR fnT)):=by kernel_rfl
def afi:XL (tR (tL (tR fnT))) (gR (gL (gR id)))=tR (tL (tR fnT)):=by kernel_rfl
def afh:XL (tL (tR (tR fnT))) (gL (gR (gR id)))=tL (tR (tR fnT)):=by kernel_rfl
def afg:XL (tR (tR (tR fnT))) (gR (gR (gR id)))=tR (tR (tR fnT)):=by kernel_rfl
noncomputable def tV:Tr IFn->Option IFn|.leaf=>none|.node v _ _=>v
def m8{t:Tr IFn}{g:Nat->Nat}(h0:∀x,tV t=some x->iz prog (g 0)=some x)(hl:(tL t).All (λf fn=>iz prog f=some fn) (gL g))(E:(tR t).All (λf fn=>iz prog f=some fn) (gR g)):t.All (λf fn=>iz prog f=some fn) g:=by cases t with|leaf=>trivial|node v l r=>exact⟨h0,hl,E⟩
def noF{x:IFn}{P:Prop}(h:(none:Option IFn)=some x):P:=by cases h
def QF:fnT.All (λf fn=>iz prog f=some fn) id:=(m8 (λx h=>noF h) (m8 (λx h=>noF h) (m8 (λx h=>k3.trans h) (oB afn) (oB afm)) (m8 (λx h=>k5.trans h) (oB afl) (oB afk))) (m8 (λx h=>noF h) (m8 (λx h=>k4.trans h) (oB afj) (oB afi)) (m8 (λx h=>k6.trans h) (oB afh) (oB afg))))
def ahs:EnvOk prog En:=⟨λf fn h=>qM fnT (λi=>i) f fn QF h,λf s h=>by cases h⟩
def isT:Out->Heap->Bool:=λo _=>match o with|.val v=>(match v with|.bool b=>b|_=>false)|_=>false
def WU{o:Out}{H:Heap}(h:isT o H=true):o=.val (.bool true):=by cases o with|ex e fr=>cases h|val v=>cases v<;>first|(cases h;done)|(rename_i b;cases b<;>first|rfl|(cases h;done))
end Go.Iso.Gen
end
