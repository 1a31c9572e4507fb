/-
  the code that the claim reaches, for the evaluator.
-/
import Derived.Test.YtagpgnldjjmhkabGreatDoorIsoP5
import Derived.Test.YtagpgnldjjmhkabGreatDoorIsoP7
import Derived.Test.YtagpgnldjjmhkabGreatDoorFnZ
import Derived.Test.YtagpgnldjjmhkabGreatDoorProg
import Derived.KernelRfl
set_option linter.unusedSimpArgs false
set_option linter.unusedVariables false
set_option maxRecDepth 100000
set_option maxHeartbeats 4000000
set_option linter.defProp false
namespace Go.Iso.Gen
open Go.Proofs Go.Proofs.Tryz
noncomputable section
def PgT:Program:=⟨Tryz.progTables,#[]⟩
def aet(b:Bool):Code->Code|.seq a c=>if b then c else a|.cond _ a c=>if b then c else a|.block _ a=>a|.loop a=>a|.scope a=>a|.rangeFunc _ _ a c=>if b then c else a|c=>c
def pj0:Nat->Nat->Code->Code|0,_,c=>c|n+1,p,c=>if p<=1 then c else pj0 n (p / 2) (aet (p%2==1) c)
def eE(f:Func)(p:Nat):IC:=match f.body with|some c=>(bh PgT (pj0 64 p c)).getD .skip|none=>.skip
def Mv(f:Func)(p:Nat)(c:IC)(_:eE f p=c):IC:=c
def kk0(k:Nat->IC)(p:Nat):IC:=k p
def Vn(g k:Nat->IC):Code->Nat->Nat->IC|.region _ _ _,p,_=>g p|.seq a b,p,w=>.seq (Vn g k a (p+w) (2*w)) (Vn g k b (p+2*w) (2*w))|.cond c a b,p,w=>.cond ((pq c).getD (.tmp 0)) (Vn g k a (p+w) (2*w)) (Vn g k b (p+2*w) (2*w))|.block id c,p,w=>.block id (Vn g k c (p+w) (2*w))|.scope c,p,w=>.scope (Vn g k c (p+w) (2*w))|.loop _,p,w=>.loop (kk0 k (p+w))|.rangeFunc f q a b,p,w=>.rfn ((pq f).getD (.tmp 0)) q.toList (Vn g k a (p+w) (2*w)) (Vn g k b (p+2*w) (2*w))|.exit id,_,_=>.exit id|.ret,_,_=>.ret|_,_,_=>.skip
def wb0:Nat->Nat->Nat->Nat|0,_,w=>w|n+1,p,w=>if p<=1 then w else wb0 n (p/2) (2*w)
def XI(f:Func)(p:Nat)(g k:Nat->IC):IC:=match f.body with|some c=>Vn g k (pj0 64 p c) p (wb0 64 p 1)|none=>.skip
def cR0(P:Program)(o:Array Oper)(d:Bool):Option (List (Sg×List IOp)):=(o.toList.mapM (i6 P o)).map λl=>if d then parts (gJ o.toList []) (jr (gJ o.toList []) l l 0) 0 [] else [(.seq,l)]
def oR0(P:Program)(o:Array Oper)(d:Bool):Bool:=match o.toList.mapM (i6 P o) with|some l=>!d||(vm o&&FA o.toList 0&&qE (gJ o.toList []) (jr (gJ o.toList []) l l 0) 0&&mS (gJ o.toList []) (jr (gJ o.toList []) l l 0) 0)|none=>true
def gR0(f:Func)(p:Nat):IC:=match f.body with|some c=>(match pj0 64 p c with|.region _ o d=>((cR0 PgT o d).map .ops).getD .skip|_=>.skip)|none=>.skip
def oP0(f:Func)(p:Nat):Bool:=match f.body with|some c=>(match pj0 64 p c with|.region _ o d=>oR0 PgT o d|_=>false)|none=>false
def lb3(f:Func)(p:Nat):IC:=XI f p (eE f) (λ_=>.skip)
def Ib(f:Func)(p:Nat):IC:=XI f p (eE f) (lb3 f)
def sF(f:Func)(p:Nat):IC:=XI f p (eE f) (Ib f)
def aC(f:Func)(p:Nat):IC:=XI f p (eE f) (sF f)
theorem J0{a b:Prop}(h:a)(k:b):a/\b:=⟨h,k⟩
def F3:IFn:=⟨111,[(4,none)],(aC f3 1)⟩
def F4:IFn:=⟨147,[(0,none)],(aC f4 1)⟩
def F5:IFn:=⟨62,[(2,none)],(aC f5 1)⟩
def F6:IFn:=⟨70,[(2,none),(3,none),(4,none)],(aC f6 1)⟩
def F7:IFn:=⟨37,[(4,none)],(aC f7 1)⟩
def F8:IFn:=⟨4,[(0,some (some 8))],(aC f8 1)⟩
def F9:IFn:=⟨22,[(4,none)],(aC f9 1)⟩
def F10:IFn:=⟨27,[(4,some (some 8)),(5,none)],(aC f10 1)⟩
def F11:IFn:=⟨73,[(4,some (some 6))],(aC f11 1)⟩
def F12:IFn:=⟨47,[(4,some (some 8)),(5,none),(6,none)],(aC f12 1)⟩
def F13:IFn:=⟨8,[(2,none)],(aC f13 1)⟩
def F14:IFn:=⟨115,[(2,none)],(aC f14 1)⟩
def F15:IFn:=⟨7,[(0,some (some 10))],(aC f15 1)⟩
def F16:IFn:=⟨51,[(8,none),(9,none)],(aC f16 1)⟩
def F17:IFn:=⟨45,[(4,none)],(aC f17 1)⟩
def F18:IFn:=⟨9,[(2,none)],(aC f18 1)⟩
def F19:IFn:=⟨17,[(2,some (some 4)),(3,none)],(aC f19 1)⟩
def F20:IFn:=⟨35,[(4,none)],(aC f20 1)⟩
def F21:IFn:=⟨34,[(2,none)],(aC f21 1)⟩
def F22:IFn:=⟨3,[(0,some (some 4))],(aC f22 1)⟩
def F23:IFn:=⟨76,[(2,none)],(aC f23 1)⟩
def F24:IFn:=⟨56,[(2,none)],(aC f24 1)⟩
def F25:IFn:=⟨20,[(6,none)],(aC f25 1)⟩
def F26:IFn:=⟨3,[(0,none)],(aC f26 1)⟩
def X6:=Mv f27 2 _ (by cbv)
def X5:=Mv f27 5 _ (by cbv)
def X4:=Mv f27 19 _ (by cbv)
def X3:=Mv f27 139 _ (by cbv)
def X2:=Mv f27 1227 _ (by cbv)
def X0:=Mv f27 1739 _ (by cbv)
def UF:IC:=.seq (X3) (.seq (.cond (.tmp 21) (.skip) (.exit 0)) (.block 1 (.seq (X2) (X0))))
def UB:=Mv f27 23 _ (by cbv)
def UA:=Mv f27 79 _ (by cbv)
def XZ:=Mv f27 559 _ (by cbv)
def UE:=Mv f27 9007 _ (by cbv)
def UD:=Mv f27 13103 _ (by cbv)
def UC:=Mv f27 3887 _ (by cbv)
def Ge:IC:=.seq (XZ) (.seq (.cond (.tmp 42) (.skip) (.exit 2)) (.seq (.block 3 (.seq (UE) (UD))) (UC)))
def LS:=Mv f27 95 _ (by cbv)
def Gd:IC:=.ops [(.free,[⟨some 60,.move,[.tmp 0],none,false,0,0⟩,⟨some 61,.nilCheck,[.tmp 60],none,false,1,1⟩,⟨some 62,.fieldAddr 4,[.tmp 61],none,false,2,3⟩,⟨some 63,.load none,[.tmp 62],none,false,3,7⟩,⟨some 64,.move,[.tmp 3],none,false,4,0⟩,⟨some 65,.call,[.val (.fn 70 [] []),.tmp 64],none,false,5,16⟩,⟨some 66,.move,[.tmp 0],none,false,6,0⟩,⟨some 67,.nilCheck,[.tmp 66],none,false,7,64⟩,⟨some 68,.fieldAddr 1,[.tmp 67],none,false,8,192⟩,⟨some 69,.load (some 2),[.tmp 68],none,false,9,448⟩,⟨some 70,.move,[.tmp 0],none,false,10,0⟩,⟨some 71,.nilCheck,[.tmp 70],none,false,11,1024⟩,⟨some 72,.fieldAddr 0,[.tmp 71],none,false,12,3072⟩,⟨some 73,.load none,[.tmp 72],none,false,13,7168⟩,⟨some 74,.call,[.val (.fn 51 [] []),.tmp 69,.tmp 73],none,false,14,16368⟩,⟨some 75,.move,[.tmp 0],none,false,15,0⟩,⟨some 76,.nilCheck,[.tmp 75],none,false,16,32768⟩,⟨some 77,.fieldAddr 6,[.tmp 76],none,false,17,98304⟩,⟨some 78,.load none,[.tmp 77],none,false,18,229376⟩,⟨some 79,.call,[.val (.fn 55 [] []),.tmp 78],none,false,19,524272⟩,⟨some 80,.build [.nilSlice,.nilSlice,.nilSlice,.nilSlice] [(0,1),(1,1),(2,1),(3,1)],[.tmp 63,.tmp 65,.tmp 74,.tmp 79],none,false,20,1048575⟩,⟨some 8,.alloc 49 4 [.nilSlice,.nilSlice,.nilSlice,.nilSlice],[],none,false,21,0⟩]),(.seq,[⟨none,.store 4,[.tmp 8,.tmp 80],none,true,22,4194303⟩])]
def Gc:=Mv f27 383 _ (by cbv)
def aai:IC:=.seq (X6) (.seq (X5) (.seq (.seq (X4) (.block 0 (.loop UF))) (.seq (UB) (.seq (.seq (UA) (.block 2 (.loop Ge))) (.seq (LS) (.seq (Gd) (.seq (Gc) (.ret))))))))
def F27:IFn:=⟨95,[(2,some (some 8))],aai⟩
def F28:IFn:=⟨25,[(4,none)],(aC f28 1)⟩
def F29:IFn:=⟨33,[(4,some (some 2)),(5,none)],(aC f29 1)⟩
def F30:IFn:=⟨28,[(6,none)],(aC f30 1)⟩
def F31:IFn:=⟨31,[(6,none)],(aC f31 1)⟩
def F32:IFn:=⟨67,[(6,none)],(aC f32 1)⟩
def F33:IFn:=⟨91,[(6,none)],(aC f33 1)⟩
def F34:IFn:=⟨41,[(6,none)],(aC f34 1)⟩
def F35:IFn:=⟨33,[(6,none)],(aC f35 1)⟩
def F36:IFn:=⟨33,[(6,none)],(aC f36 1)⟩
def F37:IFn:=⟨31,[(4,none)],(aC f37 1)⟩
def F38:IFn:=⟨26,[(4,none)],(aC f38 1)⟩
def F39:IFn:=⟨26,[(4,none)],(aC f39 1)⟩
def F40:IFn:=⟨10,[(5,none)],(aC f40 1)⟩
def F41:IFn:=⟨32,[(6,none)],(aC f41 1)⟩
def F42:IFn:=⟨32,[(6,none)],(aC f42 1)⟩
def F43:IFn:=⟨26,[(4,none)],(aC f43 1)⟩
def F44:IFn:=⟨18,[(2,none)],(aC f44 1)⟩
def F45:IFn:=⟨4,[(2,none)],(aC f45 1)⟩
def F46:IFn:=⟨15,[(2,none)],(aC f46 1)⟩
def F47:IFn:=⟨2,[(0,none)],(aC f47 1)⟩
def F48:IFn:=⟨84,[(2,some none)],(aC f48 1)⟩
def F49:IFn:=⟨65,[(2,none)],(aC f49 1)⟩
def F50:IFn:=⟨18,[(2,none)],(aC f50 1)⟩
def F51:IFn:=⟨33,[(4,none)],(aC f51 1)⟩
def F52:IFn:=⟨37,[(2,none)],(aC f52 1)⟩
def F53:IFn:=⟨24,[(2,none)],(aC f53 1)⟩
def F54:IFn:=⟨53,[(2,none)],(aC f54 1)⟩
def F55:IFn:=⟨11,[(2,none)],(aC f55 1)⟩
def F56:IFn:=⟨14,[(2,none)],(aC f56 1)⟩
def F57:IFn:=⟨34,[(4,none)],(aC f57 1)⟩
def F58:IFn:=⟨32,[(4,none)],(aC f58 1)⟩
def F59:IFn:=⟨42,[(4,none)],(aC f59 1)⟩
def F60:IFn:=⟨38,[(4,none)],(aC f60 1)⟩
def F61:IFn:=⟨43,[(4,none)],(aC f61 1)⟩
def F62:IFn:=⟨24,[(4,none)],(aC f62 1)⟩
def F63:IFn:=⟨84,[(4,none)],(aC f63 1)⟩
def F64:IFn:=⟨44,[(4,none)],(aC f64 1)⟩
def F66:IFn:=⟨19,[(4,none)],(aC f66 1)⟩
def F67:IFn:=⟨17,[(4,none)],(aC f67 1)⟩
def F68:IFn:=⟨11,[(2,none)],(aC f68 1)⟩
def F70:IFn:=⟨11,[(2,none)],(aC f70 1)⟩
def F71:IFn:=⟨19,[(2,none)],(aC f71 1)⟩
def F72:IFn:=⟨9,[(2,none)],(aC f72 1)⟩
def F73:IFn:=⟨28,[(4,none)],(aC f73 1)⟩
def F74:IFn:=⟨67,[],(aC f74 1)⟩
def F75:IFn:=⟨59,[(6,none)],(aC f75 1)⟩
def F76:IFn:=⟨4,[(2,none)],(aC f76 1)⟩
def F77:IFn:=⟨21,[(2,none)],(aC f77 1)⟩
def F78:IFn:=⟨15,[(2,none)],(aC f78 1)⟩
def F79:IFn:=⟨14,[(2,none)],(aC f79 1)⟩
def F80:IFn:=⟨11,[(2,none)],(aC f80 1)⟩
def F81:IFn:=⟨28,[(4,none)],(aC f81 1)⟩
def F82:IFn:=⟨11,[(2,none)],(aC f82 1)⟩
def F83:IFn:=⟨62,[(2,none)],(aC f83 1)⟩
def F84:IFn:=⟨113,[(2,none)],(aC f84 1)⟩
def F85:IFn:=⟨31,[(4,none),(5,none)],(aC f85 1)⟩
def F86:IFn:=⟨11,[(2,none)],(aC f86 1)⟩
def F87:IFn:=⟨11,[(2,none)],(aC f87 1)⟩
def F88:IFn:=⟨84,[(2,none)],(aC f88 1)⟩
def F89:IFn:=⟨27,[(4,some (some 5)),(5,none)],(aC f89 1)⟩
def F90:IFn:=⟨18,[(2,some (some 5)),(3,none)],(aC f90 1)⟩
def F91:IFn:=⟨92,[(4,none)],(aC f91 1)⟩
def F92:IFn:=⟨44,[(4,none),(5,none),(6,none)],(aC f92 1)⟩
def F93:IFn:=⟨58,[(8,none)],(aC f93 1)⟩
def F94:IFn:=⟨103,[(8,none)],(aC f94 1)⟩
def F95:IFn:=⟨28,[(4,none)],(aC f95 1)⟩
def F96:IFn:=⟨68,[(6,some (some 2)),(7,none)],(aC f96 1)⟩
def F97:IFn:=⟨77,[(6,some (some 2)),(7,none)],(aC f97 1)⟩
def aa3:IFn:=⟨18,[(2,none)],(aC f100 1)⟩
def aa2:IFn:=⟨20,[(4,none)],(aC f101 1)⟩
def aa1:IFn:=⟨20,[(4,none)],(aC f102 1)⟩
def aa0:IFn:=⟨11,[],(aC f104 1)⟩
def aaZ:IFn:=⟨4,[(2,none)],(aC f105 1)⟩
def aaY:IFn:=⟨9,[(2,none)],(aC f106 1)⟩
def aaX:IFn:=⟨32,[(2,none),(3,none)],(aC f107 1)⟩
def aaW:IFn:=⟨33,[(4,none)],(aC f108 1)⟩
def aaV:IFn:=⟨17,[(4,none)],(aC f109 1)⟩
def aaU:IFn:=⟨18,[],(aC f110 1)⟩
def aaT:IFn:=⟨14,[(4,none)],(aC f111 1)⟩
def aaS:IFn:=⟨39,[],(aC f112 1)⟩
def aaR:IFn:=⟨9,[],(aC f113 1)⟩
def aaQ:IFn:=⟨10,[(4,none)],(aC f114 1)⟩
def aaP:IFn:=⟨11,[(2,none)],(aC f115 1)⟩
def aaO:IFn:=⟨11,[(0,none)],(aC f116 1)⟩
def F117:IFn:=⟨80,[(8,none),(9,none)],(aC f117 1)⟩
def aaN:IFn:=⟨60,[(6,some (some 5)),(7,none)],(aC f118 1)⟩
def F119:IFn:=⟨82,[(6,none),(7,none)],(aC f119 1)⟩
def aaM:IFn:=⟨51,[(4,none)],(aC f120 1)⟩
def aaL:IFn:=⟨54,[(6,none)],(aC f121 1)⟩
def aaK:IFn:=⟨39,[(2,some (some 5)),(3,some (some 3)),(4,none)],(aC f122 1)⟩
def aaJ:IFn:=⟨18,[(2,none)],(aC f123 1)⟩
def aaI:IFn:=⟨11,[(2,none)],(aC f124 1)⟩
def aaH:IFn:=⟨30,[(6,some (some 2))],(aC f125 1)⟩
def aaG:IFn:=⟨6,[(2,none)],(aC f136 1)⟩
def aaF:IFn:=⟨6,[(2,none)],(aC f137 1)⟩
def aaE:IFn:=⟨29,[],(aC f146 1)⟩
def aaD:IFn:=⟨35,[(2,none)],(aC f147 1)⟩
def aaC:IFn:=⟨43,[(2,none)],(aC f148 1)⟩
def aaB:IFn:=⟨108,[(2,none)],(aC f149 1)⟩
def aaA:IFn:=⟨11,[(2,none)],(aC f150 1)⟩
def aaz:IFn:=⟨9,[(2,none)],(aC f151 1)⟩
def aay:IFn:=⟨63,[],(aC f152 1)⟩
def aax:IFn:=⟨27,[(6,none)],(aC f153 1)⟩
def aaw:IFn:=⟨28,[],(aC f154 1)⟩
def aav:IFn:=⟨11,[(2,none)],(aC f155 1)⟩
def aau:IFn:=⟨39,[(4,none)],(aC f156 1)⟩
def aat:IFn:=⟨11,[(2,none)],(aC f157 1)⟩
def aas:IFn:=⟨28,[],(aC f158 1)⟩
def aar:IFn:=⟨28,[],(aC f159 1)⟩
def aaq:IFn:=⟨11,[(2,none)],(aC f160 1)⟩
def F161:IFn:=⟨44,[(6,none)],(aC f161 1)⟩
def F170:IFn:=⟨70,[(4,none)],(aC f170 1)⟩
def aap:IFn:=⟨25,[(4,some (some 2))],(aC f171 1)⟩
def PY:IFn:=⟨53,[],(aC f172 1)⟩
def UG:IFn:=⟨220,[],(aC f173 1)⟩
def aao:IFn:=⟨11,[(2,none)],(aC f174 1)⟩
def aan:IFn:=⟨20,[(2,none)],(aC f175 1)⟩
def aam:IFn:=⟨33,[(4,none)],(aC f178 1)⟩
def aal:IFn:=⟨9,[(2,none)],(aC f179 1)⟩
def aak:IFn:=⟨58,[],(aC f180 1)⟩
def aaj:IFn:=⟨38,[],(aC f181 1)⟩
def fnT:Tr IFn:=.node (none) (.node (none) (.node (some F3) (.node (some F7) (.node (some F15) (.node (some F31) (.node (some F63) (.leaf) (.leaf)) (.node (some F95) (.node (some aar) (.leaf) (.leaf)) (.leaf))) (.node (some F47) (.node (some F79) (.leaf) (.leaf)) (.node (some aaT) (.node (some aan) (.leaf) (.leaf)) (.leaf)))) (.node (some F23) (.node (some F39) (.node (some F71) (.leaf) (.leaf)) (.leaf)) (.node (some F55) (.node (some F87) (.node (some aaz) (.leaf) (.leaf)) (.leaf)) (.node (some F119) (.leaf) (.leaf))))) (.node (some F11) (.node (some F19) (.node (some F35) (.node (some F67) (.leaf) (.leaf)) (.leaf)) (.node (some F51) (.node (some F83) (.node (some aaD) (.leaf) (.leaf)) (.leaf)) (.node (some aaP) (.node (some aal) (.leaf) (.leaf)) (.leaf)))) (.node (some F27) (.node (some F43) (.node (some F75) (.leaf) (.leaf)) (.node (some aaX) (.node (some aap) (.leaf) (.leaf)) (.leaf))) (.node (some F59) (.node (some F91) (.node (some aav) (.leaf) (.leaf)) (.leaf)) (.node (some aaJ) (.leaf) (.leaf)))))) (.node (some F5) (.node (some F9) (.node (some F17) (.node (some F33) (.leaf) (.node (some F97) (.node (some F161) (.leaf) (.leaf)) (.leaf))) (.node (some F49) (.node (some F81) (.leaf) (.leaf)) (.node (some aaR) (.leaf) (.leaf)))) (.node (some F25) (.node (some F41) (.node (some F73) (.node (some aaF) (.leaf) (.leaf)) (.leaf)) (.node (some aaZ) (.leaf) (.leaf))) (.node (some F57) (.node (some F89) (.node (some aax) (.leaf) (.leaf)) (.leaf)) (.node (some aaL) (.leaf) (.leaf))))) (.node (some F13) (.node (some F21) (.node (some F37) (.leaf) (.node (some aa2) (.leaf) (.leaf))) (.node (some F53) (.node (some F85) (.node (some aaB) (.leaf) (.leaf)) (.leaf)) (.node (some F117) (.node (some aaj) (.leaf) (.leaf)) (.leaf)))) (.node (some F29) (.node (some F45) (.node (some F77) (.leaf) (.leaf)) (.node (some aaV) (.node (some UG) (.leaf) (.leaf)) (.leaf))) (.node (some F61) (.node (some F93) (.node (some aat) (.leaf) (.leaf)) (.leaf)) (.node (some aaH) (.leaf) (.leaf))))))) (.node (none) (.node (some F4) (.node (some F8) (.node (some F16) (.node (some F32) (.node (some F64) (.leaf) (.leaf)) (.node (some F96) (.node (some aaq) (.leaf) (.leaf)) (.leaf))) (.node (some F48) (.node (some F80) (.leaf) (.leaf)) (.node (some aaS) (.leaf) (.leaf)))) (.node (some F24) (.node (some F40) (.node (some F72) (.node (some aaG) (.leaf) (.leaf)) (.leaf)) (.node (some aa0) (.leaf) (.leaf))) (.node (some F56) (.node (some F88) (.node (some aay) (.leaf) (.leaf)) (.leaf)) (.node (some aaM) (.leaf) (.leaf))))) (.node (some F12) (.node (some F20) (.node (some F36) (.node (some F68) (.leaf) (.leaf)) (.node (some aa3) (.leaf) (.leaf))) (.node (some F52) (.node (some F84) (.node (some aaC) (.leaf) (.leaf)) (.leaf)) (.node (some aaO) (.node (some aak) (.leaf) (.leaf)) (.leaf)))) (.node (some F28) (.node (some F44) (.node (some F76) (.leaf) (.leaf)) (.node (some aaW) (.node (some PY) (.leaf) (.leaf)) (.leaf))) (.node (some F60) (.node (some F92) (.node (some aau) (.leaf) (.leaf)) (.leaf)) (.node (some aaI) (.leaf) (.leaf)))))) (.node (some F6) (.node (some F10) (.node (some F18) (.node (some F34) (.node (some F66) (.leaf) (.leaf)) (.leaf)) (.node (some F50) (.node (some F82) (.node (some aaE) (.leaf) (.leaf)) (.leaf)) (.node (some aaQ) (.node (some aam) (.leaf) (.leaf)) (.leaf)))) (.node (some F26) (.node (some F42) (.node (some F74) (.leaf) (.leaf)) (.node (some aaY) (.node (some F170) (.leaf) (.leaf)) (.leaf))) (.node (some F58) (.node (some F90) (.node (some aaw) (.leaf) (.leaf)) (.leaf)) (.node (some aaK) (.leaf) (.leaf))))) (.node (some F14) (.node (some F22) (.node (some F38) (.node (some F70) (.leaf) (.leaf)) (.node (some aa1) (.leaf) (.leaf))) (.node (some F54) (.node (some F86) (.node (some aaA) (.leaf) (.leaf)) (.leaf)) (.node (some aaN) (.leaf) (.leaf)))) (.node (some F30) (.node (some F46) (.node (some F78) (.leaf) (.leaf)) (.node (some aaU) (.node (some aao) (.leaf) (.leaf)) (.leaf))) (.node (some F62) (.node (some F94) (.node (some aas) (.leaf) (.leaf)) (.leaf)) (.leaf))))))
def tabs:List (List Int):=[[-1,1]]
def E0:Env:={fns:=fnT.get,sums:=λf=>if f=27 then some (lI prog 1 27 YC) else none,g0:=1}
theorem XL:E0.g0=1:=rfl
theorem bG:Ux E0:=by intro f s hs args lo H v H' h;have q:(if f=27 then some (lI prog 1 27 YC) else none)=some s:=hs;split at q;{injection q with q;subst q;exact Fi h};{cases q}
section
variable {lo:Nat}{rd:Option Nat}{fr:Fr}{H:Heap}{Q:A1}{args:List IV}
theorem rH{c:IC}{l:List (Sg×List IOp)}(h:c=.ops l){lo:Nat}{rd:Option Nat}{fr:Fr}{H:Heap}{Q:A1}:W E0 lo (.code c rd fr) H Q=W E0 lo (.segs l rd fr) H Q:=by subst h;exact XV
def bi(f:Func)(p:Nat){c:(Nat->IC)->(Nat->IC)->IC}(h:∀g k,XI f p g k=c g k:=by intro g k;cbv):aC f p=c (eE f) (sF f):=h _ _
def du(f:Func)(p:Nat){c:(Nat->IC)->(Nat->IC)->IC}(h:∀g k,XI f p g k=c g k:=by intro g k;cbv):sF f p=c (eE f) (Ib f):=h _ _
def Gj(f:Func)(p:Nat){c:(Nat->IC)->(Nat->IC)->IC}(h:∀g k,XI f p g k=c g k:=by intro g k;cbv):Ib f p=c (eE f) (lb3 f):=h _ _
def ru3(f:Func)(p:Nat){c:(Nat->IC)->(Nat->IC)->IC}(h:∀g k,XI f p g k=c g k:=by intro g k;cbv):lb3 f p=c (eE f) (λ_=>.skip):=h _ _
theorem acN{P:Program}{o:Array Oper}{d:Bool}(h:oR0 P o d=true):dq P o d=cR0 P o d:=by unfold dq cR0;unfold oR0 at h;cases e:o.toList.mapM (i6 P o) with|none=>rfl|some l=>(rw[e] at h;cases d with|false=>rfl|true=>(simp only[Bool.not_true,pR,bW] at h;obtain⟨⟨⟨a,b⟩,c⟩,d⟩:=h;simp[a,b,c,d]))
theorem aeQ{f:Func}{p:Nat}(h:oP0 f p=true):eE f p=gR0 f p:=by unfold oP0 at h;unfold eE gR0;cases e:f.body with|none=>rfl|some c=>(rw[e] at h;simp only at h ⊢;cases q:pj0 64 p c with|region a o d=>(rw[q] at h;simp only at h ⊢;rw[<-acN h];rfl)|_=>(rw[q] at h;cases h))
def ab(f:Func)(p:Nat){l:List (Sg×List IOp)}(h:gR0 f p=.ops l:=by cbv)(k:oP0 f p=true:=by kernel_rfl)(lo:Nat)(rd:Option Nat)(fr:Fr)(H:Heap)(Q:A1):W E0 lo (.code (eE f p) rd fr) H Q=W E0 lo (.segs l rd fr) H Q:=rH ((aeQ k).trans h)
def j_(f:Func)(p:Nat){l:List (Sg×List IOp)}{q:Prop}(zz:q)(h:gR0 f p=.ops l:=by cbv)(k:oP0 f p=true:=by kernel_rfl):=J0 (ab f p h k) zz
abbrev Wc(n:Nat)(f:IFn)(b:IC):Prop:=∀{lo:Nat}{H:Heap}{Q:A1}{args:List IV},W E0 lo (.call n args) H Q=W E0 lo (.code b none ⟨args++dV (f.ntmps - args.length),[]⟩) H (mF lo f.results Q)
def P7:=J0 (@rH X6 _ rfl)<|J0 (@rH X5 _ rfl)<|J0 (@rH X4 _ rfl)<|J0 (@rH X3 _ rfl)<|J0 (@rH X2 _ rfl)<|J0 (@rH X0 _ rfl)<|J0 (@rH UB _ rfl)<|J0 (@rH UA _ rfl)<|J0 (@rH XZ _ rfl)<|J0 (@rH UE _ rfl)<|J0 (@rH UD _ rfl)<|J0 (@rH UC _ rfl)<|J0 (@rH LS _ rfl)<|J0 (@rH Gd _ rfl)<|J0 (@rH Gc _ rfl)<|J0 aai.eq_1 (F27.eq_1)
def W8:=J0 P7<|J0 UF.eq_1 (Ge.eq_1)
theorem c27{H':Heap}{v:IV}(q:YC args H=some (v,H'))(E:Keep lo H H')(hs:CallSim prog 1 27 args lo H v H')(h:Q (.val v) H'):W E0 lo (.call 27 args) H Q:=ac5 (s:=lI prog 1 27 YC) rfl (xo q E hs) h
end
end
end Go.Iso.Gen
