/-
  the code that the claim reaches, for the evaluator.
-/
import Derived.Test.YtagpgnldjjmhkacGreatDoorIsoP5
import Derived.Test.YtagpgnldjjmhkacGreatDoorIsoP7
import Derived.Test.YtagpgnldjjmhkacGreatDoorFnZ
import Derived.Test.YtagpgnldjjmhkacGreatDoorProg
import Derived.KernelRfl
set_option linter.unusedSimpArgs false
set_option linter.unusedVariables false
set_option maxRecDepth 100000
set_option maxHeartbeats 4000000
set_option linter.defProp false
namespace Go.Iso.Gen
open Go.Proofs Go.Proofs.Tryz
noncomputable section
def PgT:Program:=⟨Tryz.progTables,#[]⟩
def aeA(b:Bool):Code->Code|.seq a c=>if b then c else a|.cond _ a c=>if b then c else a|.block _ a=>a|.loop a=>a|.scope a=>a|.rangeFunc _ _ a c=>if b then c else a|c=>c
def pj0:Nat->Nat->Code->Code|0,_,c=>c|n+1,p,c=>if p<=1 then c else pj0 n (p / 2) (aeA (p%2==1) c)
def du(f:Func)(p:Nat):IC:=match f.body with|some c=>(be PgT (pj0 64 p c)).getD .skip|none=>.skip
def Mg(f:Func)(p:Nat)(c:IC)(_:du f p=c):IC:=c
def kk0(k:Nat->IC)(p:Nat):IC:=k p
def Vu(g k:Nat->IC):Code->Nat->Nat->IC|.region _ _ _,p,_=>g p|.seq a b,p,w=>.seq (Vu g k a (p+w) (2*w)) (Vu g k b (p+2*w) (2*w))|.cond c a b,p,w=>.cond ((ny c).getD (.tmp 0)) (Vu g k a (p+w) (2*w)) (Vu g k b (p+2*w) (2*w))|.block id c,p,w=>.block id (Vu g k c (p+w) (2*w))|.scope c,p,w=>.scope (Vu g k c (p+w) (2*w))|.loop _,p,w=>.loop (kk0 k (p+w))|.rangeFunc f q a b,p,w=>.rfn ((ny f).getD (.tmp 0)) q.toList (Vu g k a (p+w) (2*w)) (Vu g k b (p+2*w) (2*w))|.exit id,_,_=>.exit id|.ret,_,_=>.ret|_,_,_=>.skip
def wb0:Nat->Nat->Nat->Nat|0,_,w=>w|n+1,p,w=>if p<=1 then w else wb0 n (p/2) (2*w)
def XL(f:Func)(p:Nat)(g k:Nat->IC):IC:=match f.body with|some c=>Vu g k (pj0 64 p c) p (wb0 64 p 1)|none=>.skip
def cR0(P:Program)(o:Array Oper)(d:Bool):Option (List (Sg×List IOp)):=(o.toList.mapM (il P o)).map λl=>if d then parts (fA o.toList []) (iH (fA o.toList []) l l 0) 0 [] else [(.seq,l)]
def oR0(P:Program)(o:Array Oper)(d:Bool):Bool:=match o.toList.mapM (il P o) with|some l=>!d||(uC o&&EX o.toList 0&&pQ (fA o.toList []) (iH (fA o.toList []) l l 0) 0&&lP (fA o.toList []) (iH (fA o.toList []) l l 0) 0)|none=>true
def gR0(f:Func)(p:Nat):IC:=match f.body with|some c=>(match pj0 64 p c with|.region _ o d=>((cR0 PgT o d).map .ops).getD .skip|_=>.skip)|none=>.skip
def oP0(f:Func)(p:Nat):Bool:=match f.body with|some c=>(match pj0 64 p c with|.region _ o d=>oR0 PgT o d|_=>false)|none=>false
def lb3(f:Func)(p:Nat):IC:=XL f p (du f) (λ_=>.skip)
def G5(f:Func)(p:Nat):IC:=XL f p (du f) (lb3 f)
def qF(f:Func)(p:Nat):IC:=XL f p (du f) (G5 f)
def ay(f:Func)(p:Nat):IC:=XL f p (du f) (qF f)
theorem J0{a b:Prop}(h:a)(k:b):a/\b:=⟨h,k⟩
def F3:IFn:=⟨72,[(4,none)],(ay f3 1)⟩
def F4:IFn:=⟨86,[(2,none)],(ay f4 1)⟩
def F5:IFn:=⟨34,[(2,none)],(ay f5 1)⟩
def F6:IFn:=⟨77,[(2,none)],(ay f6 1)⟩
def F7:IFn:=⟨24,[(4,none)],(ay f7 1)⟩
def F8:IFn:=⟨21,[(4,some (some 3))],(ay f8 1)⟩
def F9:IFn:=⟨109,[(0,none)],(ay f9 1)⟩
def F10:IFn:=⟨62,[(2,none)],(ay f10 1)⟩
def F11:IFn:=⟨47,[(4,some (some 8)),(5,none),(6,none)],(ay f11 1)⟩
def F12:IFn:=⟨4,[(0,some (some 8))],(ay f12 1)⟩
def F13:IFn:=⟨81,[(4,none)],(ay f13 1)⟩
def F14:IFn:=⟨18,[(2,none)],(ay f14 1)⟩
def F15:IFn:=⟨4,[(2,none)],(ay f15 1)⟩
def F16:IFn:=⟨15,[(2,none)],(ay f16 1)⟩
def F17:IFn:=⟨25,[(4,none)],(ay f17 1)⟩
def F18:IFn:=⟨12,[(6,some (some 6))],(ay f18 1)⟩
def F19:IFn:=⟨143,[(2,none),(3,none)],(ay f19 1)⟩
def F20:IFn:=⟨42,[(2,none),(3,none)],(ay f20 1)⟩
def F21:IFn:=⟨33,[(4,none)],(ay f21 1)⟩
def F22:IFn:=⟨22,[(4,none)],(ay f22 1)⟩
def F23:IFn:=⟨27,[(4,some (some 8)),(5,none)],(ay f23 1)⟩
def F24:IFn:=⟨73,[(4,some (some 6))],(ay f24 1)⟩
def F25:IFn:=⟨76,[(2,none)],(ay f25 1)⟩
def F26:IFn:=⟨56,[(2,none)],(ay f26 1)⟩
def F27:IFn:=⟨3,[(0,none)],(ay f27 1)⟩
def F28:IFn:=⟨20,[(6,none)],(ay f28 1)⟩
def Ya:=Mg f29 2 _ (by cbv)
def X9:=Mg f29 5 _ (by cbv)
def X8:=Mg f29 19 _ (by cbv)
def X7:=Mg f29 139 _ (by cbv)
def X6:=Mg f29 1227 _ (by cbv)
def X5:=Mg f29 1739 _ (by cbv)
def UH:IC:=.seq (X7) (.seq (.cond (.tmp 21) (.skip) (.exit 0)) (.block 1 (.seq (X6) (X5))))
def UD:=Mg f29 23 _ (by cbv)
def UC:=Mg f29 79 _ (by cbv)
def X4:=Mg f29 559 _ (by cbv)
def UG:=Mg f29 9007 _ (by cbv)
def UF:=Mg f29 13103 _ (by cbv)
def UE:=Mg f29 3887 _ (by cbv)
def Fo:IC:=.seq (X4) (.seq (.cond (.tmp 42) (.skip) (.exit 2)) (.seq (.block 3 (.seq (UG) (UF))) (UE)))
def Ld:=Mg f29 95 _ (by cbv)
def Fn:IC:=.ops [(.free,[⟨some 60,.move,[.tmp 0],none,false,0,0⟩,⟨some 61,.nilCheck,[.tmp 60],none,false,1,1⟩,⟨some 62,.fieldAddr 4,[.tmp 61],none,false,2,3⟩,⟨some 63,.load none,[.tmp 62],none,false,3,7⟩,⟨some 64,.move,[.tmp 3],none,false,4,0⟩,⟨some 65,.call,[.val (.fn 67 [] []),.tmp 64],none,false,5,16⟩,⟨some 66,.move,[.tmp 0],none,false,6,0⟩,⟨some 67,.nilCheck,[.tmp 66],none,false,7,64⟩,⟨some 68,.fieldAddr 1,[.tmp 67],none,false,8,192⟩,⟨some 69,.load (some 2),[.tmp 68],none,false,9,448⟩,⟨some 70,.move,[.tmp 0],none,false,10,0⟩,⟨some 71,.nilCheck,[.tmp 70],none,false,11,1024⟩,⟨some 72,.fieldAddr 0,[.tmp 71],none,false,12,3072⟩,⟨some 73,.load none,[.tmp 72],none,false,13,7168⟩,⟨some 74,.call,[.val (.fn 49 [] []),.tmp 69,.tmp 73],none,false,14,16368⟩,⟨some 75,.move,[.tmp 0],none,false,15,0⟩,⟨some 76,.nilCheck,[.tmp 75],none,false,16,32768⟩,⟨some 77,.fieldAddr 6,[.tmp 76],none,false,17,98304⟩,⟨some 78,.load none,[.tmp 77],none,false,18,229376⟩,⟨some 79,.call,[.val (.fn 53 [] []),.tmp 78],none,false,19,524272⟩,⟨some 80,.build [.nilSlice,.nilSlice,.nilSlice,.nilSlice] [(0,1),(1,1),(2,1),(3,1)],[.tmp 63,.tmp 65,.tmp 74,.tmp 79],none,false,20,1048575⟩,⟨some 8,.alloc 45 4 [.nilSlice,.nilSlice,.nilSlice,.nilSlice],[],none,false,21,0⟩]),(.seq,[⟨none,.store 4,[.tmp 8,.tmp 80],none,true,22,4194303⟩])]
def Fm:=Mg f29 383 _ (by cbv)
def aad:IC:=.seq (Ya) (.seq (X9) (.seq (.seq (X8) (.block 0 (.loop UH))) (.seq (UD) (.seq (.seq (UC) (.block 2 (.loop Fo))) (.seq (Ld) (.seq (Fn) (.seq (Fm) (.ret))))))))
def F29:IFn:=⟨95,[(2,some (some 8))],aad⟩
def F30:IFn:=⟨3,[(0,some (some 4))],(ay f30 1)⟩
def F31:IFn:=⟨14,[(2,none)],(ay f31 1)⟩
def F32:IFn:=⟨67,[],(ay f32 1)⟩
def F33:IFn:=⟨59,[(6,none)],(ay f33 1)⟩
def F34:IFn:=⟨19,[(2,none)],(ay f34 1)⟩
def F35:IFn:=⟨9,[(2,none)],(ay f35 1)⟩
def F36:IFn:=⟨38,[(2,none),(3,none)],(ay f36 1)⟩
def F37:IFn:=⟨49,[(4,none)],(ay f37 1)⟩
def F38:IFn:=⟨21,[(3,none)],(ay f38 1)⟩
def F39:IFn:=⟨24,[(4,none)],(ay f39 1)⟩
def F40:IFn:=⟨33,[(6,none)],(ay f40 1)⟩
def F41:IFn:=⟨25,[(4,some (some 3))],(ay f41 1)⟩
def F42:IFn:=⟨54,[(4,none),(5,none)],(ay f42 1)⟩
def F44:IFn:=⟨70,[(2,none),(3,none),(4,none)],(ay f44 1)⟩
def F45:IFn:=⟨84,[(2,some none)],(ay f45 1)⟩
def F46:IFn:=⟨65,[(2,none)],(ay f46 1)⟩
def F47:IFn:=⟨18,[(2,none)],(ay f47 1)⟩
def F48:IFn:=⟨26,[(4,none)],(ay f48 1)⟩
def F49:IFn:=⟨33,[(4,none)],(ay f49 1)⟩
def F50:IFn:=⟨37,[(2,none)],(ay f50 1)⟩
def F51:IFn:=⟨24,[(2,none)],(ay f51 1)⟩
def F52:IFn:=⟨53,[(2,none)],(ay f52 1)⟩
def F53:IFn:=⟨11,[(2,none)],(ay f53 1)⟩
def F54:IFn:=⟨34,[(4,none)],(ay f54 1)⟩
def F55:IFn:=⟨32,[(4,none)],(ay f55 1)⟩
def F56:IFn:=⟨42,[(4,none)],(ay f56 1)⟩
def F57:IFn:=⟨38,[(4,none)],(ay f57 1)⟩
def F58:IFn:=⟨43,[(4,none)],(ay f58 1)⟩
def F59:IFn:=⟨24,[(4,none)],(ay f59 1)⟩
def F60:IFn:=⟨84,[(4,none)],(ay f60 1)⟩
def F61:IFn:=⟨44,[(4,none)],(ay f61 1)⟩
def F63:IFn:=⟨19,[(4,none)],(ay f63 1)⟩
def F64:IFn:=⟨17,[(4,none)],(ay f64 1)⟩
def F65:IFn:=⟨11,[(2,none)],(ay f65 1)⟩
def F67:IFn:=⟨11,[(2,none)],(ay f67 1)⟩
def F68:IFn:=⟨2,[(0,none)],(ay f68 1)⟩
def F69:IFn:=⟨84,[(2,none)],(ay f69 1)⟩
def F70:IFn:=⟨53,[(4,some (some 6))],(ay f70 1)⟩
def F71:IFn:=⟨25,[(4,none)],(ay f71 1)⟩
def F72:IFn:=⟨23,[(2,none)],(ay f72 1)⟩
def F73:IFn:=⟨17,[(4,none)],(ay f73 1)⟩
def F74:IFn:=⟨6,[(2,none)],(ay f74 1)⟩
def F77:IFn:=⟨8,[(2,none)],(ay f77 1)⟩
def F78:IFn:=⟨115,[(2,none)],(ay f78 1)⟩
def F79:IFn:=⟨7,[(0,some (some 10))],(ay f79 1)⟩
def F80:IFn:=⟨51,[(8,none),(9,none)],(ay f80 1)⟩
def F81:IFn:=⟨45,[(4,none)],(ay f81 1)⟩
def F82:IFn:=⟨9,[(2,none)],(ay f82 1)⟩
def F83:IFn:=⟨4,[(2,none)],(ay f83 1)⟩
def F84:IFn:=⟨21,[(2,none)],(ay f84 1)⟩
def F85:IFn:=⟨15,[(2,none)],(ay f85 1)⟩
def F86:IFn:=⟨14,[(2,none)],(ay f86 1)⟩
def F87:IFn:=⟨11,[(2,none)],(ay f87 1)⟩
def F88:IFn:=⟨28,[(4,none)],(ay f88 1)⟩
def F89:IFn:=⟨11,[(2,none)],(ay f89 1)⟩
def F90:IFn:=⟨62,[(2,none)],(ay f90 1)⟩
def F91:IFn:=⟨113,[(2,none)],(ay f91 1)⟩
def F92:IFn:=⟨31,[(4,none),(5,none)],(ay f92 1)⟩
def F93:IFn:=⟨11,[(2,none)],(ay f93 1)⟩
def F94:IFn:=⟨11,[(2,none)],(ay f94 1)⟩
def F95:IFn:=⟨27,[(4,some (some 5)),(5,none)],(ay f95 1)⟩
def F96:IFn:=⟨18,[(2,some (some 5)),(3,none)],(ay f96 1)⟩
def F97:IFn:=⟨92,[(4,none)],(ay f97 1)⟩
def F98:IFn:=⟨44,[(4,none),(5,none),(6,none)],(ay f98 1)⟩
def F99:IFn:=⟨58,[(8,none)],(ay f99 1)⟩
def aa9:IFn:=⟨103,[(8,none)],(ay f100 1)⟩
def aa8:IFn:=⟨28,[(4,none)],(ay f101 1)⟩
def aa7:IFn:=⟨33,[(4,some (some 2)),(5,none)],(ay f102 1)⟩
def F103:IFn:=⟨68,[(6,some (some 2)),(7,none)],(ay f103 1)⟩
def aa6:IFn:=⟨77,[(6,some (some 2)),(7,none)],(ay f104 1)⟩
def aa5:IFn:=⟨18,[(2,none)],(ay f107 1)⟩
def aa4:IFn:=⟨20,[(4,none)],(ay f108 1)⟩
def aa3:IFn:=⟨20,[(4,none)],(ay f109 1)⟩
def aa2:IFn:=⟨11,[(0,none)],(ay f111 1)⟩
def F112:IFn:=⟨82,[(4,some (some 6))],(ay f112 1)⟩
def aa1:IFn:=⟨6,[(2,none)],(ay f113 1)⟩
def aa0:IFn:=⟨28,[(6,none)],(ay f115 1)⟩
def aaZ:IFn:=⟨31,[(6,none)],(ay f116 1)⟩
def aaY:IFn:=⟨67,[(6,none)],(ay f117 1)⟩
def aaX:IFn:=⟨91,[(6,none)],(ay f118 1)⟩
def W8:IFn:=⟨41,[(6,none)],(ay f119 1)⟩
def aaW:IFn:=⟨33,[(6,none)],(ay f120 1)⟩
def aaV:IFn:=⟨33,[(6,none)],(ay f121 1)⟩
def aaU:IFn:=⟨11,[],(ay f122 1)⟩
def aaT:IFn:=⟨4,[(2,none)],(ay f123 1)⟩
def aaS:IFn:=⟨9,[(2,none)],(ay f124 1)⟩
def aaR:IFn:=⟨32,[(2,none),(3,none)],(ay f125 1)⟩
def aaQ:IFn:=⟨33,[(4,none)],(ay f126 1)⟩
def aaP:IFn:=⟨17,[(4,none)],(ay f127 1)⟩
def aaO:IFn:=⟨18,[],(ay f128 1)⟩
def aaN:IFn:=⟨14,[(4,none)],(ay f129 1)⟩
def aaM:IFn:=⟨39,[],(ay f130 1)⟩
def aaL:IFn:=⟨9,[],(ay f131 1)⟩
def aaK:IFn:=⟨10,[(4,none)],(ay f132 1)⟩
def aaJ:IFn:=⟨11,[(2,none)],(ay f133 1)⟩
def F134:IFn:=⟨80,[(8,none),(9,none)],(ay f134 1)⟩
def aaI:IFn:=⟨60,[(6,some (some 5)),(7,none)],(ay f135 1)⟩
def F136:IFn:=⟨82,[(6,none),(7,none)],(ay f136 1)⟩
def aaH:IFn:=⟨51,[(4,none)],(ay f137 1)⟩
def aaG:IFn:=⟨54,[(6,none)],(ay f138 1)⟩
def aaF:IFn:=⟨39,[(2,some (some 5)),(3,some (some 3)),(4,none)],(ay f139 1)⟩
def aaE:IFn:=⟨18,[(2,none)],(ay f140 1)⟩
def aaD:IFn:=⟨11,[(2,none)],(ay f141 1)⟩
def aaC:IFn:=⟨30,[(6,some (some 2))],(ay f142 1)⟩
def aaB:IFn:=⟨6,[(2,none)],(ay f153 1)⟩
def W7:IFn:=⟨28,[(4,none)],(ay f163 1)⟩
def aaA:IFn:=⟨29,[],(ay f164 1)⟩
def aaz:IFn:=⟨35,[(2,none)],(ay f165 1)⟩
def aay:IFn:=⟨43,[(2,none)],(ay f166 1)⟩
def aax:IFn:=⟨108,[(2,none)],(ay f167 1)⟩
def aaw:IFn:=⟨11,[(2,none)],(ay f168 1)⟩
def aav:IFn:=⟨9,[(2,none)],(ay f169 1)⟩
def aau:IFn:=⟨63,[],(ay f170 1)⟩
def aat:IFn:=⟨27,[(6,none)],(ay f171 1)⟩
def aas:IFn:=⟨28,[],(ay f172 1)⟩
def aar:IFn:=⟨11,[(2,none)],(ay f173 1)⟩
def aaq:IFn:=⟨39,[(4,none)],(ay f174 1)⟩
def aap:IFn:=⟨11,[(2,none)],(ay f175 1)⟩
def aao:IFn:=⟨28,[],(ay f176 1)⟩
def aan:IFn:=⟨28,[],(ay f177 1)⟩
def aam:IFn:=⟨11,[(2,none)],(ay f178 1)⟩
def F179:IFn:=⟨44,[(6,none)],(ay f179 1)⟩
def F188:IFn:=⟨70,[(4,none)],(ay f188 1)⟩
def aal:IFn:=⟨25,[(4,some (some 2))],(ay f189 1)⟩
def aak:IFn:=⟨53,[],(ay f190 1)⟩
def UI:IFn:=⟨220,[],(ay f191 1)⟩
def aaj:IFn:=⟨11,[(2,none)],(ay f192 1)⟩
def aai:IFn:=⟨20,[(2,none)],(ay f193 1)⟩
def aah:IFn:=⟨33,[(4,none)],(ay f196 1)⟩
def aag:IFn:=⟨9,[(2,none)],(ay f197 1)⟩
def aaf:IFn:=⟨58,[],(ay f198 1)⟩
def aae:IFn:=⟨38,[],(ay f199 1)⟩
def fnT:Tr IFn:=.node (none) (.node (none) (.node (some F3) (.node (some F7) (.node (some F15) (.node (some F31) (.node (some F63) (.node (some aaP) (.leaf) (.leaf)) (.node (some UI) (.leaf) (.leaf))) (.node (some F95) (.leaf) (.leaf))) (.node (some F47) (.node (some F79) (.leaf) (.leaf)) (.node (some aa2) (.node (some aap) (.leaf) (.leaf)) (.leaf)))) (.node (some F23) (.node (some F39) (.node (some F71) (.node (some aaI) (.leaf) (.leaf)) (.node (some aae) (.leaf) (.leaf))) (.node (some F103) (.node (some aax) (.leaf) (.leaf)) (.leaf))) (.node (some F55) (.node (some F87) (.leaf) (.leaf)) (.node (some W8) (.leaf) (.leaf))))) (.node (some F11) (.node (some F19) (.node (some F35) (.node (some F67) (.node (some aaL) (.leaf) (.leaf)) (.leaf)) (.node (some F99) (.node (some W7) (.leaf) (.leaf)) (.leaf))) (.node (some F51) (.node (some F83) (.leaf) (.leaf)) (.node (some aa0) (.node (some F179) (.leaf) (.leaf)) (.leaf)))) (.node (some F27) (.node (none) (.node (none) (.node (some aaF) (.leaf) (.leaf)) (.leaf)) (.node (some aa5) (.node (some aat) (.leaf) (.leaf)) (.leaf))) (.node (some F59) (.node (some F91) (.leaf) (.leaf)) (.node (some aaT) (.leaf) (.leaf)))))) (.node (some F5) (.node (some F9) (.node (some F17) (.node (some F33) (.node (some F65) (.node (some aaN) (.leaf) (.leaf)) (.node (some aai) (.leaf) (.leaf))) (.node (some F97) (.leaf) (.leaf))) (.node (some F49) (.node (some F81) (.leaf) (.leaf)) (.node (some aa1) (.node (some aan) (.leaf) (.leaf)) (.leaf)))) (.node (some F25) (.node (some F41) (.node (some F73) (.node (some aaH) (.leaf) (.leaf)) (.leaf)) (.node (none) (.node (some aav) (.leaf) (.leaf)) (.leaf))) (.node (some F57) (.node (some F89) (.node (some aaB) (.leaf) (.leaf)) (.leaf)) (.node (some aaV) (.leaf) (.leaf))))) (.node (some F13) (.node (some F21) (.node (some F37) (.node (some F69) (.node (some aaJ) (.leaf) (.leaf)) (.node (some aag) (.leaf) (.leaf))) (.node (some aa8) (.node (some aaz) (.leaf) (.leaf)) (.leaf))) (.node (some F53) (.node (some F85) (.leaf) (.leaf)) (.node (some aaY) (.leaf) (.leaf)))) (.node (some F29) (.node (some F45) (.node (some F77) (.node (some aaD) (.leaf) (.leaf)) (.leaf)) (.node (some aa3) (.node (some aar) (.leaf) (.leaf)) (.leaf))) (.node (some F61) (.node (some F93) (.leaf) (.leaf)) (.node (some aaR) (.node (some aal) (.leaf) (.leaf)) (.leaf))))))) (.node (none) (.node (some F4) (.node (some F8) (.node (some F16) (.node (some F32) (.node (some F64) (.node (some aaO) (.leaf) (.leaf)) (.node (some aaj) (.leaf) (.leaf))) (.node (some F96) (.leaf) (.leaf))) (.node (some F48) (.node (some F80) (.leaf) (.leaf)) (.node (some F112) (.node (some aao) (.leaf) (.leaf)) (.leaf)))) (.node (some F24) (.node (some F40) (.node (some F72) (.node (some F136) (.leaf) (.leaf)) (.leaf)) (.node (some aa6) (.node (some aaw) (.leaf) (.leaf)) (.leaf))) (.node (some F56) (.node (some F88) (.leaf) (.leaf)) (.node (some aaW) (.leaf) (.leaf))))) (.node (some F12) (.node (some F20) (.node (some F36) (.node (some F68) (.node (some aaK) (.leaf) (.leaf)) (.node (some aah) (.leaf) (.leaf))) (.node (some aa9) (.node (some aaA) (.leaf) (.leaf)) (.leaf))) (.node (some F52) (.node (some F84) (.leaf) (.leaf)) (.node (some aaZ) (.leaf) (.leaf)))) (.node (some F28) (.node (some F44) (.node (none) (.node (some aaE) (.leaf) (.leaf)) (.leaf)) (.node (some aa4) (.node (some aas) (.leaf) (.leaf)) (.leaf))) (.node (some F60) (.node (some F92) (.leaf) (.leaf)) (.node (some aaS) (.node (some F188) (.leaf) (.leaf)) (.leaf)))))) (.node (some F6) (.node (some F10) (.node (some F18) (.node (some F34) (.node (none) (.node (some aaM) (.leaf) (.leaf)) (.leaf)) (.node (some F98) (.leaf) (.leaf))) (.node (some F50) (.node (some F82) (.leaf) (.leaf)) (.node (none) (.node (some aam) (.leaf) (.leaf)) (.leaf)))) (.node (some F26) (.node (some F42) (.node (some F74) (.node (some aaG) (.leaf) (.leaf)) (.leaf)) (.node (none) (.node (some aau) (.leaf) (.leaf)) (.leaf))) (.node (some F58) (.node (some F90) (.leaf) (.leaf)) (.node (some aaU) (.leaf) (.leaf))))) (.node (some F14) (.node (some F22) (.node (some F38) (.node (some F70) (.node (some F134) (.leaf) (.leaf)) (.node (some aaf) (.leaf) (.leaf))) (.node (some aa7) (.node (some aay) (.leaf) (.leaf)) (.leaf))) (.node (some F54) (.node (some F86) (.leaf) (.leaf)) (.node (some aaX) (.leaf) (.leaf)))) (.node (some F30) (.node (some F46) (.node (some F78) (.node (some aaC) (.leaf) (.leaf)) (.leaf)) (.node (none) (.node (some aaq) (.leaf) (.leaf)) (.leaf))) (.node (none) (.node (some F94) (.leaf) (.leaf)) (.node (some aaQ) (.node (some aak) (.leaf) (.leaf)) (.leaf)))))))
def tabs:List (List Int):=[[-1,1]]
def E0:Env:={fns:=fnT.get,sums:=λf=>if f=29 then some (fT prog 1 29 YB) else if f=43 then some (fT prog 1 43 Kw) else none,g0:=1}
theorem XP:E0.g0=1:=rfl
theorem aX:Uy E0:=by intro f s hs args lo H v H' h;have q:(if f=29 then some (fT prog 1 29 YB) else if f=43 then some (fT prog 1 43 Kw) else none)=some s:=hs;split at q;{injection q with q;subst q;exact tN h};split at q;{injection q with q;subst q;exact tN h};{cases q}
section
variable {lo:Nat}{rd:Option Nat}{fr:Fr}{H:Heap}{Q:AP}{args:List IV}
theorem qE{c:IC}{l:List (Sg×List IOp)}(h:c=.ops l){lo:Nat}{rd:Option Nat}{fr:Fr}{H:Heap}{Q:AP}:W E0 lo (.code c rd fr) H Q=W E0 lo (.segs l rd fr) H Q:=by subst h;exact X1
def aU(f:Func)(p:Nat){c:(Nat->IC)->(Nat->IC)->IC}(h:∀g k,XL f p g k=c g k:=by intro g k;cbv):ay f p=c (du f) (qF f):=h _ _
def cH(f:Func)(p:Nat){c:(Nat->IC)->(Nat->IC)->IC}(h:∀g k,XL f p g k=c g k:=by intro g k;cbv):qF f p=c (du f) (G5 f):=h _ _
def DP(f:Func)(p:Nat){c:(Nat->IC)->(Nat->IC)->IC}(h:∀g k,XL f p g k=c g k:=by intro g k;cbv):G5 f p=c (du f) (lb3 f):=h _ _
def ru3(f:Func)(p:Nat){c:(Nat->IC)->(Nat->IC)->IC}(h:∀g k,XL f p g k=c g k:=by intro g k;cbv):lb3 f p=c (du f) (λ_=>.skip):=h _ _
theorem acV{P:Program}{o:Array Oper}{d:Bool}(h:oR0 P o d=true):cR P o d=cR0 P o d:=by unfold cR cR0;unfold oR0 at h;cases e:o.toList.mapM (il P o) with|none=>rfl|some l=>(rw[e] at h;cases d with|false=>rfl|true=>(simp only[Bool.not_true,yO,bT] at h;obtain⟨⟨⟨a,b⟩,c⟩,d⟩:=h;simp[a,b,c,d]))
theorem aeX{f:Func}{p:Nat}(h:oP0 f p=true):du f p=gR0 f p:=by unfold oP0 at h;unfold du gR0;cases e:f.body with|none=>rfl|some c=>(rw[e] at h;simp only at h ⊢;cases q:pj0 64 p c with|region a o d=>(rw[q] at h;simp only at h ⊢;rw[<-acV h];rfl)|_=>(rw[q] at h;cases h))
def ab(f:Func)(p:Nat){l:List (Sg×List IOp)}(h:gR0 f p=.ops l:=by cbv)(k:oP0 f p=true:=by kernel_rfl)(lo:Nat)(rd:Option Nat)(fr:Fr)(H:Heap)(Q:AP):W E0 lo (.code (du f p) rd fr) H Q=W E0 lo (.segs l rd fr) H Q:=qE ((aeX k).trans h)
def j_(f:Func)(p:Nat){l:List (Sg×List IOp)}{q:Prop}(zz:q)(h:gR0 f p=.ops l:=by cbv)(k:oP0 f p=true:=by kernel_rfl):=J0 (ab f p h k) zz
abbrev Wc(n:Nat)(f:IFn)(b:IC):Prop:=∀{lo:Nat}{H:Heap}{Q:AP}{args:List IV},W E0 lo (.call n args) H Q=W E0 lo (.code b none ⟨args++dt (f.ntmps - args.length),[]⟩) H (jo lo f.results Q)
def Yg:=J0 (@qE Ya _ rfl)<|J0 (@qE X9 _ rfl)<|J0 (@qE X8 _ rfl)<|J0 (@qE X7 _ rfl)<|J0 (@qE X6 _ rfl)<|J0 (@qE X5 _ rfl)<|J0 (@qE UD _ rfl)<|J0 (@qE UC _ rfl)<|J0 (@qE X4 _ rfl)<|J0 (@qE UG _ rfl)<|J0 (@qE UF _ rfl)<|J0 (@qE UE _ rfl)<|J0 (@qE Ld _ rfl)<|J0 (@qE Fn _ rfl)<|J0 (@qE Fm _ rfl)<|J0 aad.eq_1 (F29.eq_1)
def Xf:=J0 Yg<|J0 UH.eq_1 (Fo.eq_1)
theorem c29{H':Heap}{v:IV}(q:YB args H=some (v,H'))(A:Keep lo H H')(hs:CallSim prog 1 29 args lo H v H')(h:Q (.val v) H'):W E0 lo (.call 29 args) H Q:=X0 (s:=fT prog 1 29 YB) rfl (pq q A hs) h
theorem c43{H':Heap}{v:IV}(q:Kw args H=some (v,H'))(A:Keep lo H H')(hs:CallSim prog 1 43 args lo H v H')(h:Q (.val v) H'):W E0 lo (.call 43 args) H Q:=X0 (s:=fT prog 1 43 Kw) rfl (pq q A hs) h
end
end
end Go.Iso.Gen
