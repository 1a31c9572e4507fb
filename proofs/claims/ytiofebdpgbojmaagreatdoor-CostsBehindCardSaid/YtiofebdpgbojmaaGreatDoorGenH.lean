/-
  the code that the claim reaches, for the evaluator.
-/
import Derived.Test.YtiofebdpgbojmaaGreatDoorIsoP5
import Derived.Test.YtiofebdpgbojmaaGreatDoorIsoP7
import Derived.Test.YtiofebdpgbojmaaGreatDoorFnZ
import Derived.Test.YtiofebdpgbojmaaGreatDoorProg
import Derived.KernelRfl
set_option linter.unusedSimpArgs false
set_option linter.unusedVariables false
set_option maxRecDepth 100000
set_option maxHeartbeats 4000000
set_option linter.defProp false
namespace Go.Iso.Gen
open Go.Proofs Go.Proofs.Tryz
noncomputable section
def PgT:Program:=⟨Tryz.progTables,#[]⟩
def acM(b:Bool):Code->Code|.seq a c=>if b then c else a|.cond _ a c=>if b then c else a|.block _ a=>a|.loop a=>a|.scope a=>a|.rangeFunc _ _ a c=>if b then c else a|c=>c
def pj0:Nat->Nat->Code->Code|0,_,c=>c|n+1,p,c=>if p<=1 then c else pj0 n (p / 2) (acM (p%2==1) c)
def eE(f:Func)(p:Nat):IC:=match f.body with|some c=>(aY PgT (pj0 64 p c)).getD .skip|none=>.skip
def rQ(f:Func)(p:Nat)(c:IC)(_:eE f p=c):IC:=c
def kk0(k:Nat->IC)(p:Nat):IC:=k p
def Ta(g k:Nat->IC):Code->Nat->Nat->IC|.region _ _ _,p,_=>g p|.seq a b,p,w=>.seq (Ta g k a (p+w) (2*w)) (Ta g k b (p+2*w) (2*w))|.cond c a b,p,w=>.cond ((nZ c).getD (.tmp 0)) (Ta g k a (p+w) (2*w)) (Ta g k b (p+2*w) (2*w))|.block id c,p,w=>.block id (Ta g k c (p+w) (2*w))|.scope c,p,w=>.scope (Ta g k c (p+w) (2*w))|.loop _,p,w=>.loop (kk0 k (p+w))|.rangeFunc f q a b,p,w=>.rfn ((nZ f).getD (.tmp 0)) q.toList (Ta g k a (p+w) (2*w)) (Ta g k b (p+2*w) (2*w))|.exit id,_,_=>.exit id|.ret,_,_=>.ret|_,_,_=>.skip
def wb0:Nat->Nat->Nat->Nat|0,_,w=>w|n+1,p,w=>if p<=1 then w else wb0 n (p/2) (2*w)
def Vo(f:Func)(p:Nat)(g k:Nat->IC):IC:=match f.body with|some c=>Ta g k (pj0 64 p c) p (wb0 64 p 1)|none=>.skip
def lb3(f:Func)(p:Nat):IC:=Vo f p (eE f) (λ_=>.skip)
def Jq(f:Func)(p:Nat):IC:=Vo f p (eE f) (lb3 f)
def uP(f:Func)(p:Nat):IC:=Vo f p (eE f) (Jq f)
def aC(f:Func)(p:Nat):IC:=Vo f p (eE f) (uP f)
theorem J0{a b:Prop}(h:a)(k:b):a/\b:=⟨h,k⟩
def F6:IFn:=⟨85,[(4,none)],(aC f6 1)⟩
def F11:IFn:=⟨4,[(0,some (some 8))],(aC f11 1)⟩
def F15:IFn:=⟨27,[(4,some (some 8)),(5,none)],(aC f15 1)⟩
def R3:IFn:=⟨125,[(2,some (some 20)),(3,none)],(aC f17 1)⟩
def F18:IFn:=⟨34,[(2,none)],(aC f18 1)⟩
def F19:IFn:=⟨77,[(2,none)],(aC f19 1)⟩
def F22:IFn:=⟨51,[(0,none)],(aC f22 1)⟩
def F26:IFn:=⟨91,[(2,none)],(aC f26 1)⟩
def F27:IFn:=⟨17,[(4,some (some 20)),(5,none)],(aC f27 1)⟩
def F28:IFn:=⟨8,[(4,some (some 20))],(aC f28 1)⟩
def F31:IFn:=⟨62,[(2,none)],(aC f31 1)⟩
def F32:IFn:=⟨47,[(4,some (some 8)),(5,none),(6,none)],(aC f32 1)⟩
def F36:IFn:=⟨3,[(0,some (some 4))],(aC f36 1)⟩
def F40:IFn:=⟨76,[(2,none)],(aC f40 1)⟩
def F41:IFn:=⟨56,[(2,none)],(aC f41 1)⟩
def F42:IFn:=⟨20,[(6,none)],(aC f42 1)⟩
def F43:IFn:=⟨3,[(0,none)],(aC f43 1)⟩
def VO:=rQ f44 2 _ (by cbv)
def VN:=rQ f44 5 _ (by cbv)
def VM:=rQ f44 19 _ (by cbv)
def VL:=rQ f44 139 _ (by cbv)
def VK:=rQ f44 1227 _ (by cbv)
def VJ:=rQ f44 1739 _ (by cbv)
def R1:IC:=.seq (VL) (.seq (.cond (.tmp 21) (.skip) (.exit 0)) (.block 1 (.seq (VK) (VJ))))
def RX:=rQ f44 23 _ (by cbv)
def RW:=rQ f44 79 _ (by cbv)
def VI:=rQ f44 559 _ (by cbv)
def R0:=rQ f44 9007 _ (by cbv)
def RZ:=rQ f44 13103 _ (by cbv)
def RY:=rQ f44 3887 _ (by cbv)
def EJ:IC:=.seq (VI) (.seq (.cond (.tmp 42) (.skip) (.exit 2)) (.seq (.block 3 (.seq (R0) (RZ))) (RY)))
def Ke:=rQ f44 95 _ (by cbv)
def EI:IC:=.ops [(.free,[⟨some 60,.move,[.tmp 0],none,false,0,0⟩,⟨some 61,.nilCheck,[.tmp 60],none,false,1,1⟩,⟨some 62,.fieldAddr 4,[.tmp 61],none,false,2,3⟩,⟨some 63,.load none,[.tmp 62],none,false,3,7⟩,⟨some 64,.move,[.tmp 3],none,false,4,0⟩,⟨some 65,.call,[.val (.fn 96 [] []),.tmp 64],none,false,5,16⟩,⟨some 66,.move,[.tmp 0],none,false,6,0⟩,⟨some 67,.nilCheck,[.tmp 66],none,false,7,64⟩,⟨some 68,.fieldAddr 1,[.tmp 67],none,false,8,192⟩,⟨some 69,.load (some 2),[.tmp 68],none,false,9,448⟩,⟨some 70,.move,[.tmp 0],none,false,10,0⟩,⟨some 71,.nilCheck,[.tmp 70],none,false,11,1024⟩,⟨some 72,.fieldAddr 0,[.tmp 71],none,false,12,3072⟩,⟨some 73,.load none,[.tmp 72],none,false,13,7168⟩,⟨some 74,.call,[.val (.fn 77 [] []),.tmp 69,.tmp 73],none,false,14,16368⟩,⟨some 75,.move,[.tmp 0],none,false,15,0⟩,⟨some 76,.nilCheck,[.tmp 75],none,false,16,32768⟩,⟨some 77,.fieldAddr 6,[.tmp 76],none,false,17,98304⟩,⟨some 78,.load none,[.tmp 77],none,false,18,229376⟩,⟨some 79,.call,[.val (.fn 81 [] []),.tmp 78],none,false,19,524272⟩,⟨some 80,.build [.nilSlice,.nilSlice,.nilSlice,.nilSlice] [(0,1),(1,1),(2,1),(3,1)],[.tmp 63,.tmp 65,.tmp 74,.tmp 79],none,false,20,1048575⟩,⟨some 8,.alloc 43 4 [.nilSlice,.nilSlice,.nilSlice,.nilSlice],[],none,false,21,0⟩]),(.seq,[⟨none,.store 4,[.tmp 8,.tmp 80],none,true,22,4194303⟩])]
def EH:=rQ f44 383 _ (by cbv)
def X1:IC:=.seq (VO) (.seq (VN) (.seq (.seq (VM) (.block 0 (.loop R1))) (.seq (RX) (.seq (.seq (RW) (.block 2 (.loop EJ))) (.seq (Ke) (.seq (EI) (.seq (EH) (.ret))))))))
def F44:IFn:=⟨95,[(2,some (some 8))],X1⟩
def F45:IFn:=⟨25,[(4,none)],(aC f45 1)⟩
def F46:IFn:=⟨18,[(2,none)],(aC f46 1)⟩
def F47:IFn:=⟨4,[(2,none)],(aC f47 1)⟩
def F48:IFn:=⟨15,[(2,none)],(aC f48 1)⟩
def F49:IFn:=⟨9,[(4,some (some 6))],(aC f49 1)⟩
def F50:IFn:=⟨25,[(4,none),(5,none)],(aC f50 1)⟩
def F51:IFn:=⟨17,[(2,none)],(aC f51 1)⟩
def F56:IFn:=⟨59,[(6,some (some 20))],(aC f56 1)⟩
def F57:IFn:=⟨11,[(5,none)],(aC f57 1)⟩
def F58:IFn:=⟨9,[(4,none)],(aC f58 1)⟩
def F59:IFn:=⟨11,[(4,none)],(aC f59 1)⟩
def F67:IFn:=⟨22,[(4,none)],(aC f67 1)⟩
def F68:IFn:=⟨73,[(4,some (some 6))],(aC f68 1)⟩
def F69:IFn:=⟨2,[(0,none)],(aC f69 1)⟩
def F73:IFn:=⟨84,[(2,some none)],(aC f73 1)⟩
def F74:IFn:=⟨65,[(2,none)],(aC f74 1)⟩
def F75:IFn:=⟨18,[(2,none)],(aC f75 1)⟩
def F76:IFn:=⟨26,[(4,none)],(aC f76 1)⟩
def F77:IFn:=⟨33,[(4,none)],(aC f77 1)⟩
def F78:IFn:=⟨37,[(2,none)],(aC f78 1)⟩
def F79:IFn:=⟨24,[(2,none)],(aC f79 1)⟩
def F80:IFn:=⟨53,[(2,none)],(aC f80 1)⟩
def F81:IFn:=⟨11,[(2,none)],(aC f81 1)⟩
def F82:IFn:=⟨14,[(2,none)],(aC f82 1)⟩
def F83:IFn:=⟨34,[(4,none)],(aC f83 1)⟩
def F84:IFn:=⟨32,[(4,none)],(aC f84 1)⟩
def F85:IFn:=⟨42,[(4,none)],(aC f85 1)⟩
def F86:IFn:=⟨38,[(4,none)],(aC f86 1)⟩
def F87:IFn:=⟨43,[(4,none)],(aC f87 1)⟩
def F88:IFn:=⟨24,[(4,none)],(aC f88 1)⟩
def F89:IFn:=⟨84,[(4,none)],(aC f89 1)⟩
def F90:IFn:=⟨44,[(4,none)],(aC f90 1)⟩
def F93:IFn:=⟨17,[(4,none)],(aC f93 1)⟩
def F94:IFn:=⟨11,[(2,none)],(aC f94 1)⟩
def F92:IFn:=⟨19,[(4,none)],(aC f92 1)⟩
def F96:IFn:=⟨11,[(2,none)],(aC f96 1)⟩
def F97:IFn:=⟨19,[(2,none)],(aC f97 1)⟩
def F98:IFn:=⟨9,[(2,none)],(aC f98 1)⟩
def F99:IFn:=⟨67,[],(aC f99 1)⟩
def Zs:IFn:=⟨59,[(6,none)],(aC f100 1)⟩
def Zr:IFn:=⟨33,[(4,some (some 2)),(5,none)],(aC f114 1)⟩
def Za:IFn:=⟨6,[(2,none)],(aC f122 1)⟩
def Y9:IFn:=⟨4,[(2,none)],(aC f123 1)⟩
def Y8:IFn:=⟨21,[(2,none)],(aC f124 1)⟩
def Y7:IFn:=⟨15,[(2,none)],(aC f125 1)⟩
def Y6:IFn:=⟨14,[(2,none)],(aC f126 1)⟩
def Y5:IFn:=⟨11,[(2,none)],(aC f127 1)⟩
def Y4:IFn:=⟨28,[(4,none)],(aC f128 1)⟩
def Y3:IFn:=⟨11,[(2,none)],(aC f129 1)⟩
def Y2:IFn:=⟨62,[(2,none)],(aC f130 1)⟩
def Y1:IFn:=⟨113,[(2,none)],(aC f131 1)⟩
def Y0:IFn:=⟨31,[(4,none),(5,none)],(aC f132 1)⟩
def YZ:IFn:=⟨11,[(2,none)],(aC f133 1)⟩
def YY:IFn:=⟨11,[(2,none)],(aC f134 1)⟩
def YX:IFn:=⟨84,[(2,none)],(aC f135 1)⟩
def YW:IFn:=⟨27,[(4,some (some 5)),(5,none)],(aC f136 1)⟩
def YV:IFn:=⟨18,[(2,some (some 5)),(3,none)],(aC f137 1)⟩
def YU:IFn:=⟨92,[(4,none)],(aC f138 1)⟩
def YT:IFn:=⟨44,[(4,none),(5,none),(6,none)],(aC f139 1)⟩
def YS:IFn:=⟨58,[(8,none)],(aC f140 1)⟩
def YR:IFn:=⟨103,[(8,none)],(aC f141 1)⟩
def YQ:IFn:=⟨28,[(4,none)],(aC f142 1)⟩
def F143:IFn:=⟨68,[(6,some (some 2)),(7,none)],(aC f143 1)⟩
def YP:IFn:=⟨77,[(6,some (some 2)),(7,none)],(aC f144 1)⟩
def YO:IFn:=⟨18,[(2,none)],(aC f147 1)⟩
def YN:IFn:=⟨20,[(4,none)],(aC f148 1)⟩
def YM:IFn:=⟨20,[(4,none)],(aC f149 1)⟩
def YL:IFn:=⟨11,[],(aC f157 1)⟩
def YK:IFn:=⟨4,[(2,none)],(aC f158 1)⟩
def YJ:IFn:=⟨9,[(2,none)],(aC f159 1)⟩
def YI:IFn:=⟨32,[(2,none),(3,none)],(aC f160 1)⟩
def YH:IFn:=⟨33,[(4,none)],(aC f161 1)⟩
def YG:IFn:=⟨17,[(4,none)],(aC f162 1)⟩
def YF:IFn:=⟨18,[],(aC f163 1)⟩
def YE:IFn:=⟨14,[(4,none)],(aC f164 1)⟩
def YD:IFn:=⟨39,[],(aC f165 1)⟩
def YC:IFn:=⟨9,[],(aC f166 1)⟩
def YB:IFn:=⟨10,[(4,none)],(aC f167 1)⟩
def YA:IFn:=⟨11,[(2,none)],(aC f168 1)⟩
def Yz:IFn:=⟨11,[(0,none)],(aC f169 1)⟩
def F170:IFn:=⟨80,[(8,none),(9,none)],(aC f170 1)⟩
def Yy:IFn:=⟨60,[(6,some (some 5)),(7,none)],(aC f171 1)⟩
def F172:IFn:=⟨82,[(6,none),(7,none)],(aC f172 1)⟩
def Yx:IFn:=⟨51,[(4,none)],(aC f173 1)⟩
def Yw:IFn:=⟨54,[(6,none)],(aC f174 1)⟩
def Yu:IFn:=⟨39,[(2,some (some 5)),(3,some (some 3)),(4,none)],(aC f175 1)⟩
def Yt:IFn:=⟨18,[(2,none)],(aC f176 1)⟩
def Ys:IFn:=⟨11,[(2,none)],(aC f177 1)⟩
def Yr:IFn:=⟨30,[(6,some (some 2))],(aC f178 1)⟩
def Yq:IFn:=⟨6,[(2,none)],(aC f189 1)⟩
def Yp:IFn:=⟨29,[],(aC f200 1)⟩
def Yo:IFn:=⟨35,[(2,none)],(aC f201 1)⟩
def Ym:IFn:=⟨43,[(2,none)],(aC f202 1)⟩
def Yl:IFn:=⟨108,[(2,none)],(aC f203 1)⟩
def Yk:IFn:=⟨11,[(2,none)],(aC f204 1)⟩
def Yj:IFn:=⟨9,[(2,none)],(aC f205 1)⟩
def Yi:IFn:=⟨63,[],(aC f206 1)⟩
def Yh:IFn:=⟨27,[(6,none)],(aC f207 1)⟩
def Yg:IFn:=⟨28,[],(aC f208 1)⟩
def Yf:IFn:=⟨11,[(2,none)],(aC f209 1)⟩
def Ye:IFn:=⟨39,[(4,none)],(aC f210 1)⟩
def Yd:IFn:=⟨11,[(2,none)],(aC f211 1)⟩
def Yc:IFn:=⟨28,[],(aC f212 1)⟩
def Yb:IFn:=⟨28,[],(aC f213 1)⟩
def Ya:IFn:=⟨11,[(2,none)],(aC f214 1)⟩
def F215:IFn:=⟨44,[(6,none)],(aC f215 1)⟩
def F225:IFn:=⟨70,[(4,none)],(aC f225 1)⟩
def X9:IFn:=⟨25,[(4,some (some 2))],(aC f226 1)⟩
def X8:IFn:=⟨53,[],(aC f227 1)⟩
def R2:IFn:=⟨220,[],(aC f228 1)⟩
def X7:IFn:=⟨11,[(2,none)],(aC f229 1)⟩
def X6:IFn:=⟨20,[(2,none)],(aC f230 1)⟩
def X5:IFn:=⟨33,[(4,none)],(aC f233 1)⟩
def X4:IFn:=⟨9,[(2,none)],(aC f234 1)⟩
def X3:IFn:=⟨58,[],(aC f235 1)⟩
def X2:IFn:=⟨38,[],(aC f236 1)⟩
def fnT:Tr IFn:=.node (none) (.node (none) (.node (none) (.node (none) (.node (some F15) (.node (some F31) (.node (none) (.node (some Y5) (.leaf) (.leaf)) (.leaf)) (.node (none) (.node (some YJ) (.leaf) (.leaf)) (.leaf))) (.node (some F47) (.node (some F79) (.node (some F143) (.leaf) (.leaf)) (.node (some Yh) (.leaf) (.leaf))) (.node (none) (.node (some Yu) (.leaf) (.leaf)) (.leaf)))) (.node (none) (.node (none) (.node (none) (.node (some YX) (.leaf) (.leaf)) (.leaf)) (.node (none) (.node (some YB) (.leaf) (.leaf)) (.leaf))) (.node (none) (.node (some F87) (.leaf) (.node (some F215) (.leaf) (.leaf))) (.leaf)))) (.node (some F11) (.node (some F19) (.node (none) (.node (some F67) (.node (some Y1) (.leaf) (.leaf)) (.leaf)) (.node (some F99) (.node (some YF) (.leaf) (.leaf)) (.node (some X8) (.leaf) (.leaf)))) (.node (some F51) (.node (some F83) (.node (some YO) (.leaf) (.leaf)) (.node (some Yd) (.leaf) (.leaf))) (.leaf))) (.node (some F27) (.node (some F43) (.node (some F75) (.node (some YT) (.leaf) (.leaf)) (.node (some Yl) (.leaf) (.leaf))) (.node (none) (.node (some Yy) (.leaf) (.leaf)) (.node (some X3) (.leaf) (.leaf)))) (.node (some F59) (.leaf) (.node (some Y9) (.leaf) (.leaf)))))) (.node (none) (.node (none) (.node (some R3) (.node (none) (.node (none) (.node (some Y3) (.leaf) (.leaf)) (.leaf)) (.node (some F97) (.node (some YH) (.leaf) (.leaf)) (.node (some F225) (.leaf) (.leaf)))) (.node (some F49) (.node (some F81) (.leaf) (.node (some Yf) (.leaf) (.leaf))) (.node (none) (.node (some Ys) (.leaf) (.leaf)) (.leaf)))) (.node (none) (.node (some F41) (.node (some F73) (.node (some YV) (.leaf) (.leaf)) (.node (some Yo) (.leaf) (.leaf))) (.node (none) (.node (some Yz) (.leaf) (.leaf)) (.node (some X5) (.leaf) (.leaf)))) (.node (some F57) (.node (some F89) (.leaf) (.leaf)) (.leaf)))) (.node (none) (.node (none) (.node (none) (.node (some F69) (.node (some YZ) (.leaf) (.leaf)) (.leaf)) (.node (none) (.node (some YD) (.leaf) (.leaf)) (.node (some X7) (.leaf) (.leaf)))) (.node (none) (.node (some F85) (.node (some YM) (.leaf) (.leaf)) (.node (some Yb) (.leaf) (.leaf))) (.leaf))) (.node (none) (.node (some F45) (.node (some F77) (.node (some YR) (.leaf) (.leaf)) (.node (some Yj) (.leaf) (.leaf))) (.node (none) (.node (some Yx) (.leaf) (.leaf)) (.leaf))) (.node (none) (.node (some F93) (.node (some YL) (.leaf) (.leaf)) (.leaf)) (.node (some Y7) (.node (some Yq) (.leaf) (.leaf)) (.leaf))))))) (.node (none) (.node (none) (.node (none) (.node (none) (.node (some F32) (.node (none) (.node (some Y4) (.leaf) (.leaf)) (.leaf)) (.node (some F96) (.node (some YI) (.leaf) (.leaf)) (.leaf))) (.node (some F48) (.node (some F80) (.node (some YP) (.leaf) (.leaf)) (.node (some Yg) (.leaf) (.leaf))) (.node (none) (.node (some Yt) (.leaf) (.leaf)) (.leaf)))) (.node (none) (.node (some F40) (.node (none) (.node (some YW) (.leaf) (.leaf)) (.node (some Yp) (.leaf) (.leaf))) (.node (none) (.node (some YA) (.leaf) (.leaf)) (.leaf))) (.node (some F56) (.node (some F88) (.leaf) (.leaf)) (.leaf)))) (.node (none) (.node (none) (.node (some F36) (.node (some F68) (.node (some Y0) (.leaf) (.leaf)) (.leaf)) (.node (some Zs) (.node (some YE) (.leaf) (.leaf)) (.node (some R2) (.leaf) (.leaf)))) (.node (none) (.node (some F84) (.node (some YN) (.leaf) (.leaf)) (.node (some Yc) (.leaf) (.leaf))) (.leaf))) (.node (some F28) (.node (some F44) (.node (some F76) (.node (some YS) (.leaf) (.leaf)) (.node (some Yk) (.leaf) (.leaf))) (.node (none) (.node (some F172) (.leaf) (.leaf)) (.node (some X2) (.leaf) (.leaf)))) (.node (none) (.node (some F92) (.leaf) (.leaf)) (.node (some Y8) (.leaf) (.leaf)))))) (.node (some F6) (.node (none) (.node (some F18) (.node (none) (.node (none) (.node (some Y2) (.leaf) (.leaf)) (.leaf)) (.node (some F98) (.node (some YG) (.leaf) (.leaf)) (.node (some X9) (.leaf) (.leaf)))) (.node (some F50) (.node (some F82) (.leaf) (.node (some Ye) (.leaf) (.leaf))) (.node (some Zr) (.node (some Yr) (.leaf) (.leaf)) (.leaf)))) (.node (some F26) (.node (some F42) (.node (some F74) (.node (some YU) (.leaf) (.leaf)) (.node (some Ym) (.leaf) (.leaf))) (.node (none) (.node (some F170) (.leaf) (.leaf)) (.node (some X4) (.leaf) (.leaf)))) (.node (some F58) (.node (some F90) (.leaf) (.leaf)) (.node (some Za) (.leaf) (.leaf))))) (.node (none) (.node (some F22) (.node (none) (.node (none) (.node (some YY) (.leaf) (.leaf)) (.leaf)) (.node (none) (.node (some YC) (.leaf) (.leaf)) (.node (some X6) (.leaf) (.leaf)))) (.node (none) (.node (some F86) (.leaf) (.node (some Ya) (.leaf) (.leaf))) (.leaf))) (.node (none) (.node (some F46) (.node (some F78) (.node (some YQ) (.leaf) (.leaf)) (.node (some Yi) (.leaf) (.leaf))) (.node (none) (.node (some Yw) (.leaf) (.leaf)) (.leaf))) (.node (none) (.node (some F94) (.node (some YK) (.leaf) (.leaf)) (.leaf)) (.node (some Y6) (.leaf) (.leaf)))))))
def tabs:List (List Int):=[[-1,1]]
def E0:Env:={fns:=fnT.get,sums:=λf=>if f=44 then some (kq prog 1 44 Wj) else none,g0:=1}
theorem Vt:E0.g0=1:=rfl
theorem be:RT E0:=by intro f s hs args lo H v H' h;have q:(if f=44 then some (kq prog 1 44 Wj) else none)=some s:=hs;split at q;{injection q with q;subst q;exact D2 h};{cases q}
section
variable {lo:Nat}{rd:Option Nat}{fr:Fr}{H:Heap}{Q:Ah}{args:List IV}
theorem ou{c:IC}{l:List (Sg×List IOp)}(h:c=.ops l){lo:Nat}{rd:Option Nat}{fr:Fr}{H:Heap}{Q:Ah}:W E0 lo (.code c rd fr) H Q=W E0 lo (.segs l rd fr) H Q:=by subst h;exact VF
def bm(f:Func)(p:Nat){c:(Nat->IC)->(Nat->IC)->IC}(h:∀g k,Vo f p g k=c g k:=by intro g k;cbv):aC f p=c (eE f) (uP f):=h _ _
def cZ(f:Func)(p:Nat){c:(Nat->IC)->(Nat->IC)->IC}(h:∀g k,Vo f p g k=c g k:=by intro g k;cbv):uP f p=c (eE f) (Jq f):=h _ _
def Ik(f:Func)(p:Nat){c:(Nat->IC)->(Nat->IC)->IC}(h:∀g k,Vo f p g k=c g k:=by intro g k;cbv):Jq f p=c (eE f) (lb3 f):=h _ _
def ru3(f:Func)(p:Nat){c:(Nat->IC)->(Nat->IC)->IC}(h:∀g k,Vo f p g k=c g k:=by intro g k;cbv):lb3 f p=c (eE f) (λ_=>.skip):=h _ _
def ab(f:Func)(p:Nat){l:List (Sg×List IOp)}(h:eE f p=.ops l:=by cbv)(lo:Nat)(rd:Option Nat)(fr:Fr)(H:Heap)(Q:Ah):W E0 lo (.code (eE f p) rd fr) H Q=W E0 lo (.segs l rd fr) H Q:=ou h
def j_(f:Func)(p:Nat){l:List (Sg×List IOp)}{q:Prop}(k:q)(h:eE f p=.ops l:=by cbv):=J0 (ab f p h) k
def lQ(f:Func)(p:Nat)(l:List (Sg×List IOp))(h:eE f p=.ops l)(lo:Nat)(rd:Option Nat)(fr:Fr)(H:Heap)(Q:Ah):W E0 lo (.code (eE f p) rd fr) H Q=W E0 lo (.segs l rd fr) H Q:=ou h
abbrev Wc(n:Nat)(f:IFn)(b:IC):Prop:=∀{lo:Nat}{H:Heap}{Q:Ah}{args:List IV},W E0 lo (.call n args) H Q=W E0 lo (.code b none ⟨args++dh (f.ntmps - args.length),[]⟩) H (og lo f.results Q)
def VU:=J0 (@ou VO _ rfl)<|J0 (@ou VN _ rfl)<|J0 (@ou VM _ rfl)<|J0 (@ou VL _ rfl)<|J0 (@ou VK _ rfl)<|J0 (@ou VJ _ rfl)<|J0 (@ou RX _ rfl)<|J0 (@ou RW _ rfl)<|J0 (@ou VI _ rfl)<|J0 (@ou R0 _ rfl)<|J0 (@ou RZ _ rfl)<|J0 (@ou RY _ rfl)<|J0 (@ou Ke _ rfl)<|J0 (@ou EI _ rfl)<|J0 (@ou EH _ rfl)<|J0 X1.eq_1 (F44.eq_1)
def UU:=J0 VU<|J0 R1.eq_1 (EJ.eq_1)
theorem c44{H':Heap}{v:IV}(q:Wj args H=some (v,H'))(u:Keep lo H H')(hs:CallSim prog 1 44 args lo H v H')(h:Q (.val v) H'):W E0 lo (.call 44 args) H Q:=abn (s:=kq prog 1 44 Wj) rfl (vQ q u hs) h
end
end
end Go.Iso.Gen
