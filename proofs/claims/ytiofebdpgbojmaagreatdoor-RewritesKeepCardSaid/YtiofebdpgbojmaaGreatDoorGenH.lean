/-
  the code that the claim reaches, for the evaluator.
-/
import Derived.Test.YtiofebdpgbojmaaGreatDoorIsoP5
import Derived.Test.YtiofebdpgbojmaaGreatDoorIsoP7
import Derived.Test.YtiofebdpgbojmaaGreatDoorFnZ
import Derived.Test.YtiofebdpgbojmaaGreatDoorProg
import Derived.KernelRfl
set_option linter.unusedSimpArgs false
set_option linter.unusedVariables false
set_option maxRecDepth 100000
set_option maxHeartbeats 4000000
set_option linter.defProp false
namespace Go.Iso.Gen
open Go.Proofs Go.Proofs.Tryz
noncomputable section
def PgT:Program:=⟨Tryz.progTables,#[]⟩
def ad7(b:Bool):Code->Code|.seq a c=>if b then c else a|.cond _ a c=>if b then c else a|.block _ a=>a|.loop a=>a|.scope a=>a|.rangeFunc _ _ a c=>if b then c else a|c=>c
def pj0:Nat->Nat->Code->Code|0,_,c=>c|n+1,p,c=>if p<=1 then c else pj0 n (p / 2) (ad7 (p%2==1) c)
def dR(f:Func)(p:Nat):IC:=match f.body with|some c=>(aX PgT (pj0 64 p c)).getD .skip|none=>.skip
def K7(f:Func)(p:Nat)(c:IC)(_:dR f p=c):IC:=c
def kk0(k:Nat->IC)(p:Nat):IC:=k p
def UJ(g k:Nat->IC):Code->Nat->Nat->IC|.region _ _ _,p,_=>g p|.seq a b,p,w=>.seq (UJ g k a (p+w) (2*w)) (UJ g k b (p+2*w) (2*w))|.cond c a b,p,w=>.cond ((nY c).getD (.tmp 0)) (UJ g k a (p+w) (2*w)) (UJ g k b (p+2*w) (2*w))|.block id c,p,w=>.block id (UJ g k c (p+w) (2*w))|.scope c,p,w=>.scope (UJ g k c (p+w) (2*w))|.loop _,p,w=>.loop (kk0 k (p+w))|.rangeFunc f q a b,p,w=>.rfn ((nY f).getD (.tmp 0)) q.toList (UJ g k a (p+w) (2*w)) (UJ g k b (p+2*w) (2*w))|.exit id,_,_=>.exit id|.ret,_,_=>.ret|_,_,_=>.skip
def wb0:Nat->Nat->Nat->Nat|0,_,w=>w|n+1,p,w=>if p<=1 then w else wb0 n (p/2) (2*w)
def W5(f:Func)(p:Nat)(g k:Nat->IC):IC:=match f.body with|some c=>UJ g k (pj0 64 p c) p (wb0 64 p 1)|none=>.skip
def lb3(f:Func)(p:Nat):IC:=W5 f p (dR f) (λ_=>.skip)
def JJ(f:Func)(p:Nat):IC:=W5 f p (dR f) (lb3 f)
def rQ(f:Func)(p:Nat):IC:=W5 f p (dR f) (JJ f)
def aB(f:Func)(p:Nat):IC:=W5 f p (dR f) (rQ f)
theorem J0{a b:Prop}(h:a)(k:b):a/\b:=⟨h,k⟩
def QG(n:Nat):IFn:=(iK prog n).getD ⟨0,[],.skip⟩
def F7:IFn:=⟨56,[(2,none)],(aB f7 1)⟩
def F9:IFn:=⟨86,[(2,none)],(aB f9 1)⟩
def F10:IFn:=⟨19,[(4,none),(5,none)],(aB f10 1)⟩
def F11:IFn:=⟨4,[(0,some (some 8))],(aB f11 1)⟩
def F13:IFn:=⟨55,[(6,none),(7,none)],(aB f13 1)⟩
def F15:IFn:=⟨27,[(4,some (some 8)),(5,none)],(aB f15 1)⟩
def F18:IFn:=⟨34,[(2,none)],(aB f18 1)⟩
def F21:IFn:=⟨17,[(2,some (some 4)),(3,none)],(aB f21 1)⟩
def F29:IFn:=⟨37,[(4,none)],(aB f29 1)⟩
def F30:IFn:=⟨70,[(2,none),(3,none),(4,none)],(aB f30 1)⟩
def F31:IFn:=⟨62,[(2,none)],(aB f31 1)⟩
def F32:IFn:=⟨47,[(4,some (some 8)),(5,none),(6,none)],(aB f32 1)⟩
def F33:IFn:=⟨81,[(4,none)],(aB f33 1)⟩
def F34:IFn:=⟨66,[(4,none),(5,none),(6,none)],(aB f34 1)⟩
def F35:IFn:=⟨9,[(2,none)],(aB f35 1)⟩
def F36:IFn:=⟨3,[(0,some (some 4))],(aB f36 1)⟩
def F39:IFn:=⟨54,[(4,none),(5,none)],(aB f39 1)⟩
def F40:IFn:=⟨76,[(2,none)],(aB f40 1)⟩
def F41:IFn:=⟨56,[(2,none)],(aB f41 1)⟩
def F42:IFn:=⟨20,[(6,none)],(aB f42 1)⟩
def F43:IFn:=⟨3,[(0,none)],(aB f43 1)⟩
def Xt:=K7 f44 2 _ (by cbv)
def Xs:=K7 f44 5 _ (by cbv)
def Xr:=K7 f44 19 _ (by cbv)
def Xq:=K7 f44 139 _ (by cbv)
def Xp:=K7 f44 1227 _ (by cbv)
def Xo:=K7 f44 1739 _ (by cbv)
def Tl:IC:=.seq (Xq) (.seq (.cond (.tmp 21) (.skip) (.exit 0)) (.block 1 (.seq (Xp) (Xo))))
def Th:=K7 f44 23 _ (by cbv)
def Tf:=K7 f44 79 _ (by cbv)
def Xn:=K7 f44 559 _ (by cbv)
def Tk:=K7 f44 9007 _ (by cbv)
def Tj:=K7 f44 13103 _ (by cbv)
def Ti:=K7 f44 3887 _ (by cbv)
def ER:IC:=.seq (Xn) (.seq (.cond (.tmp 42) (.skip) (.exit 2)) (.seq (.block 3 (.seq (Tk) (Tj))) (Ti)))
def Ky:=K7 f44 95 _ (by cbv)
def EQ:IC:=.ops [(.free,[⟨some 60,.move,[.tmp 0],none,false,0,0⟩,⟨some 61,.nilCheck,[.tmp 60],none,false,1,1⟩,⟨some 62,.fieldAddr 4,[.tmp 61],none,false,2,3⟩,⟨some 63,.load none,[.tmp 62],none,false,3,7⟩,⟨some 64,.move,[.tmp 3],none,false,4,0⟩,⟨some 65,.call,[.val (.fn 96 [] []),.tmp 64],none,false,5,16⟩,⟨some 66,.move,[.tmp 0],none,false,6,0⟩,⟨some 67,.nilCheck,[.tmp 66],none,false,7,64⟩,⟨some 68,.fieldAddr 1,[.tmp 67],none,false,8,192⟩,⟨some 69,.load (some 2),[.tmp 68],none,false,9,448⟩,⟨some 70,.move,[.tmp 0],none,false,10,0⟩,⟨some 71,.nilCheck,[.tmp 70],none,false,11,1024⟩,⟨some 72,.fieldAddr 0,[.tmp 71],none,false,12,3072⟩,⟨some 73,.load none,[.tmp 72],none,false,13,7168⟩,⟨some 74,.call,[.val (.fn 77 [] []),.tmp 69,.tmp 73],none,false,14,16368⟩,⟨some 75,.move,[.tmp 0],none,false,15,0⟩,⟨some 76,.nilCheck,[.tmp 75],none,false,16,32768⟩,⟨some 77,.fieldAddr 6,[.tmp 76],none,false,17,98304⟩,⟨some 78,.load none,[.tmp 77],none,false,18,229376⟩,⟨some 79,.call,[.val (.fn 81 [] []),.tmp 78],none,false,19,524272⟩,⟨some 80,.build [.nilSlice,.nilSlice,.nilSlice,.nilSlice] [(0,1),(1,1),(2,1),(3,1)],[.tmp 63,.tmp 65,.tmp 74,.tmp 79],none,false,20,1048575⟩,⟨some 8,.alloc 43 4 [.nilSlice,.nilSlice,.nilSlice,.nilSlice],[],none,false,21,0⟩]),(.seq,[⟨none,.store 4,[.tmp 8,.tmp 80],none,true,22,4194303⟩])]
def EP:=K7 f44 383 _ (by cbv)
def Zw:IC:=.seq (Xt) (.seq (Xs) (.seq (.seq (Xr) (.block 0 (.loop Tl))) (.seq (Th) (.seq (.seq (Tf) (.block 2 (.loop ER))) (.seq (Ky) (.seq (EQ) (.seq (EP) (.ret))))))))
def F44:IFn:=⟨95,[(2,some (some 8))],Zw⟩
def F45:IFn:=⟨25,[(4,none)],(aB f45 1)⟩
def F46:IFn:=⟨18,[(2,none)],(aB f46 1)⟩
def F47:IFn:=⟨4,[(2,none)],(aB f47 1)⟩
def F48:IFn:=⟨15,[(2,none)],(aB f48 1)⟩
def F60:IFn:=⟨35,[(4,none)],(aB f60 1)⟩
def F61:IFn:=⟨8,[(2,none)],(aB f61 1)⟩
def F62:IFn:=⟨115,[(2,none)],(aB f62 1)⟩
def F63:IFn:=⟨7,[(0,some (some 10))],(aB f63 1)⟩
def F64:IFn:=⟨51,[(8,none),(9,none)],(aB f64 1)⟩
def F65:IFn:=⟨45,[(4,none)],(aB f65 1)⟩
def F66:IFn:=⟨9,[(2,none)],(aB f66 1)⟩
def F67:IFn:=⟨22,[(4,none)],(aB f67 1)⟩
def F68:IFn:=⟨73,[(4,some (some 6))],(aB f68 1)⟩
def F69:IFn:=⟨2,[(0,none)],(aB f69 1)⟩
def F71:IFn:=⟨17,[(4,none)],(aB f71 1)⟩
def F72:IFn:=⟨6,[(2,none)],(aB f72 1)⟩
def F73:IFn:=⟨84,[(2,some none)],(aB f73 1)⟩
def F74:IFn:=⟨65,[(2,none)],(aB f74 1)⟩
def F75:IFn:=⟨18,[(2,none)],(aB f75 1)⟩
def F76:IFn:=⟨26,[(4,none)],(aB f76 1)⟩
def F77:IFn:=⟨33,[(4,none)],(aB f77 1)⟩
def F78:IFn:=⟨37,[(2,none)],(aB f78 1)⟩
def F79:IFn:=⟨24,[(2,none)],(aB f79 1)⟩
def F80:IFn:=⟨53,[(2,none)],(aB f80 1)⟩
def F81:IFn:=⟨11,[(2,none)],(aB f81 1)⟩
def F82:IFn:=⟨14,[(2,none)],(aB f82 1)⟩
def F83:IFn:=⟨34,[(4,none)],(aB f83 1)⟩
def F84:IFn:=⟨32,[(4,none)],(aB f84 1)⟩
def F85:IFn:=⟨42,[(4,none)],(aB f85 1)⟩
def F86:IFn:=⟨38,[(4,none)],(aB f86 1)⟩
def F87:IFn:=⟨43,[(4,none)],(aB f87 1)⟩
def F88:IFn:=⟨24,[(4,none)],(aB f88 1)⟩
def F89:IFn:=⟨84,[(4,none)],(aB f89 1)⟩
def F90:IFn:=⟨44,[(4,none)],(aB f90 1)⟩
def F92:IFn:=⟨19,[(4,none)],(aB f92 1)⟩
def F93:IFn:=⟨17,[(4,none)],(aB f93 1)⟩
def F94:IFn:=⟨11,[(2,none)],(aB f94 1)⟩
def F96:IFn:=⟨11,[(2,none)],(aB f96 1)⟩
def F97:IFn:=⟨19,[(2,none)],(aB f97 1)⟩
def F98:IFn:=⟨9,[(2,none)],(aB f98 1)⟩
def F99:IFn:=⟨67,[],(aB f99 1)⟩
def aaO:IFn:=⟨59,[(6,none)],(aB f100 1)⟩
def Wn:IFn:=⟨31,[(4,none)],(aB f108 1)⟩
def aaN:IFn:=⟨26,[(4,none)],(aB f109 1)⟩
def aaM:IFn:=⟨10,[(5,none)],(aB f110 1)⟩
def aaL:IFn:=⟨32,[(6,none)],(aB f111 1)⟩
def aaK:IFn:=⟨32,[(6,none)],(aB f112 1)⟩
def aaJ:IFn:=⟨26,[(4,none)],(aB f113 1)⟩
def aaI:IFn:=⟨33,[(4,some (some 2)),(5,none)],(aB f114 1)⟩
def aaH:IFn:=⟨28,[(6,none)],(aB f115 1)⟩
def aaG:IFn:=⟨31,[(6,none)],(aB f116 1)⟩
def aaF:IFn:=⟨67,[(6,none)],(aB f117 1)⟩
def aaE:IFn:=⟨91,[(6,none)],(aB f118 1)⟩
def Wm:IFn:=⟨41,[(6,none)],(aB f119 1)⟩
def aaD:IFn:=⟨6,[(2,none)],(aB f122 1)⟩
def aaC:IFn:=⟨4,[(2,none)],(aB f123 1)⟩
def aaB:IFn:=⟨21,[(2,none)],(aB f124 1)⟩
def aaA:IFn:=⟨15,[(2,none)],(aB f125 1)⟩
def aaz:IFn:=⟨14,[(2,none)],(aB f126 1)⟩
def aay:IFn:=⟨11,[(2,none)],(aB f127 1)⟩
def aax:IFn:=⟨28,[(4,none)],(aB f128 1)⟩
def aaw:IFn:=⟨11,[(2,none)],(aB f129 1)⟩
def aav:IFn:=⟨62,[(2,none)],(aB f130 1)⟩
def aau:IFn:=⟨113,[(2,none)],(aB f131 1)⟩
def aat:IFn:=⟨31,[(4,none),(5,none)],(aB f132 1)⟩
def aas:IFn:=⟨11,[(2,none)],(aB f133 1)⟩
def aar:IFn:=⟨11,[(2,none)],(aB f134 1)⟩
def aaq:IFn:=⟨84,[(2,none)],(aB f135 1)⟩
def aap:IFn:=⟨27,[(4,some (some 5)),(5,none)],(aB f136 1)⟩
def aao:IFn:=⟨18,[(2,some (some 5)),(3,none)],(aB f137 1)⟩
def aan:IFn:=⟨92,[(4,none)],(aB f138 1)⟩
def aam:IFn:=⟨44,[(4,none),(5,none),(6,none)],(aB f139 1)⟩
def aal:IFn:=⟨58,[(8,none)],(aB f140 1)⟩
def aak:IFn:=⟨103,[(8,none)],(aB f141 1)⟩
def aaj:IFn:=⟨28,[(4,none)],(aB f142 1)⟩
def F143:IFn:=⟨68,[(6,some (some 2)),(7,none)],(aB f143 1)⟩
def aai:IFn:=⟨77,[(6,some (some 2)),(7,none)],(aB f144 1)⟩
def aah:IFn:=⟨18,[(2,none)],(aB f147 1)⟩
def aag:IFn:=⟨20,[(4,none)],(aB f148 1)⟩
def aaf:IFn:=⟨20,[(4,none)],(aB f149 1)⟩
def Wl:IFn:=⟨28,[(4,none)],(aB f156 1)⟩
def aae:IFn:=⟨11,[],(aB f157 1)⟩
def aad:IFn:=⟨4,[(2,none)],(aB f158 1)⟩
def aac:IFn:=⟨9,[(2,none)],(aB f159 1)⟩
def aab:IFn:=⟨32,[(2,none),(3,none)],(aB f160 1)⟩
def aaa:IFn:=⟨33,[(4,none)],(aB f161 1)⟩
def Z9:IFn:=⟨17,[(4,none)],(aB f162 1)⟩
def Z8:IFn:=⟨18,[],(aB f163 1)⟩
def Z7:IFn:=⟨14,[(4,none)],(aB f164 1)⟩
def Z6:IFn:=⟨39,[],(aB f165 1)⟩
def Z5:IFn:=⟨9,[],(aB f166 1)⟩
def Z4:IFn:=⟨10,[(4,none)],(aB f167 1)⟩
def Z3:IFn:=⟨11,[(2,none)],(aB f168 1)⟩
def Z2:IFn:=⟨11,[(0,none)],(aB f169 1)⟩
def F170:IFn:=⟨80,[(8,none),(9,none)],(aB f170 1)⟩
def Z1:IFn:=⟨60,[(6,some (some 5)),(7,none)],(aB f171 1)⟩
def F172:IFn:=⟨82,[(6,none),(7,none)],(aB f172 1)⟩
def Z0:IFn:=⟨51,[(4,none)],(aB f173 1)⟩
def ZZ:IFn:=⟨54,[(6,none)],(aB f174 1)⟩
def ZY:IFn:=⟨39,[(2,some (some 5)),(3,some (some 3)),(4,none)],(aB f175 1)⟩
def ZX:IFn:=⟨18,[(2,none)],(aB f176 1)⟩
def ZW:IFn:=⟨11,[(2,none)],(aB f177 1)⟩
def ZV:IFn:=⟨30,[(6,some (some 2))],(aB f178 1)⟩
def ZU:IFn:=⟨6,[(2,none)],(aB f189 1)⟩
def ZT:IFn:=⟨29,[],(aB f200 1)⟩
def ZS:IFn:=⟨35,[(2,none)],(aB f201 1)⟩
def ZR:IFn:=⟨43,[(2,none)],(aB f202 1)⟩
def ZQ:IFn:=⟨108,[(2,none)],(aB f203 1)⟩
def ZP:IFn:=⟨11,[(2,none)],(aB f204 1)⟩
def ZO:IFn:=⟨9,[(2,none)],(aB f205 1)⟩
def ZN:IFn:=⟨63,[],(aB f206 1)⟩
def ZM:IFn:=⟨27,[(6,none)],(aB f207 1)⟩
def ZL:IFn:=⟨28,[],(aB f208 1)⟩
def ZK:IFn:=⟨11,[(2,none)],(aB f209 1)⟩
def ZJ:IFn:=⟨39,[(4,none)],(aB f210 1)⟩
def ZI:IFn:=⟨11,[(2,none)],(aB f211 1)⟩
def ZH:IFn:=⟨28,[],(aB f212 1)⟩
def ZG:IFn:=⟨28,[],(aB f213 1)⟩
def ZF:IFn:=⟨11,[(2,none)],(aB f214 1)⟩
def F215:IFn:=⟨44,[(6,none)],(aB f215 1)⟩
def F225:IFn:=⟨70,[(4,none)],(aB f225 1)⟩
def ZE:IFn:=⟨25,[(4,some (some 2))],(aB f226 1)⟩
def ZD:IFn:=⟨53,[],(aB f227 1)⟩
def Tm:IFn:=⟨220,[],(aB f228 1)⟩
def ZC:IFn:=⟨11,[(2,none)],(aB f229 1)⟩
def ZB:IFn:=⟨20,[(2,none)],(aB f230 1)⟩
def ZA:IFn:=⟨33,[(4,none)],(aB f233 1)⟩
def Zz:IFn:=⟨9,[(2,none)],(aB f234 1)⟩
def Zy:IFn:=⟨58,[],(aB f235 1)⟩
def Zx:IFn:=⟨38,[],(aB f236 1)⟩
def fnT:Tr IFn:=.node (none) (.node (none) (.node (none) (.node (some F7) (.node (some F15) (.node (some F31) (.node (some F63) (.node (some aay) (.leaf) (.leaf)) (.node (some (QG 191)) (.leaf) (.leaf))) (.node (some (QG 95)) (.node (some aac) (.leaf) (.leaf)) (.node (some (QG 223)) (.leaf) (.leaf)))) (.node (some F47) (.node (some F79) (.node (some F143) (.leaf) (.leaf)) (.node (some ZM) (.leaf) (.leaf))) (.node (some aaL) (.node (some ZY) (.leaf) (.leaf)) (.leaf)))) (.node (none) (.node (some F39) (.node (some F71) (.node (some aaq) (.leaf) (.leaf)) (.leaf)) (.node (none) (.node (some Z4) (.leaf) (.leaf)) (.node (some (QG 231)) (.leaf) (.leaf)))) (.node (none) (.node (some F87) (.leaf) (.node (some F215) (.leaf) (.leaf))) (.node (some Wm) (.node (some (QG 183)) (.leaf) (.leaf)) (.leaf))))) (.node (some F11) (.node (none) (.node (some F35) (.node (some F67) (.node (some aau) (.leaf) (.leaf)) (.node (some (QG 195)) (.leaf) (.leaf))) (.node (some F99) (.node (some Z8) (.leaf) (.leaf)) (.node (some ZD) (.leaf) (.leaf)))) (.node (none) (.node (some F83) (.node (some aah) (.leaf) (.leaf)) (.node (some ZI) (.leaf) (.leaf))) (.node (some aaH) (.node (some (QG 179)) (.leaf) (.leaf)) (.leaf)))) (.node (none) (.node (some F43) (.node (some F75) (.node (some aam) (.leaf) (.leaf)) (.node (some ZQ) (.leaf) (.leaf))) (.node (none) (.node (some Z1) (.leaf) (.leaf)) (.node (some Zy) (.leaf) (.leaf)))) (.node (none) (.node (some (QG 91)) (.leaf) (.node (some (QG 219)) (.leaf) (.leaf))) (.node (some aaC) (.node (some (QG 187)) (.leaf) (.leaf)) (.leaf)))))) (.node (none) (.node (some F9) (.node (none) (.node (some F33) (.node (some F65) (.node (some aaw) (.leaf) (.leaf)) (.node (some (QG 193)) (.leaf) (.leaf))) (.node (some F97) (.node (some aaa) (.leaf) (.leaf)) (.node (some F225) (.leaf) (.leaf)))) (.node (none) (.node (some F81) (.node (some (QG 145)) (.leaf) (.leaf)) (.node (some ZK) (.leaf) (.leaf))) (.node (some aaJ) (.node (some ZW) (.leaf) (.leaf)) (.leaf)))) (.node (none) (.node (some F41) (.node (some F73) (.node (some aao) (.leaf) (.leaf)) (.node (some ZS) (.leaf) (.leaf))) (.node (none) (.node (some Z2) (.leaf) (.leaf)) (.node (some ZA) (.leaf) (.leaf)))) (.node (none) (.node (some F89) (.leaf) (.node (some (QG 217)) (.leaf) (.leaf))) (.node (some (QG 121)) (.node (some (QG 185)) (.leaf) (.leaf)) (.leaf))))) (.node (some F13) (.node (some F21) (.node (none) (.node (some F69) (.node (some aas) (.leaf) (.leaf)) (.node (some (QG 197)) (.leaf) (.leaf))) (.node (none) (.node (some Z6) (.leaf) (.leaf)) (.node (some ZC) (.leaf) (.leaf)))) (.node (none) (.node (some F85) (.node (some aaf) (.leaf) (.leaf)) (.node (some ZG) (.leaf) (.leaf))) (.node (some aaF) (.node (some (QG 181)) (.leaf) (.leaf)) (.leaf)))) (.node (some F29) (.node (some F45) (.node (some F77) (.node (some aak) (.leaf) (.leaf)) (.node (some ZO) (.leaf) (.leaf))) (.node (some aaN) (.node (some Z0) (.leaf) (.leaf)) (.leaf))) (.node (some F61) (.node (some F93) (.node (some aae) (.leaf) (.leaf)) (.node (some (QG 221)) (.leaf) (.leaf))) (.node (some aaA) (.node (some ZU) (.leaf) (.leaf)) (.leaf))))))) (.node (none) (.node (none) (.node (none) (.node (some (QG 16)) (.node (some F32) (.node (some F64) (.node (some aax) (.leaf) (.leaf)) (.node (some (QG 192)) (.leaf) (.leaf))) (.node (some F96) (.node (some aab) (.leaf) (.leaf)) (.leaf))) (.node (some F48) (.node (some F80) (.node (some aai) (.leaf) (.leaf)) (.node (some ZL) (.leaf) (.leaf))) (.node (some aaK) (.node (some ZX) (.leaf) (.leaf)) (.leaf)))) (.node (none) (.node (some F40) (.node (some F72) (.node (some aap) (.leaf) (.leaf)) (.node (some ZT) (.leaf) (.leaf))) (.node (none) (.node (some Z3) (.leaf) (.leaf)) (.node (some (QG 232)) (.leaf) (.leaf)))) (.node (none) (.node (some F88) (.leaf) (.node (some (QG 216)) (.leaf) (.leaf))) (.node (some (QG 120)) (.node (some (QG 184)) (.leaf) (.leaf)) (.leaf))))) (.node (none) (.node (none) (.node (some F36) (.node (some F68) (.node (some aat) (.leaf) (.leaf)) (.node (some (QG 196)) (.leaf) (.leaf))) (.node (some aaO) (.node (some Z7) (.leaf) (.leaf)) (.node (some Tm) (.leaf) (.leaf)))) (.node (none) (.node (some F84) (.node (some aag) (.leaf) (.leaf)) (.node (some ZH) (.leaf) (.leaf))) (.node (some aaG) (.node (some (QG 180)) (.leaf) (.leaf)) (.leaf)))) (.node (none) (.node (some F44) (.node (some F76) (.node (some aal) (.leaf) (.leaf)) (.node (some ZP) (.leaf) (.leaf))) (.node (some Wn) (.node (some F172) (.leaf) (.leaf)) (.node (some Zx) (.leaf) (.leaf)))) (.node (some F60) (.node (some F92) (.node (some Wl) (.leaf) (.leaf)) (.node (some (QG 220)) (.leaf) (.leaf))) (.node (some aaB) (.node (some (QG 188)) (.leaf) (.leaf)) (.leaf)))))) (.node (none) (.node (some F10) (.node (some F18) (.node (some F34) (.node (some F66) (.node (some aav) (.leaf) (.leaf)) (.node (some (QG 194)) (.leaf) (.leaf))) (.node (some F98) (.node (some Z9) (.leaf) (.leaf)) (.node (some ZE) (.leaf) (.leaf)))) (.node (none) (.node (some F82) (.node (some (QG 146)) (.leaf) (.leaf)) (.node (some ZJ) (.leaf) (.leaf))) (.node (some aaI) (.node (some ZV) (.leaf) (.leaf)) (.leaf)))) (.node (none) (.node (some F42) (.node (some F74) (.node (some aan) (.leaf) (.leaf)) (.node (some ZR) (.leaf) (.leaf))) (.node (none) (.node (some F170) (.leaf) (.leaf)) (.node (some Zz) (.leaf) (.leaf)))) (.node (none) (.node (some F90) (.leaf) (.node (some (QG 218)) (.leaf) (.leaf))) (.node (some aaD) (.node (some (QG 186)) (.leaf) (.leaf)) (.leaf))))) (.node (none) (.node (none) (.node (none) (.node (none) (.node (some aar) (.leaf) (.leaf)) (.leaf)) (.node (none) (.node (some Z5) (.leaf) (.leaf)) (.node (some ZB) (.leaf) (.leaf)))) (.node (none) (.node (some F86) (.node (some (QG 150)) (.leaf) (.leaf)) (.node (some ZF) (.leaf) (.leaf))) (.node (some aaE) (.node (some (QG 182)) (.leaf) (.leaf)) (.leaf)))) (.node (some F30) (.node (some F46) (.node (some F78) (.node (some aaj) (.leaf) (.leaf)) (.node (some ZN) (.leaf) (.leaf))) (.node (some aaM) (.node (some ZZ) (.leaf) (.leaf)) (.leaf))) (.node (some F62) (.node (some F94) (.node (some aad) (.leaf) (.leaf)) (.node (some (QG 222)) (.leaf) (.leaf))) (.node (some aaz) (.node (some (QG 190)) (.leaf) (.leaf)) (.leaf)))))))
def tabs:List (List Int):=[[-1,1]]
def E0:Env:={fns:=fnT.get,sums:=λf=>if f=16 then some (mM tabs) else if f=44 then some (kw prog 1 44 XZ) else none,g0:=1}
def En:Env:={fns:=fnT.get,sums:=λ_=>none,g0:=1}
theorem W8:E0.g0=1:=rfl
theorem bc:Tc E0:=by intro f s hs args lo H v H' h;have q:(if f=16 then some (mM tabs) else if f=44 then some (kw prog 1 44 XZ) else none)=some s:=hs;split at q;{injection q with q;subst q;cases args with|cons=>cases h|nil=>simp only[mM] at h;split at h;{rename_i u;injection h with h;injection h with A E;subst A E;exact⟨.refl _ _,λ_ _=>by simp only[mM,u];rfl⟩};{cases h}};split at q;{injection q with q;subst q;exact D5 h};{cases q}
section
variable {lo:Nat}{rd:Option Nat}{fr:Fr}{H:Heap}{Q:Aq}{args:List IV}
theorem ol{c:IC}{l:List (Sg×List IOp)}(h:c=.ops l){lo:Nat}{rd:Option Nat}{fr:Fr}{H:Heap}{Q:Aq}:W E0 lo (.code c rd fr) H Q=W E0 lo (.segs l rd fr) H Q:=by subst h;exact Xk
def a7(f:Func)(p:Nat){c:(Nat->IC)->(Nat->IC)->IC}(h:∀g k,W5 f p g k=c g k:=by intro g k;cbv):aB f p=c (dR f) (rQ f):=h _ _
def cZ(f:Func)(p:Nat){c:(Nat->IC)->(Nat->IC)->IC}(h:∀g k,W5 f p g k=c g k:=by intro g k;cbv):rQ f p=c (dR f) (JJ f):=h _ _
def EV(f:Func)(p:Nat){c:(Nat->IC)->(Nat->IC)->IC}(h:∀g k,W5 f p g k=c g k:=by intro g k;cbv):JJ f p=c (dR f) (lb3 f):=h _ _
def ru3(f:Func)(p:Nat){c:(Nat->IC)->(Nat->IC)->IC}(h:∀g k,W5 f p g k=c g k:=by intro g k;cbv):lb3 f p=c (dR f) (λ_=>.skip):=h _ _
def ab(f:Func)(p:Nat){l:List (Sg×List IOp)}(h:dR f p=.ops l:=by cbv)(lo:Nat)(rd:Option Nat)(fr:Fr)(H:Heap)(Q:Aq):W E0 lo (.code (dR f p) rd fr) H Q=W E0 lo (.segs l rd fr) H Q:=ol h
def j_(f:Func)(p:Nat){l:List (Sg×List IOp)}{q:Prop}(k:q)(h:dR f p=.ops l:=by cbv):=J0 (ab f p h) k
def kK(f:Func)(p:Nat)(l:List (Sg×List IOp))(h:dR f p=.ops l)(lo:Nat)(rd:Option Nat)(fr:Fr)(H:Heap)(Q:Aq):W E0 lo (.code (dR f p) rd fr) H Q=W E0 lo (.segs l rd fr) H Q:=ol h
abbrev Wc(n:Nat)(f:IFn)(b:IC):Prop:=∀{lo:Nat}{H:Heap}{Q:Aq}{args:List IV},W E0 lo (.call n args) H Q=W E0 lo (.code b none ⟨args++dq (f.ntmps - args.length),[]⟩) H (lS lo f.results Q)
def XA:=J0 (@ol Xt _ rfl)<|J0 (@ol Xs _ rfl)<|J0 (@ol Xr _ rfl)<|J0 (@ol Xq _ rfl)<|J0 (@ol Xp _ rfl)<|J0 (@ol Xo _ rfl)<|J0 (@ol Th _ rfl)<|J0 (@ol Tf _ rfl)<|J0 (@ol Xn _ rfl)<|J0 (@ol Tk _ rfl)<|J0 (@ol Tj _ rfl)<|J0 (@ol Ti _ rfl)<|J0 (@ol Ky _ rfl)<|J0 (@ol EQ _ rfl)<|J0 (@ol EP _ rfl)<|J0 Zw.eq_1 (F44.eq_1)
def Wq:=J0 XA<|J0 Tl.eq_1 (ER.eq_1)
theorem c44{H':Heap}{v:IV}(q:XZ args H=some (v,H'))(u:Keep lo H H')(hs:CallSim prog 1 44 args lo H v H')(h:Q (.val v) H'):W E0 lo (.call 44 args) H Q:=Xj (s:=kw prog 1 44 XZ) rfl (vT q u hs) h
theorem c16(q:Tabs tabs H)(h:Q (.val (.bool true)) H):W E0 lo (.call 16 []) H Q:=Xj (s:=mM tabs) rfl (by simp only[mM,q.ok];rfl) h
end
end
end Go.Iso.Gen
