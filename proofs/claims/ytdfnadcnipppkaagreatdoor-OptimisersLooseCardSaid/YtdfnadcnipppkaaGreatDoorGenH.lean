/-
  the code that the claim reaches, for the evaluator.
-/
import Derived.Test.YtdfnadcnipppkaaGreatDoorIsoP5
import Derived.Test.YtdfnadcnipppkaaGreatDoorIsoP7
import Derived.Test.YtdfnadcnipppkaaGreatDoorFnZ
import Derived.Test.YtdfnadcnipppkaaGreatDoorProg
import Derived.KernelRfl
set_option linter.unusedSimpArgs false
set_option linter.unusedVariables false
set_option maxRecDepth 100000
set_option maxHeartbeats 4000000
set_option linter.defProp false
namespace Go.Iso.Gen
open Go.Proofs Go.Proofs.Tryz
noncomputable section
def PgT:Program:=⟨Tryz.progTables,#[]⟩
def ahh(b:Bool):Code->Code|.seq a c=>if b then c else a|.cond _ a c=>if b then c else a|.block _ a=>a|.loop a=>a|.scope a=>a|.rangeFunc _ _ a c=>if b then c else a|c=>c
def pj0:Nat->Nat->Code->Code|0,_,c=>c|n+1,p,c=>if p<=1 then c else pj0 n (p / 2) (ahh (p%2==1) c)
def dV(f:Func)(p:Nat):IC:=match f.body with|some c=>(bi PgT (pj0 64 p c)).getD .skip|none=>.skip
def Oy(f:Func)(p:Nat)(c:IC)(_:dV f p=c):IC:=c
def kk0(k:Nat->IC)(p:Nat):IC:=k p
def XA(g k:Nat->IC):Code->Nat->Nat->IC|.region _ _ _,p,_=>g p|.seq a b,p,w=>.seq (XA g k a (p+w) (2*w)) (XA g k b (p+2*w) (2*w))|.cond c a b,p,w=>.cond ((pe c).getD (.tmp 0)) (XA g k a (p+w) (2*w)) (XA g k b (p+2*w) (2*w))|.block id c,p,w=>.block id (XA g k c (p+w) (2*w))|.scope c,p,w=>.scope (XA g k c (p+w) (2*w))|.loop _,p,w=>.loop (kk0 k (p+w))|.rangeFunc f E a b,p,w=>.rfn ((pe f).getD (.tmp 0)) E.toList (XA g k a (p+w) (2*w)) (XA g k b (p+2*w) (2*w))|.exit id,_,_=>.exit id|.ret,_,_=>.ret|_,_,_=>.skip
def wb0:Nat->Nat->Nat->Nat|0,_,w=>w|n+1,p,w=>if p<=1 then w else wb0 n (p/2) (2*w)
def ZS(f:Func)(p:Nat)(g k:Nat->IC):IC:=match f.body with|some c=>XA g k (pj0 64 p c) p (wb0 64 p 1)|none=>.skip
def cR0(P:Program)(o:Array Oper)(d:Bool):Option (List (Sg×List IOp)):=(o.toList.mapM (jg P o)).map λl=>if d then parts (fX o.toList []) (jz (fX o.toList []) l l 0) 0 [] else [(.seq,l)]
def oR0(P:Program)(o:Array Oper)(d:Bool):Bool:=match o.toList.mapM (jg P o) with|some l=>!d||(wg o&&GN o.toList 0&&qV (fX o.toList []) (jz (fX o.toList []) l l 0) 0&&nh (fX o.toList []) (jz (fX o.toList []) l l 0) 0)|none=>true
def gR0(f:Func)(p:Nat):IC:=match f.body with|some c=>(match pj0 64 p c with|.region _ o d=>((cR0 PgT o d).map .ops).getD .skip|_=>.skip)|none=>.skip
def oP0(f:Func)(p:Nat):Bool:=match f.body with|some c=>(match pj0 64 p c with|.region _ o d=>oR0 PgT o d|_=>false)|none=>false
def lb3(f:Func)(p:Nat):IC:=ZS f p (dV f) (λ_=>.skip)
def Jj(f:Func)(p:Nat):IC:=ZS f p (dV f) (lb3 f)
def pz(f:Func)(p:Nat):IC:=ZS f p (dV f) (Jj f)
def ay(f:Func)(p:Nat):IC:=ZS f p (dV f) (pz f)
theorem J0{a b:Prop}(h:a)(k:b):a/\b:=⟨h,k⟩
def F3:IFn:=⟨151,[(6,none)],(ay f3 1)⟩
def F4:IFn:=⟨109,[(0,none)],(ay f4 1)⟩
def F5:IFn:=⟨12,[(6,some (some 6))],(ay f5 1)⟩
def F6:IFn:=⟨42,[(2,none),(3,none)],(ay f6 1)⟩
def F7:IFn:=⟨30,[(4,none)],(ay f7 1)⟩
def F8:IFn:=⟨34,[(2,none)],(ay f8 1)⟩
def F9:IFn:=⟨143,[(2,none),(3,none)],(ay f9 1)⟩
def F10:IFn:=⟨33,[(4,none)],(ay f10 1)⟩
def F11:IFn:=⟨21,[(4,some (some 3))],(ay f11 1)⟩
def F12:IFn:=⟨24,[(4,none)],(ay f12 1)⟩
def F13:IFn:=⟨70,[(2,none),(3,none),(4,none)],(ay f13 1)⟩
def F14:IFn:=⟨17,[(2,some (some 4)),(3,none)],(ay f14 1)⟩
def F15:IFn:=⟨35,[(4,none)],(ay f15 1)⟩
def F16:IFn:=⟨18,[(2,none)],(ay f16 1)⟩
def F17:IFn:=⟨4,[(2,none)],(ay f17 1)⟩
def F18:IFn:=⟨15,[(2,none)],(ay f18 1)⟩
def F19:IFn:=⟨38,[(2,none),(3,none)],(ay f19 1)⟩
def F20:IFn:=⟨49,[(4,none)],(ay f20 1)⟩
def F21:IFn:=⟨21,[(3,none)],(ay f21 1)⟩
def F22:IFn:=⟨24,[(4,none)],(ay f22 1)⟩
def F23:IFn:=⟨33,[(6,none)],(ay f23 1)⟩
def F24:IFn:=⟨25,[(4,some (some 3))],(ay f24 1)⟩
def F25:IFn:=⟨54,[(4,none),(5,none)],(ay f25 1)⟩
def F27:IFn:=⟨77,[(2,none)],(ay f27 1)⟩
def F28:IFn:=⟨47,[(4,some (some 8)),(5,none),(6,none)],(ay f28 1)⟩
def F29:IFn:=⟨4,[(0,some (some 8))],(ay f29 1)⟩
def F30:IFn:=⟨8,[(2,none)],(ay f30 1)⟩
def F31:IFn:=⟨115,[(2,none)],(ay f31 1)⟩
def F32:IFn:=⟨7,[(0,some (some 10))],(ay f32 1)⟩
def F33:IFn:=⟨51,[(8,none),(9,none)],(ay f33 1)⟩
def F34:IFn:=⟨45,[(4,none)],(ay f34 1)⟩
def F35:IFn:=⟨9,[(2,none)],(ay f35 1)⟩
def F36:IFn:=⟨31,[(4,none)],(ay f36 1)⟩
def F37:IFn:=⟨26,[(4,none)],(ay f37 1)⟩
def F38:IFn:=⟨26,[(4,none)],(ay f38 1)⟩
def F39:IFn:=⟨10,[(5,none)],(ay f39 1)⟩
def F40:IFn:=⟨32,[(6,none)],(ay f40 1)⟩
def F41:IFn:=⟨32,[(6,none)],(ay f41 1)⟩
def F42:IFn:=⟨26,[(4,none)],(ay f42 1)⟩
def F43:IFn:=⟨14,[(2,none)],(ay f43 1)⟩
def F44:IFn:=⟨67,[],(ay f44 1)⟩
def F45:IFn:=⟨59,[(6,none)],(ay f45 1)⟩
def F46:IFn:=⟨53,[(4,some (some 6))],(ay f46 1)⟩
def F47:IFn:=⟨25,[(4,none)],(ay f47 1)⟩
def F48:IFn:=⟨23,[(2,none)],(ay f48 1)⟩
def F49:IFn:=⟨17,[(4,none)],(ay f49 1)⟩
def F50:IFn:=⟨6,[(2,none)],(ay f50 1)⟩
def F53:IFn:=⟨25,[(4,none)],(ay f53 1)⟩
def F54:IFn:=⟨76,[(2,none)],(ay f54 1)⟩
def F55:IFn:=⟨56,[(2,none)],(ay f55 1)⟩
def F56:IFn:=⟨3,[(0,none)],(ay f56 1)⟩
def F57:IFn:=⟨20,[(6,none)],(ay f57 1)⟩
def aaj:=Oy f58 2 _ (by cbv)
def aai:=Oy f58 5 _ (by cbv)
def aah:=Oy f58 19 _ (by cbv)
def aag:=Oy f58 139 _ (by cbv)
def aaf:=Oy f58 1227 _ (by cbv)
def aae:=Oy f58 1739 _ (by cbv)
def WO:IC:=.seq (aag) (.seq (.cond (.tmp 21) (.skip) (.exit 0)) (.block 1 (.seq (aaf) (aae))))
def WK:=Oy f58 23 _ (by cbv)
def WJ:=Oy f58 79 _ (by cbv)
def aad:=Oy f58 559 _ (by cbv)
def WN:=Oy f58 9007 _ (by cbv)
def WM:=Oy f58 13103 _ (by cbv)
def WL:=Oy f58 3887 _ (by cbv)
def Hi:IC:=.seq (aad) (.seq (.cond (.tmp 42) (.skip) (.exit 2)) (.seq (.block 3 (.seq (WN) (WM))) (WL)))
def NI:=Oy f58 95 _ (by cbv)
def Hh:IC:=.ops [(.free,[⟨some 60,.move,[.tmp 0],none,false,0,0⟩,⟨some 61,.nilCheck,[.tmp 60],none,false,1,1⟩,⟨some 62,.fieldAddr 4,[.tmp 61],none,false,2,3⟩,⟨some 63,.load none,[.tmp 62],none,false,3,7⟩,⟨some 64,.move,[.tmp 3],none,false,4,0⟩,⟨some 65,.call,[.val (.fn 95 [] []),.tmp 64],none,false,5,16⟩,⟨some 66,.move,[.tmp 0],none,false,6,0⟩,⟨some 67,.nilCheck,[.tmp 66],none,false,7,64⟩,⟨some 68,.fieldAddr 1,[.tmp 67],none,false,8,192⟩,⟨some 69,.load (some 2),[.tmp 68],none,false,9,448⟩,⟨some 70,.move,[.tmp 0],none,false,10,0⟩,⟨some 71,.nilCheck,[.tmp 70],none,false,11,1024⟩,⟨some 72,.fieldAddr 0,[.tmp 71],none,false,12,3072⟩,⟨some 73,.load none,[.tmp 72],none,false,13,7168⟩,⟨some 74,.call,[.val (.fn 77 [] []),.tmp 69,.tmp 73],none,false,14,16368⟩,⟨some 75,.move,[.tmp 0],none,false,15,0⟩,⟨some 76,.nilCheck,[.tmp 75],none,false,16,32768⟩,⟨some 77,.fieldAddr 6,[.tmp 76],none,false,17,98304⟩,⟨some 78,.load none,[.tmp 77],none,false,18,229376⟩,⟨some 79,.call,[.val (.fn 81 [] []),.tmp 78],none,false,19,524272⟩,⟨some 80,.build [.nilSlice,.nilSlice,.nilSlice,.nilSlice] [(0,1),(1,1),(2,1),(3,1)],[.tmp 63,.tmp 65,.tmp 74,.tmp 79],none,false,20,1048575⟩,⟨some 8,.alloc 50 4 [.nilSlice,.nilSlice,.nilSlice,.nilSlice],[],none,false,21,0⟩]),(.seq,[⟨none,.store 4,[.tmp 8,.tmp 80],none,true,22,4194303⟩])]
def Hg:=Oy f58 383 _ (by cbv)
def acz:IC:=.seq (aaj) (.seq (aai) (.seq (.seq (aah) (.block 0 (.loop WO))) (.seq (WK) (.seq (.seq (WJ) (.block 2 (.loop Hi))) (.seq (NI) (.seq (Hh) (.seq (Hg) (.ret))))))))
def F58:IFn:=⟨95,[(2,some (some 8))],acz⟩
def F59:IFn:=⟨3,[(0,some (some 4))],(ay f59 1)⟩
def F60:IFn:=⟨33,[(4,some (some 2)),(5,none)],(ay f60 1)⟩
def F61:IFn:=⟨28,[(6,none)],(ay f61 1)⟩
def F62:IFn:=⟨31,[(6,none)],(ay f62 1)⟩
def F63:IFn:=⟨67,[(6,none)],(ay f63 1)⟩
def F64:IFn:=⟨91,[(6,none)],(ay f64 1)⟩
def F65:IFn:=⟨41,[(6,none)],(ay f65 1)⟩
def F66:IFn:=⟨33,[(6,none)],(ay f66 1)⟩
def F67:IFn:=⟨33,[(6,none)],(ay f67 1)⟩
def F68:IFn:=⟨84,[(2,none)],(ay f68 1)⟩
def F69:IFn:=⟨82,[(4,some (some 6))],(ay f69 1)⟩
def F70:IFn:=⟨6,[(2,none)],(ay f70 1)⟩
def F72:IFn:=⟨19,[(2,none)],(ay f72 1)⟩
def F73:IFn:=⟨9,[(2,none)],(ay f73 1)⟩
def F74:IFn:=⟨84,[(2,some none)],(ay f74 1)⟩
def F75:IFn:=⟨65,[(2,none)],(ay f75 1)⟩
def F76:IFn:=⟨18,[(2,none)],(ay f76 1)⟩
def F77:IFn:=⟨33,[(4,none)],(ay f77 1)⟩
def F78:IFn:=⟨37,[(2,none)],(ay f78 1)⟩
def F79:IFn:=⟨24,[(2,none)],(ay f79 1)⟩
def F80:IFn:=⟨53,[(2,none)],(ay f80 1)⟩
def F81:IFn:=⟨11,[(2,none)],(ay f81 1)⟩
def F82:IFn:=⟨34,[(4,none)],(ay f82 1)⟩
def F83:IFn:=⟨32,[(4,none)],(ay f83 1)⟩
def F84:IFn:=⟨42,[(4,none)],(ay f84 1)⟩
def F85:IFn:=⟨38,[(4,none)],(ay f85 1)⟩
def F86:IFn:=⟨43,[(4,none)],(ay f86 1)⟩
def F87:IFn:=⟨24,[(4,none)],(ay f87 1)⟩
def F88:IFn:=⟨84,[(4,none)],(ay f88 1)⟩
def F89:IFn:=⟨44,[(4,none)],(ay f89 1)⟩
def F91:IFn:=⟨19,[(4,none)],(ay f91 1)⟩
def F92:IFn:=⟨17,[(4,none)],(ay f92 1)⟩
def F93:IFn:=⟨11,[(2,none)],(ay f93 1)⟩
def F95:IFn:=⟨11,[(2,none)],(ay f95 1)⟩
def F96:IFn:=⟨2,[(0,none)],(ay f96 1)⟩
def F97:IFn:=⟨28,[(4,none)],(ay f97 1)⟩
def F98:IFn:=⟨11,[(0,none)],(ay f98 1)⟩
def adF:IFn:=⟨4,[(2,none)],(ay f100 1)⟩
def adE:IFn:=⟨21,[(2,none)],(ay f101 1)⟩
def adD:IFn:=⟨15,[(2,none)],(ay f102 1)⟩
def adC:IFn:=⟨14,[(2,none)],(ay f103 1)⟩
def adB:IFn:=⟨11,[(2,none)],(ay f104 1)⟩
def adA:IFn:=⟨28,[(4,none)],(ay f105 1)⟩
def adz:IFn:=⟨11,[(2,none)],(ay f106 1)⟩
def ady:IFn:=⟨62,[(2,none)],(ay f107 1)⟩
def adx:IFn:=⟨113,[(2,none)],(ay f108 1)⟩
def adw:IFn:=⟨31,[(4,none),(5,none)],(ay f109 1)⟩
def adv:IFn:=⟨11,[(2,none)],(ay f110 1)⟩
def adu:IFn:=⟨11,[(2,none)],(ay f111 1)⟩
def adt:IFn:=⟨27,[(4,some (some 5)),(5,none)],(ay f112 1)⟩
def ads:IFn:=⟨18,[(2,some (some 5)),(3,none)],(ay f113 1)⟩
def adr:IFn:=⟨92,[(4,none)],(ay f114 1)⟩
def adq:IFn:=⟨44,[(4,none),(5,none),(6,none)],(ay f115 1)⟩
def adp:IFn:=⟨58,[(8,none)],(ay f116 1)⟩
def ado:IFn:=⟨103,[(8,none)],(ay f117 1)⟩
def adn:IFn:=⟨28,[(4,none)],(ay f118 1)⟩
def F119:IFn:=⟨68,[(6,some (some 2)),(7,none)],(ay f119 1)⟩
def adm:IFn:=⟨77,[(6,some (some 2)),(7,none)],(ay f120 1)⟩
def adl:IFn:=⟨18,[(2,none)],(ay f123 1)⟩
def adk:IFn:=⟨20,[(4,none)],(ay f124 1)⟩
def adj:IFn:=⟨20,[(4,none)],(ay f125 1)⟩
def adi:IFn:=⟨11,[],(ay f127 1)⟩
def adh:IFn:=⟨4,[(2,none)],(ay f128 1)⟩
def adg:IFn:=⟨9,[(2,none)],(ay f129 1)⟩
def adf:IFn:=⟨32,[(2,none),(3,none)],(ay f130 1)⟩
def ade:IFn:=⟨33,[(4,none)],(ay f131 1)⟩
def adc:IFn:=⟨17,[(4,none)],(ay f132 1)⟩
def adb:IFn:=⟨18,[],(ay f133 1)⟩
def ada:IFn:=⟨14,[(4,none)],(ay f134 1)⟩
def ac9:IFn:=⟨39,[],(ay f135 1)⟩
def ac8:IFn:=⟨9,[],(ay f136 1)⟩
def ac7:IFn:=⟨10,[(4,none)],(ay f137 1)⟩
def ac6:IFn:=⟨11,[(2,none)],(ay f138 1)⟩
def F139:IFn:=⟨80,[(8,none),(9,none)],(ay f139 1)⟩
def ac5:IFn:=⟨60,[(6,some (some 5)),(7,none)],(ay f140 1)⟩
def F141:IFn:=⟨82,[(6,none),(7,none)],(ay f141 1)⟩
def ac4:IFn:=⟨51,[(4,none)],(ay f142 1)⟩
def ac3:IFn:=⟨54,[(6,none)],(ay f143 1)⟩
def ac2:IFn:=⟨39,[(2,some (some 5)),(3,some (some 3)),(4,none)],(ay f144 1)⟩
def ac1:IFn:=⟨18,[(2,none)],(ay f145 1)⟩
def ac0:IFn:=⟨11,[(2,none)],(ay f146 1)⟩
def acZ:IFn:=⟨30,[(6,some (some 2))],(ay f147 1)⟩
def acY:IFn:=⟨6,[(2,none)],(ay f158 1)⟩
def acX:IFn:=⟨29,[],(ay f167 1)⟩
def acW:IFn:=⟨35,[(2,none)],(ay f168 1)⟩
def acV:IFn:=⟨43,[(2,none)],(ay f169 1)⟩
def acU:IFn:=⟨108,[(2,none)],(ay f170 1)⟩
def acT:IFn:=⟨11,[(2,none)],(ay f171 1)⟩
def acS:IFn:=⟨9,[(2,none)],(ay f172 1)⟩
def acR:IFn:=⟨63,[],(ay f173 1)⟩
def acQ:IFn:=⟨27,[(6,none)],(ay f174 1)⟩
def acP:IFn:=⟨28,[],(ay f175 1)⟩
def acO:IFn:=⟨11,[(2,none)],(ay f176 1)⟩
def acN:IFn:=⟨39,[(4,none)],(ay f177 1)⟩
def acM:IFn:=⟨11,[(2,none)],(ay f178 1)⟩
def acL:IFn:=⟨28,[],(ay f179 1)⟩
def acK:IFn:=⟨28,[],(ay f180 1)⟩
def acJ:IFn:=⟨11,[(2,none)],(ay f181 1)⟩
def F182:IFn:=⟨44,[(6,none)],(ay f182 1)⟩
def F191:IFn:=⟨70,[(4,none)],(ay f191 1)⟩
def acI:IFn:=⟨25,[(4,some (some 2))],(ay f192 1)⟩
def acH:IFn:=⟨53,[],(ay f193 1)⟩
def WP:IFn:=⟨220,[],(ay f194 1)⟩
def acG:IFn:=⟨11,[(2,none)],(ay f195 1)⟩
def acF:IFn:=⟨20,[(2,none)],(ay f196 1)⟩
def acE:IFn:=⟨33,[(4,none)],(ay f199 1)⟩
def acD:IFn:=⟨9,[(2,none)],(ay f200 1)⟩
def acC:IFn:=⟨58,[],(ay f201 1)⟩
def acB:IFn:=⟨38,[],(ay f202 1)⟩
def fnT:Tr IFn:=.node (none) (.node (none) (.node (some F3) (.node (some F7) (.node (some F15) (.node (some F31) (.node (some F63) (.node (some adi) (.leaf) (.leaf)) (.node (some F191) (.leaf) (.leaf))) (.node (some F95) (.leaf) (.leaf))) (.node (some F47) (.node (some F79) (.node (some ac3) (.leaf) (.leaf)) (.leaf)) (.node (some adu) (.node (some acP) (.leaf) (.leaf)) (.leaf)))) (.node (some F23) (.node (some F39) (.node (none) (.node (some ac9) (.leaf) (.leaf)) (.node (some acE) (.leaf) (.leaf))) (.node (some adC) (.node (some acX) (.leaf) (.leaf)) (.leaf))) (.node (some F55) (.node (some F87) (.leaf) (.leaf)) (.node (some F119) (.leaf) (.leaf))))) (.node (some F11) (.node (some F19) (.node (some F35) (.node (some F67) (.node (some ade) (.leaf) (.leaf)) (.node (some acG) (.leaf) (.leaf))) (.leaf)) (.node (none) (.node (some F83) (.node (some acZ) (.leaf) (.leaf)) (.leaf)) (.node (some adq) (.node (some acL) (.leaf) (.leaf)) (.leaf)))) (.node (some F27) (.node (some F43) (.node (some F75) (.node (some F139) (.leaf) (.leaf)) (.leaf)) (.node (some ady) (.node (some acT) (.leaf) (.leaf)) (.leaf))) (.node (some F59) (.node (some F91) (.leaf) (.leaf)) (.node (some adl) (.leaf) (.leaf)))))) (.node (some F5) (.node (some F9) (.node (some F17) (.node (some F33) (.node (some F65) (.node (some adg) (.leaf) (.leaf)) (.node (some acH) (.leaf) (.leaf))) (.node (some F97) (.leaf) (.leaf))) (.node (some F49) (.node (some F81) (.node (some ac1) (.leaf) (.leaf)) (.leaf)) (.node (some ads) (.node (some acN) (.leaf) (.leaf)) (.leaf)))) (.node (some F25) (.node (some F41) (.node (some F73) (.node (some ac7) (.leaf) (.leaf)) (.node (some acC) (.leaf) (.leaf))) (.node (some adA) (.node (some acV) (.leaf) (.leaf)) (.leaf))) (.node (some F57) (.node (some F89) (.leaf) (.leaf)) (.leaf)))) (.node (some F13) (.node (some F21) (.node (some F37) (.node (some F69) (.node (some adb) (.leaf) (.leaf)) (.leaf)) (.node (some adE) (.leaf) (.leaf))) (.node (some F53) (.node (some F85) (.leaf) (.leaf)) (.node (some ado) (.node (some acJ) (.leaf) (.leaf)) (.leaf)))) (.node (some F29) (.node (some F45) (.node (some F77) (.node (some F141) (.leaf) (.leaf)) (.leaf)) (.node (some adw) (.node (some acR) (.leaf) (.leaf)) (.leaf))) (.node (some F61) (.node (some F93) (.leaf) (.leaf)) (.node (some adj) (.leaf) (.leaf))))))) (.node (none) (.node (some F4) (.node (some F8) (.node (some F16) (.node (some F32) (.node (some F64) (.node (some adh) (.leaf) (.leaf)) (.node (some acI) (.leaf) (.leaf))) (.node (some F96) (.leaf) (.leaf))) (.node (some F48) (.node (some F80) (.node (some ac2) (.leaf) (.leaf)) (.leaf)) (.node (some adt) (.node (some acO) (.leaf) (.leaf)) (.leaf)))) (.node (some F24) (.node (some F40) (.node (some F72) (.node (some ac8) (.leaf) (.leaf)) (.node (some acD) (.leaf) (.leaf))) (.node (some adB) (.node (some acW) (.leaf) (.leaf)) (.leaf))) (.node (some F56) (.node (some F88) (.leaf) (.leaf)) (.node (some adm) (.leaf) (.leaf))))) (.node (some F12) (.node (some F20) (.node (some F36) (.node (some F68) (.node (some adc) (.leaf) (.leaf)) (.node (some acF) (.leaf) (.leaf))) (.node (some adF) (.leaf) (.leaf))) (.node (none) (.node (some F84) (.leaf) (.leaf)) (.node (some adp) (.node (some acK) (.leaf) (.leaf)) (.leaf)))) (.node (some F28) (.node (some F44) (.node (some F76) (.node (some ac5) (.leaf) (.leaf)) (.leaf)) (.node (some adx) (.node (some acS) (.leaf) (.leaf)) (.leaf))) (.node (some F60) (.node (some F92) (.leaf) (.leaf)) (.node (some adk) (.leaf) (.leaf)))))) (.node (some F6) (.node (some F10) (.node (some F18) (.node (some F34) (.node (some F66) (.node (some adf) (.leaf) (.leaf)) (.node (some WP) (.leaf) (.leaf))) (.node (some F98) (.leaf) (.leaf))) (.node (some F50) (.node (some F82) (.node (some ac0) (.leaf) (.leaf)) (.leaf)) (.node (some adr) (.node (some acM) (.leaf) (.leaf)) (.leaf)))) (.node (none) (.node (some F42) (.node (some F74) (.node (some ac6) (.leaf) (.leaf)) (.node (some acB) (.leaf) (.leaf))) (.node (some adz) (.node (some acU) (.leaf) (.leaf)) (.leaf))) (.node (some F58) (.leaf) (.leaf)))) (.node (some F14) (.node (some F22) (.node (some F38) (.node (some F70) (.node (some ada) (.leaf) (.leaf)) (.leaf)) (.node (some adD) (.leaf) (.leaf))) (.node (some F54) (.node (some F86) (.leaf) (.leaf)) (.node (some adn) (.node (some F182) (.leaf) (.leaf)) (.leaf)))) (.node (some F30) (.node (some F46) (.node (some F78) (.node (some ac4) (.leaf) (.leaf)) (.leaf)) (.node (some adv) (.node (some acQ) (.leaf) (.leaf)) (.leaf))) (.node (some F62) (.node (none) (.node (some acY) (.leaf) (.leaf)) (.leaf)) (.leaf))))))
def tabs:List (List Int):=[[-1,1]]
def E0:Env:={fns:=fnT.get,sums:=λf=>if f=58 then some (iA prog 1 58 stC) else if f=26 then some (iA prog 1 26 ML) else none,g0:=1}
theorem ZZ:E0.g0=1:=rfl
theorem aZ:WF E0:=by intro f s hs args lo H v H' h;have E:(if f=58 then some (iA prog 1 58 stC) else if f=26 then some (iA prog 1 26 ML) else none)=some s:=hs;split at E;{injection E with E;subst E;exact vo h};split at E;{injection E with E;subst E;exact vo h};{cases E}
section
variable {lo:Nat}{rd:Option Nat}{fr:Fr}{H:Heap}{Q:A1}{args:List IV}
theorem so{c:IC}{l:List (Sg×List IOp)}(h:c=.ops l){lo:Nat}{rd:Option Nat}{fr:Fr}{H:Heap}{Q:A1}:W E0 lo (.code c rd fr) H Q=W E0 lo (.segs l rd fr) H Q:=by subst h;exact aaa
def aM(f:Func)(p:Nat){c:(Nat->IC)->(Nat->IC)->IC}(h:∀g k,ZS f p g k=c g k:=by intro g k;cbv):ay f p=c (dV f) (pz f):=h _ _
def bX(f:Func)(p:Nat){c:(Nat->IC)->(Nat->IC)->IC}(h:∀g k,ZS f p g k=c g k:=by intro g k;cbv):pz f p=c (dV f) (Jj f):=h _ _
def sT(f:Func)(p:Nat){c:(Nat->IC)->(Nat->IC)->IC}(h:∀g k,ZS f p g k=c g k:=by intro g k;cbv):Jj f p=c (dV f) (lb3 f):=h _ _
def ru3(f:Func)(p:Nat){c:(Nat->IC)->(Nat->IC)->IC}(h:∀g k,ZS f p g k=c g k:=by intro g k;cbv):lb3 f p=c (dV f) (λ_=>.skip):=h _ _
theorem afq{P:Program}{o:Array Oper}{d:Bool}(h:oR0 P o d=true):de P o d=cR0 P o d:=by unfold de cR0;unfold oR0 at h;cases e:o.toList.mapM (jg P o) with|none=>rfl|some l=>(rw[e] at h;cases d with|false=>rfl|true=>(simp only[Bool.not_true,wG,bp] at h;obtain⟨⟨⟨a,b⟩,c⟩,d⟩:=h;simp[a,b,c,d]))
theorem ahF{f:Func}{p:Nat}(h:oP0 f p=true):dV f p=gR0 f p:=by unfold oP0 at h;unfold dV gR0;cases e:f.body with|none=>rfl|some c=>(rw[e] at h;simp only at h ⊢;cases q:pj0 64 p c with|region a o d=>(rw[q] at h;simp only at h ⊢;rw[<-afq h];rfl)|_=>(rw[q] at h;cases h))
def ab(f:Func)(p:Nat){l:List (Sg×List IOp)}(h:gR0 f p=.ops l:=by cbv)(k:oP0 f p=true:=by kernel_rfl)(lo:Nat)(rd:Option Nat)(fr:Fr)(H:Heap)(Q:A1):W E0 lo (.code (dV f p) rd fr) H Q=W E0 lo (.segs l rd fr) H Q:=so ((ahF k).trans h)
def j_(f:Func)(p:Nat){l:List (Sg×List IOp)}{q:Prop}(zz:q)(h:gR0 f p=.ops l:=by cbv)(k:oP0 f p=true:=by kernel_rfl):=J0 (ab f p h k) zz
abbrev Wc(n:Nat)(f:IFn)(b:IC):Prop:=∀{lo:Nat}{H:Heap}{Q:A1}{args:List IV},W E0 lo (.call n args) H Q=W E0 lo (.code b none ⟨args++dC (f.ntmps - args.length),[]⟩) H (kM lo f.results Q)
def B58:=J0 (@so aaj _ rfl)<|J0 (@so aai _ rfl)<|J0 (@so aah _ rfl)<|J0 (@so aag _ rfl)<|J0 (@so aaf _ rfl)<|J0 (@so aae _ rfl)<|J0 (@so WK _ rfl)<|J0 (@so WJ _ rfl)<|J0 (@so aad _ rfl)<|J0 (@so WN _ rfl)<|J0 (@so WM _ rfl)<|J0 (@so WL _ rfl)<|J0 (@so NI _ rfl)<|J0 (@so Hh _ rfl)<|J0 (@so Hg _ rfl)<|J0 acz.eq_1 (F58.eq_1)
def Zj:=J0 B58<|J0 WO.eq_1 (Hi.eq_1)
theorem c58{H':Heap}{v:IV}(E:stC args H=some (v,H'))(F:Keep lo H H')(hs:CallSim prog 1 58 args lo H v H')(h:Q (.val v) H'):W E0 lo (.call 58 args) H Q:=Z9 (s:=iA prog 1 58 stC) rfl (qw E F hs) h
theorem c26{H':Heap}{v:IV}(E:ML args H=some (v,H'))(F:Keep lo H H')(hs:CallSim prog 1 26 args lo H v H')(h:Q (.val v) H'):W E0 lo (.call 26 args) H Q:=Z9 (s:=iA prog 1 26 ML) rfl (qw E F hs) h
end
end
end Go.Iso.Gen
