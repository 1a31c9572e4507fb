/-
  the code that the claim reaches, for the evaluator.
-/
import Derived.Test.YtadopgcoggpcdabGreatDoorIsoP5
import Derived.Test.YtadopgcoggpcdabGreatDoorIsoP7
import Derived.Test.YtadopgcoggpcdabGreatDoorFnZ
import Derived.Test.YtadopgcoggpcdabGreatDoorProg
import Derived.KernelRfl
set_option linter.unusedSimpArgs false
set_option linter.unusedVariables false
set_option maxRecDepth 100000
set_option maxHeartbeats 4000000
set_option linter.defProp false
namespace Go.Iso.Gen
open Go.Proofs Go.Proofs.Tryz
noncomputable section
def PgT:Program:=⟨Tryz.progTables,#[]⟩
def agz(b:Bool):Code->Code|.seq a c=>if b then c else a|.cond _ a c=>if b then c else a|.block _ a=>a|.loop a=>a|.scope a=>a|.rangeFunc _ _ a c=>if b then c else a|c=>c
def pj0:Nat->Nat->Code->Code|0,_,c=>c|n+1,p,c=>if p<=1 then c else pj0 n (p / 2) (agz (p%2==1) c)
def aZ(f:Func)(p:Nat):IC:=match f.body with|some c=>(bh PgT (pj0 64 p c)).getD .skip|none=>.skip
def Qs(f:Func)(p:Nat)(c:IC)(_:aZ f p=c):IC:=c
def kk0(k:Nat->IC)(p:Nat):IC:=k p
def YL(g k:Nat->IC):Code->Nat->Nat->IC|.region _ _ _,p,_=>g p|.seq a b,p,w=>.seq (YL g k a (p+w) (2*w)) (YL g k b (p+2*w) (2*w))|.cond c a b,p,w=>.cond ((tt c).getD (.tmp 0)) (YL g k a (p+w) (2*w)) (YL g k b (p+2*w) (2*w))|.block id c,p,w=>.block id (YL g k c (p+w) (2*w))|.scope c,p,w=>.scope (YL g k c (p+w) (2*w))|.loop _,p,w=>.loop (kk0 k (p+w))|.rangeFunc f q a b,p,w=>.rfn ((tt f).getD (.tmp 0)) q.toList (YL g k a (p+w) (2*w)) (YL g k b (p+2*w) (2*w))|.exit id,_,_=>.exit id|.ret,_,_=>.ret|_,_,_=>.skip
def wb0:Nat->Nat->Nat->Nat|0,_,w=>w|n+1,p,w=>if p<=1 then w else wb0 n (p/2) (2*w)
def lbg(f:Func)(p:Nat)(g k:Nat->IC):IC:=match f.body with|some c=>YL g k (pj0 64 p c) p (wb0 64 p 1)|none=>.skip
def cR0(P:Program)(o:Array Oper)(d:Bool):Option (List (Sg×List IOp)):=(o.toList.mapM (mf P o)).map λl=>if d then parts (jQ o.toList []) (mJ (jQ o.toList []) l l 0) 0 [] else [(.seq,l)]
def oR0(P:Program)(o:Array Oper)(d:Bool):Bool:=match o.toList.mapM (mf P o) with|some l=>!d||(Aq o&&KL o.toList 0&&vk (jQ o.toList []) (mJ (jQ o.toList []) l l 0) 0&&qQ (jQ o.toList []) (mJ (jQ o.toList []) l l 0) 0)|none=>true
def gR0(f:Func)(p:Nat):IC:=match f.body with|some c=>(match pj0 64 p c with|.region _ o d=>((cR0 PgT o d).map .ops).getD .skip|_=>.skip)|none=>.skip
def oP0(f:Func)(p:Nat):Bool:=match f.body with|some c=>(match pj0 64 p c with|.region _ o d=>oR0 PgT o d|_=>false)|none=>false
def lb3(f:Func)(p:Nat):IC:=lbg f p (aZ f) (λ_=>.skip)
def ME(f:Func)(p:Nat):IC:=lbg f p (aZ f) (lb3 f)
def zr(f:Func)(p:Nat):IC:=lbg f p (aZ f) (ME f)
def aw(f:Func)(p:Nat):IC:=lbg f p (aZ f) (zr f)
theorem J0{a b:Prop}(h:a)(k:b):a/\b:=⟨h,k⟩
def QG(n:Nat):IFn:=(jp prog n).getD ⟨0,[],.skip⟩
def F3:IFn:=⟨81,[(0,none)],(aw f3 1)⟩
def F4:IFn:=⟨115,[(6,none)],(aw f4 1)⟩
def F5:IFn:=⟨239,[(4,none)],(aw f5 1)⟩
def F6:IFn:=⟨184,[(6,none)],(aw f6 1)⟩
def F7:IFn:=⟨113,[(6,none)],(aw f7 1)⟩
def F8:IFn:=⟨110,[(2,none)],(aw f8 1)⟩
def F9:IFn:=⟨101,[(0,none)],(aw f9 1)⟩
def Yl:IFn:=⟨62,[(2,none)],(aw f10 1)⟩
def F11:IFn:=⟨116,[(6,none),(7,some (some 8)),(8,none)],(aw f11 1)⟩
def Lh:IFn:=⟨99,[(6,none),(7,none)],(aw f12 1)⟩
def F13:IFn:=⟨72,[(2,some (some 87))],(aw f13 1)⟩
def F14:IFn:=⟨47,[(4,some (some 8)),(5,none),(6,none)],(aw f14 1)⟩
def F15:IFn:=⟨17,[(2,some (some 4)),(3,none)],(aw f15 1)⟩
def F16:IFn:=⟨35,[(4,none)],(aw f16 1)⟩
def F17:IFn:=⟨4,[(0,some (some 8))],(aw f17 1)⟩
def F18:IFn:=⟨11,[(4,none),(5,none)],(aw f18 1)⟩
def F19:IFn:=⟨27,[(4,some (some 8)),(5,none)],(aw f19 1)⟩
def F20:IFn:=⟨11,[(4,none),(5,none)],(aw f20 1)⟩
def F21:IFn:=⟨13,[(2,none),(3,none)],(aw f21 1)⟩
def F22:IFn:=⟨33,[(4,none)],(aw f22 1)⟩
def F23:IFn:=⟨22,[(4,none)],(aw f23 1)⟩
def F24:IFn:=⟨73,[(4,some (some 6))],(aw f24 1)⟩
def F25:IFn:=⟨37,[(4,some (some 8)),(5,some (some 8)),(6,none)],(aw f25 1)⟩
def F26:IFn:=⟨28,[],(aw f26 1)⟩
def F27:IFn:=⟨16,[(6,none)],(aw f27 1)⟩
def F28:IFn:=⟨29,[(4,some (some 8)),(5,none)],(aw f28 1)⟩
def F29:IFn:=⟨9,[(2,none)],(aw f29 1)⟩
def F30:IFn:=⟨4,[(2,none)],(aw f30 1)⟩
def F31:IFn:=⟨37,[(6,none)],(aw f31 1)⟩
def F32:IFn:=⟨76,[(2,none)],(aw f32 1)⟩
def F33:IFn:=⟨56,[(2,none)],(aw f33 1)⟩
def F34:IFn:=⟨3,[(0,none)],(aw f34 1)⟩
def F35:IFn:=⟨20,[(6,none)],(aw f35 1)⟩
def aaW:=Qs f36 2 _ (by cbv)
def aaV:=Qs f36 5 _ (by cbv)
def aaU:=Qs f36 19 _ (by cbv)
def aaT:=Qs f36 139 _ (by cbv)
def aaS:=Qs f36 1227 _ (by cbv)
def aaR:=Qs f36 1739 _ (by cbv)
def X2:IC:=.seq (aaT) (.seq (.cond (.tmp 21) (.skip) (.exit 0)) (.block 1 (.seq (aaS) (aaR))))
def XY:=Qs f36 23 _ (by cbv)
def XX:=Qs f36 79 _ (by cbv)
def aaQ:=Qs f36 559 _ (by cbv)
def X1:=Qs f36 9007 _ (by cbv)
def X0:=Qs f36 13103 _ (by cbv)
def XZ:=Qs f36 3887 _ (by cbv)
def La:IC:=.seq (aaQ) (.seq (.cond (.tmp 42) (.skip) (.exit 2)) (.seq (.block 3 (.seq (X1) (X0))) (XZ)))
def P7:=Qs f36 95 _ (by cbv)
def K9:IC:=.ops [(.free,[⟨some 60,.move,[.tmp 0],none,false,0,0⟩,⟨some 61,.nilCheck,[.tmp 60],none,false,1,1⟩,⟨some 62,.fieldAddr 4,[.tmp 61],none,false,2,3⟩,⟨some 63,.load none,[.tmp 62],none,false,3,7⟩,⟨some 64,.move,[.tmp 3],none,false,4,0⟩,⟨some 65,.call,[.val (.fn 74 [] []),.tmp 64],none,false,5,16⟩,⟨some 66,.move,[.tmp 0],none,false,6,0⟩,⟨some 67,.nilCheck,[.tmp 66],none,false,7,64⟩,⟨some 68,.fieldAddr 1,[.tmp 67],none,false,8,192⟩,⟨some 69,.load (some 2),[.tmp 68],none,false,9,448⟩,⟨some 70,.move,[.tmp 0],none,false,10,0⟩,⟨some 71,.nilCheck,[.tmp 70],none,false,11,1024⟩,⟨some 72,.fieldAddr 0,[.tmp 71],none,false,12,3072⟩,⟨some 73,.load none,[.tmp 72],none,false,13,7168⟩,⟨some 74,.call,[.val (.fn 55 [] []),.tmp 69,.tmp 73],none,false,14,16368⟩,⟨some 75,.move,[.tmp 0],none,false,15,0⟩,⟨some 76,.nilCheck,[.tmp 75],none,false,16,32768⟩,⟨some 77,.fieldAddr 6,[.tmp 76],none,false,17,98304⟩,⟨some 78,.load none,[.tmp 77],none,false,18,229376⟩,⟨some 79,.call,[.val (.fn 59 [] []),.tmp 78],none,false,19,524272⟩,⟨some 80,.build [.nilSlice,.nilSlice,.nilSlice,.nilSlice] [(0,1),(1,1),(2,1),(3,1)],[.tmp 63,.tmp 65,.tmp 74,.tmp 79],none,false,20,1048575⟩,⟨some 8,.alloc 45 4 [.nilSlice,.nilSlice,.nilSlice,.nilSlice],[],none,false,21,0⟩]),(.seq,[⟨none,.store 4,[.tmp 8,.tmp 80],none,true,22,4194303⟩])]
def K8:=Qs f36 383 _ (by cbv)
def acR:IC:=.seq (aaW) (.seq (aaV) (.seq (.seq (aaU) (.block 0 (.loop X2))) (.seq (XY) (.seq (.seq (XX) (.block 2 (.loop La))) (.seq (P7) (.seq (K9) (.seq (K8) (.ret))))))))
def F36:IFn:=⟨95,[(2,some (some 8))],acR⟩
def F37:IFn:=⟨31,[(4,none)],(aw f37 1)⟩
def F38:IFn:=⟨26,[(4,none)],(aw f38 1)⟩
def F39:IFn:=⟨26,[(4,none)],(aw f39 1)⟩
def F40:IFn:=⟨10,[(5,none)],(aw f40 1)⟩
def F41:IFn:=⟨32,[(6,none)],(aw f41 1)⟩
def F42:IFn:=⟨32,[(6,none)],(aw f42 1)⟩
def F43:IFn:=⟨26,[(4,none)],(aw f43 1)⟩
def F44:IFn:=⟨3,[(0,some (some 4))],(aw f44 1)⟩
def F45:IFn:=⟨47,[(6,none),(7,none)],(aw f45 1)⟩
def F46:IFn:=⟨5,[(2,none)],(aw f46 1)⟩
def F47:IFn:=⟨9,[(2,none)],(aw f47 1)⟩
def F48:IFn:=⟨38,[(4,none)],(aw f48 1)⟩
def F49:IFn:=⟨20,[(4,none)],(aw f49 1)⟩
def F50:IFn:=⟨32,[(6,none)],(aw f50 1)⟩
def Yk:IFn:=⟨59,[],(aw f51 1)⟩
def F52:IFn:=⟨84,[(2,some none)],(aw f52 1)⟩
def F53:IFn:=⟨65,[(2,none)],(aw f53 1)⟩
def F54:IFn:=⟨18,[(2,none)],(aw f54 1)⟩
def F55:IFn:=⟨33,[(4,none)],(aw f55 1)⟩
def F56:IFn:=⟨37,[(2,none)],(aw f56 1)⟩
def F57:IFn:=⟨24,[(2,none)],(aw f57 1)⟩
def F58:IFn:=⟨53,[(2,none)],(aw f58 1)⟩
def F59:IFn:=⟨11,[(2,none)],(aw f59 1)⟩
def F60:IFn:=⟨34,[(4,none)],(aw f60 1)⟩
def F61:IFn:=⟨32,[(4,none)],(aw f61 1)⟩
def F62:IFn:=⟨42,[(4,none)],(aw f62 1)⟩
def F63:IFn:=⟨38,[(4,none)],(aw f63 1)⟩
def F64:IFn:=⟨43,[(4,none)],(aw f64 1)⟩
def F65:IFn:=⟨24,[(4,none)],(aw f65 1)⟩
def F66:IFn:=⟨84,[(4,none)],(aw f66 1)⟩
def F67:IFn:=⟨44,[(4,none)],(aw f67 1)⟩
def F68:IFn:=⟨14,[(2,none)],(aw f68 1)⟩
def F69:IFn:=⟨14,[],(aw f69 1)⟩
def F70:IFn:=⟨19,[(4,none)],(aw f70 1)⟩
def F71:IFn:=⟨17,[(4,none)],(aw f71 1)⟩
def F72:IFn:=⟨11,[(2,none)],(aw f72 1)⟩
def F73:IFn:=⟨14,[],(aw f73 1)⟩
def F74:IFn:=⟨11,[(2,none)],(aw f74 1)⟩
def F75:IFn:=⟨2,[(0,none)],(aw f75 1)⟩
def F76:IFn:=⟨13,[(4,none)],(aw f76 1)⟩
def F77:IFn:=⟨14,[(4,none)],(aw f77 1)⟩
def F78:IFn:=⟨32,[(6,none)],(aw f78 1)⟩
def F79:IFn:=⟨20,[(2,none)],(aw f79 1)⟩
def F80:IFn:=⟨4,[(2,none)],(aw f80 1)⟩
def F81:IFn:=⟨21,[(2,none)],(aw f81 1)⟩
def F82:IFn:=⟨15,[(2,none)],(aw f82 1)⟩
def F83:IFn:=⟨14,[(2,none)],(aw f83 1)⟩
def F84:IFn:=⟨11,[(2,none)],(aw f84 1)⟩
def F85:IFn:=⟨28,[(4,none)],(aw f85 1)⟩
def F86:IFn:=⟨11,[(2,none)],(aw f86 1)⟩
def F87:IFn:=⟨62,[(2,none)],(aw f87 1)⟩
def F88:IFn:=⟨113,[(2,none)],(aw f88 1)⟩
def F89:IFn:=⟨31,[(4,none),(5,none)],(aw f89 1)⟩
def F90:IFn:=⟨11,[(2,none)],(aw f90 1)⟩
def F91:IFn:=⟨11,[(2,none)],(aw f91 1)⟩
def F92:IFn:=⟨27,[(4,some (some 5)),(5,none)],(aw f92 1)⟩
def F93:IFn:=⟨18,[(2,some (some 5)),(3,none)],(aw f93 1)⟩
def F94:IFn:=⟨92,[(4,none)],(aw f94 1)⟩
def F95:IFn:=⟨44,[(4,none),(5,none),(6,none)],(aw f95 1)⟩
def F96:IFn:=⟨58,[(8,none)],(aw f96 1)⟩
def F97:IFn:=⟨103,[(8,none)],(aw f97 1)⟩
def F98:IFn:=⟨28,[(4,none)],(aw f98 1)⟩
def F99:IFn:=⟨33,[(4,some (some 2)),(5,none)],(aw f99 1)⟩
def adE:IFn:=⟨25,[(4,none)],(aw f100 1)⟩
def F101:IFn:=⟨68,[(6,some (some 2)),(7,none)],(aw f101 1)⟩
def X4:IFn:=⟨77,[(6,some (some 2)),(7,none)],(aw f102 1)⟩
def adD:IFn:=⟨84,[(2,none)],(aw f103 1)⟩
def adC:IFn:=⟨18,[(2,none)],(aw f106 1)⟩
def adB:IFn:=⟨20,[(4,none)],(aw f107 1)⟩
def adA:IFn:=⟨20,[(4,none)],(aw f108 1)⟩
def adz:IFn:=⟨11,[],(aw f110 1)⟩
def ady:IFn:=⟨4,[(2,none)],(aw f111 1)⟩
def adx:IFn:=⟨9,[(2,none)],(aw f112 1)⟩
def adw:IFn:=⟨32,[(2,none),(3,none)],(aw f113 1)⟩
def adv:IFn:=⟨33,[(4,none)],(aw f114 1)⟩
def adu:IFn:=⟨17,[(4,none)],(aw f115 1)⟩
def adt:IFn:=⟨18,[],(aw f116 1)⟩
def ads:IFn:=⟨14,[(4,none)],(aw f117 1)⟩
def TM:IFn:=⟨39,[],(aw f118 1)⟩
def adr:IFn:=⟨9,[],(aw f119 1)⟩
def adq:IFn:=⟨10,[(4,none)],(aw f120 1)⟩
def adp:IFn:=⟨11,[(2,none)],(aw f121 1)⟩
def F122:IFn:=⟨80,[(8,none),(9,none)],(aw f122 1)⟩
def ado:IFn:=⟨60,[(6,some (some 5)),(7,none)],(aw f123 1)⟩
def F124:IFn:=⟨82,[(6,none),(7,none)],(aw f124 1)⟩
def adn:IFn:=⟨51,[(4,none)],(aw f125 1)⟩
def adm:IFn:=⟨54,[(6,none)],(aw f126 1)⟩
def adl:IFn:=⟨39,[(2,some (some 5)),(3,some (some 3)),(4,none)],(aw f127 1)⟩
def adk:IFn:=⟨18,[(2,none)],(aw f128 1)⟩
def adj:IFn:=⟨19,[(2,none)],(aw f129 1)⟩
def adi:IFn:=⟨11,[(2,none)],(aw f130 1)⟩
def adh:IFn:=⟨9,[(2,none)],(aw f131 1)⟩
def adg:IFn:=⟨30,[(6,some (some 2))],(aw f132 1)⟩
def adf:IFn:=⟨11,[(0,none)],(aw f133 1)⟩
def ade:IFn:=⟨6,[(2,none)],(aw f144 1)⟩
def adc:IFn:=⟨6,[(2,none)],(aw f145 1)⟩
def adb:IFn:=⟨29,[],(aw f154 1)⟩
def ada:IFn:=⟨35,[(2,none)],(aw f155 1)⟩
def ac9:IFn:=⟨43,[(2,none)],(aw f156 1)⟩
def ac8:IFn:=⟨108,[(2,none)],(aw f157 1)⟩
def ac7:IFn:=⟨11,[(2,none)],(aw f158 1)⟩
def ac6:IFn:=⟨9,[(2,none)],(aw f159 1)⟩
def N4:IFn:=⟨63,[],(aw f160 1)⟩
def ac5:IFn:=⟨27,[(6,none)],(aw f161 1)⟩
def ac4:IFn:=⟨28,[],(aw f162 1)⟩
def ac3:IFn:=⟨11,[(2,none)],(aw f163 1)⟩
def ac2:IFn:=⟨39,[(4,none)],(aw f164 1)⟩
def ac1:IFn:=⟨11,[(2,none)],(aw f165 1)⟩
def ac0:IFn:=⟨28,[],(aw f166 1)⟩
def acZ:IFn:=⟨28,[],(aw f167 1)⟩
def acY:IFn:=⟨11,[(2,none)],(aw f168 1)⟩
def F169:IFn:=⟨44,[(6,none)],(aw f169 1)⟩
def F178:IFn:=⟨70,[(4,none)],(aw f178 1)⟩
def acX:IFn:=⟨25,[(4,some (some 2))],(aw f179 1)⟩
def TL:IFn:=⟨53,[],(aw f180 1)⟩
def Bh:IFn:=⟨220,[],(aw f181 1)⟩
def acW:IFn:=⟨11,[(2,none)],(aw f182 1)⟩
def acV:IFn:=⟨33,[(4,none)],(aw f185 1)⟩
def acU:IFn:=⟨9,[(2,none)],(aw f186 1)⟩
def acT:IFn:=⟨58,[],(aw f187 1)⟩
def acS:IFn:=⟨38,[],(aw f188 1)⟩
def fnT:Tr IFn:=.node (none) (.node (none) (.node (some F3) (.node (some F7) (.node (some F15) (.node (some F31) (.node (some F63) (.node (some adl) (.leaf) (.leaf)) (.leaf)) (.node (some F95) (.node (some ac6) (.leaf) (.leaf)) (.leaf))) (.node (some F47) (.node (some F79) (.node (some (QG 143)) (.leaf) (.leaf)) (.leaf)) (.node (some ady) (.node (some (QG 175)) (.leaf) (.leaf)) (.leaf)))) (.node (some F23) (.node (some F39) (.node (some F71) (.node (some (QG 135)) (.leaf) (.leaf)) (.leaf)) (.node (some adD) (.node (some acZ) (.leaf) (.leaf)) (.leaf))) (.node (some F55) (.node (some F87) (.node (some (QG 151)) (.leaf) (.leaf)) (.leaf)) (.node (some adr) (.node (some (QG 183)) (.leaf) (.leaf)) (.leaf))))) (.node (some F11) (.node (some F19) (.node (some F35) (.node (some F67) (.node (some adh) (.leaf) (.leaf)) (.leaf)) (.node (some F99) (.node (some ac3) (.leaf) (.leaf)) (.leaf))) (.node (some Yk) (.node (some F83) (.node (some (QG 147)) (.leaf) (.leaf)) (.leaf)) (.node (some adu) (.node (some acX) (.leaf) (.leaf)) (.leaf)))) (.node (some F27) (.node (some F43) (.node (some F75) (.node (some (QG 139)) (.leaf) (.leaf)) (.leaf)) (.node (some adB) (.node (some (QG 171)) (.leaf) (.leaf)) (.leaf))) (.node (some F59) (.node (some F91) (.node (some ada) (.leaf) (.leaf)) (.leaf)) (.node (some ado) (.node (some acT) (.leaf) (.leaf)) (.leaf)))))) (.node (some F5) (.node (some F9) (.node (some F17) (.node (some F33) (.node (some F65) (.node (some adj) (.leaf) (.leaf)) (.leaf)) (.node (some F97) (.node (some ac5) (.leaf) (.leaf)) (.leaf))) (.node (some F49) (.node (some F81) (.node (some adc) (.leaf) (.leaf)) (.leaf)) (.node (some adw) (.node (some (QG 177)) (.leaf) (.leaf)) (.leaf)))) (.node (some F25) (.node (some F41) (.node (some F73) (.node (some (QG 137)) (.leaf) (.leaf)) (.leaf)) (.node (some (QG 105)) (.node (some F169) (.leaf) (.leaf)) (.leaf))) (.node (some F57) (.node (some F89) (.node (some (QG 153)) (.leaf) (.leaf)) (.leaf)) (.node (some adp) (.node (some acV) (.leaf) (.leaf)) (.leaf))))) (.node (some F13) (.node (some F21) (.node (some F37) (.node (some F69) (.node (some adf) (.leaf) (.leaf)) (.leaf)) (.node (some F101) (.node (some ac1) (.leaf) (.leaf)) (.leaf))) (.node (some F53) (.node (some F85) (.node (some (QG 149)) (.leaf) (.leaf)) (.leaf)) (.node (some ads) (.node (some Bh) (.leaf) (.leaf)) (.leaf)))) (.node (some F29) (.node (some F45) (.node (some F77) (.node (some (QG 141)) (.leaf) (.leaf)) (.leaf)) (.node (some (QG 109)) (.node (some (QG 173)) (.leaf) (.leaf)) (.leaf))) (.node (some F61) (.node (some F93) (.node (some ac8) (.leaf) (.leaf)) (.leaf)) (.node (some adn) (.leaf) (.leaf))))))) (.node (none) (.node (some F4) (.node (some F8) (.node (some F16) (.node (some F32) (.node (some F64) (.node (some adk) (.leaf) (.leaf)) (.leaf)) (.node (some F96) (.node (some N4) (.leaf) (.leaf)) (.leaf))) (.node (some F48) (.node (some F80) (.node (some ade) (.leaf) (.leaf)) (.leaf)) (.node (some adx) (.node (some (QG 176)) (.leaf) (.leaf)) (.leaf)))) (.node (some F24) (.node (some F40) (.node (some F72) (.node (some (QG 136)) (.leaf) (.leaf)) (.leaf)) (.node (some (QG 104)) (.node (some acY) (.leaf) (.leaf)) (.leaf))) (.node (some F56) (.node (some F88) (.node (some (QG 152)) (.leaf) (.leaf)) (.leaf)) (.node (some adq) (.node (some (QG 184)) (.leaf) (.leaf)) (.leaf))))) (.node (some Lh) (.node (some F20) (.node (some F36) (.node (some F68) (.node (some adg) (.leaf) (.leaf)) (.leaf)) (.node (some adE) (.node (some ac2) (.leaf) (.leaf)) (.leaf))) (.node (some F52) (.node (some F84) (.node (some (QG 148)) (.leaf) (.leaf)) (.leaf)) (.node (some adt) (.node (some TL) (.leaf) (.leaf)) (.leaf)))) (.node (some F28) (.node (some F44) (.node (some F76) (.node (some (QG 140)) (.leaf) (.leaf)) (.leaf)) (.node (some adA) (.node (some (QG 172)) (.leaf) (.leaf)) (.leaf))) (.node (some F60) (.node (some F92) (.node (some ac9) (.leaf) (.leaf)) (.leaf)) (.node (some F124) (.node (some acS) (.leaf) (.leaf)) (.leaf)))))) (.node (some F6) (.node (some Yl) (.node (some F18) (.node (some F34) (.node (some F66) (.node (some adi) (.leaf) (.leaf)) (.leaf)) (.node (some F98) (.node (some ac4) (.leaf) (.leaf)) (.leaf))) (.node (some F50) (.node (some F82) (.node (some (QG 146)) (.leaf) (.leaf)) (.leaf)) (.node (some adv) (.node (some F178) (.leaf) (.leaf)) (.leaf)))) (.node (some F26) (.node (some F42) (.node (some F74) (.node (some (QG 138)) (.leaf) (.leaf)) (.leaf)) (.node (some adC) (.node (some (QG 170)) (.leaf) (.leaf)) (.leaf))) (.node (some F58) (.node (some F90) (.node (some adb) (.leaf) (.leaf)) (.leaf)) (.node (some F122) (.node (some acU) (.leaf) (.leaf)) (.leaf))))) (.node (some F14) (.node (some F22) (.node (some F38) (.node (some F70) (.node (some (QG 134)) (.leaf) (.leaf)) (.leaf)) (.node (some X4) (.node (some ac0) (.leaf) (.leaf)) (.leaf))) (.node (some F54) (.node (some F86) (.node (some (QG 150)) (.leaf) (.leaf)) (.leaf)) (.node (some TM) (.node (some acW) (.leaf) (.leaf)) (.leaf)))) (.node (some F30) (.node (some F46) (.node (some F78) (.node (some (QG 142)) (.leaf) (.leaf)) (.leaf)) (.node (some adz) (.node (some (QG 174)) (.leaf) (.leaf)) (.leaf))) (.node (some F62) (.node (some F94) (.node (some ac7) (.leaf) (.leaf)) (.leaf)) (.node (some adm) (.leaf) (.leaf)))))))
def tabs:List (List Int):=[[-1,1]]
def E0:Env:={fns:=fnT.get,sums:=λf=>if f=9 then some (rN tabs) else if f=36 then some (pr prog 1 36 stC) else none,g0:=1}
def En:Env:={fns:=fnT.get,sums:=λ_=>none,g0:=1}
theorem g0E:E0.g0=1:=rfl
theorem bn:XU E0:=by intro f s hs args lo H v H' h;have q:(if f=9 then some (rN tabs) else if f=36 then some (pr prog 1 36 stC) else none)=some s:=hs;split at q;{injection q with q;subst q;cases args with|cons=>cases h|nil=>simp only[rN] at h;split at h;{rename_i A;injection h with h;injection h with E F;subst E F;exact⟨.refl _ _,λ_ _=>by simp only[rN,A];rfl⟩};{cases h}};split at q;{injection q with q;subst q;exact KA h};{cases q}
section
variable {lo:Nat}{rd:Option Nat}{fr:Fr}{H:Heap}{Q:CJ}{args:List IV}
theorem wc{c:IC}{l:List (Sg×List IOp)}(h:c=.ops l){lo:Nat}{rd:Option Nat}{fr:Fr}{H:Heap}{Q:CJ}:W E0 lo (.code c rd fr) H Q=W E0 lo (.segs l rd fr) H Q:=by subst h;exact aaN
def av(f:Func)(p:Nat){c:(Nat->IC)->(Nat->IC)->IC}(h:∀g k,lbg f p g k=c g k:=by intro g k;cbv):aw f p=c (aZ f) (zr f):=h _ _
def bx(f:Func)(p:Nat){c:(Nat->IC)->(Nat->IC)->IC}(h:∀g k,lbg f p g k=c g k:=by intro g k;cbv):zr f p=c (aZ f) (ME f):=h _ _
def JS(f:Func)(p:Nat){c:(Nat->IC)->(Nat->IC)->IC}(h:∀g k,lbg f p g k=c g k:=by intro g k;cbv):ME f p=c (aZ f) (lb3 f):=h _ _
def Vv(f:Func)(p:Nat){c:(Nat->IC)->(Nat->IC)->IC}(h:∀g k,lbg f p g k=c g k:=by intro g k;cbv):lb3 f p=c (aZ f) (λ_=>.skip):=h _ _
theorem ae5{P:Program}{o:Array Oper}{d:Bool}(h:oR0 P o d=true):cZ P o d=cR0 P o d:=by unfold cZ cR0;unfold oR0 at h;cases e:o.toList.mapM (mf P o) with|none=>rfl|some l=>(rw[e] at h;cases d with|false=>rfl|true=>(simp only[Bool.not_true,Ej,bM] at h;obtain⟨⟨⟨a,b⟩,c⟩,d⟩:=h;simp[a,b,c,d]))
theorem agT{f:Func}{p:Nat}(h:oP0 f p=true):aZ f p=gR0 f p:=by unfold oP0 at h;unfold aZ gR0;cases e:f.body with|none=>rfl|some c=>(rw[e] at h;simp only at h ⊢;cases q:pj0 64 p c with|region a o d=>(rw[q] at h;simp only at h ⊢;rw[<-ae5 h];rfl)|_=>(rw[q] at h;cases h))
def ab(f:Func)(p:Nat){l:List (Sg×List IOp)}(h:gR0 f p=.ops l:=by cbv)(k:oP0 f p=true:=by kernel_rfl)(lo:Nat)(rd:Option Nat)(fr:Fr)(H:Heap)(Q:CJ):W E0 lo (.code (aZ f p) rd fr) H Q=W E0 lo (.segs l rd fr) H Q:=wc ((agT k).trans h)
def j_(f:Func)(p:Nat){l:List (Sg×List IOp)}{q:Prop}(zz:q)(h:gR0 f p=.ops l:=by cbv)(k:oP0 f p=true:=by kernel_rfl):=J0 (ab f p h k) zz
abbrev Wc(n:Nat)(f:IFn)(b:IC):Prop:=∀{lo:Nat}{H:Heap}{Q:CJ}{args:List IV},W E0 lo (.call n args) H Q=W E0 lo (.code b none ⟨args++du (f.ntmps - args.length),[]⟩) H (oB lo f.results Q)
def Ob:=J0 (@wc aaW _ rfl)<|J0 (@wc aaV _ rfl)<|J0 (@wc aaU _ rfl)<|J0 (@wc aaT _ rfl)<|J0 (@wc aaS _ rfl)<|J0 (@wc aaR _ rfl)<|J0 (@wc XY _ rfl)<|J0 (@wc XX _ rfl)<|J0 (@wc aaQ _ rfl)<|J0 (@wc X1 _ rfl)<|J0 (@wc X0 _ rfl)<|J0 (@wc XZ _ rfl)<|J0 (@wc P7 _ rfl)<|J0 (@wc K9 _ rfl)<|J0 (@wc K8 _ rfl)<|J0 acR.eq_1 (F36.eq_1)
def aal:=J0 Ob<|J0 X2.eq_1 (La.eq_1)
theorem c36{H':Heap}{v:IV}(q:stC args H=some (v,H'))(A:Keep lo H H')(hs:CallSim prog 1 36 args lo H v H')(h:Q (.val v) H'):W E0 lo (.call 36 args) H Q:=aaM (s:=pr prog 1 36 stC) rfl (BE q A hs) h
theorem c9(q:Tabs tabs H)(h:Q (.val (.bool true)) H):W E0 lo (.call 9 []) H Q:=aaM (s:=rN tabs) rfl (by simp only[rN,q.ok];rfl) h
end
end
end Go.Iso.Gen
