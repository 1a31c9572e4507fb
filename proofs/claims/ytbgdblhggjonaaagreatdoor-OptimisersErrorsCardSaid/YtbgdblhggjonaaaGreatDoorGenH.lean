/-
  the code that the claim reaches, for the evaluator.
-/
import Derived.Test.YtbgdblhggjonaaaGreatDoorIsoP5
import Derived.Test.YtbgdblhggjonaaaGreatDoorIsoP7
import Derived.Test.YtbgdblhggjonaaaGreatDoorFnZ
import Derived.Test.YtbgdblhggjonaaaGreatDoorProg
import Derived.KernelRfl
set_option linter.unusedSimpArgs false
set_option linter.unusedVariables false
set_option maxRecDepth 100000
set_option maxHeartbeats 4000000
set_option linter.defProp false
namespace Go.Iso.Gen
open Go.Proofs Go.Proofs.Tryz
noncomputable section
def PgT:Program:=⟨Tryz.progTables,#[]⟩
def adL(b:Bool):Code->Code|.seq a c=>if b then c else a|.cond _ a c=>if b then c else a|.block _ a=>a|.loop a=>a|.scope a=>a|.rangeFunc _ _ a c=>if b then c else a|c=>c
def pj0:Nat->Nat->Code->Code|0,_,c=>c|n+1,p,c=>if p<=1 then c else pj0 n (p / 2) (adL (p%2==1) c)
def dG(f:Func)(p:Nat):IC:=match f.body with|some c=>(aZ PgT (pj0 64 p c)).getD .skip|none=>.skip
def Lr(f:Func)(p:Nat)(c:IC)(_:dG f p=c):IC:=c
def kk0(k:Nat->IC)(p:Nat):IC:=k p
def UU(g k:Nat->IC):Code->Nat->Nat->IC|.region _ _ _,p,_=>g p|.seq a b,p,w=>.seq (UU g k a (p+w) (2*w)) (UU g k b (p+2*w) (2*w))|.cond c a b,p,w=>.cond ((m8 c).getD (.tmp 0)) (UU g k a (p+w) (2*w)) (UU g k b (p+2*w) (2*w))|.block id c,p,w=>.block id (UU g k c (p+w) (2*w))|.scope c,p,w=>.scope (UU g k c (p+w) (2*w))|.loop _,p,w=>.loop (kk0 k (p+w))|.rangeFunc f q a b,p,w=>.rfn ((m8 f).getD (.tmp 0)) q.toList (UU g k a (p+w) (2*w)) (UU g k b (p+2*w) (2*w))|.exit id,_,_=>.exit id|.ret,_,_=>.ret|_,_,_=>.skip
def wb0:Nat->Nat->Nat->Nat|0,_,w=>w|n+1,p,w=>if p<=1 then w else wb0 n (p/2) (2*w)
def Xb(f:Func)(p:Nat)(g k:Nat->IC):IC:=match f.body with|some c=>UU g k (pj0 64 p c) p (wb0 64 p 1)|none=>.skip
def cR0(P:Program)(o:Array Oper)(d:Bool):Option (List (Sg×List IOp)):=(o.toList.mapM (gV P o)).map λl=>if d then parts (fl o.toList []) (iC (fl o.toList []) l l 0) 0 [] else [(.seq,l)]
def oR0(P:Program)(o:Array Oper)(d:Bool):Bool:=match o.toList.mapM (gV P o) with|some l=>!d||(ug o&&Em o.toList 0&&pD (fl o.toList []) (iC (fl o.toList []) l l 0) 0&&lG (fl o.toList []) (iC (fl o.toList []) l l 0) 0)|none=>true
def gR0(f:Func)(p:Nat):IC:=match f.body with|some c=>(match pj0 64 p c with|.region _ o d=>((cR0 PgT o d).map .ops).getD .skip|_=>.skip)|none=>.skip
def oP0(f:Func)(p:Nat):Bool:=match f.body with|some c=>(match pj0 64 p c with|.region _ o d=>oR0 PgT o d|_=>false)|none=>false
def lb3(f:Func)(p:Nat):IC:=Xb f p (dG f) (λ_=>.skip)
def Gx(f:Func)(p:Nat):IC:=Xb f p (dG f) (lb3 f)
def qo(f:Func)(p:Nat):IC:=Xb f p (dG f) (Gx f)
def az(f:Func)(p:Nat):IC:=Xb f p (dG f) (qo f)
theorem J0{a b:Prop}(h:a)(k:b):a/\b:=⟨h,k⟩
def F3:IFn:=⟨54,[(2,none)],(az f3 1)⟩
def F4:IFn:=⟨109,[(0,none)],(az f4 1)⟩
def F5:IFn:=⟨47,[(4,some (some 8)),(5,none),(6,none)],(az f5 1)⟩
def F6:IFn:=⟨4,[(0,some (some 8))],(az f6 1)⟩
def F7:IFn:=⟨143,[(2,none),(3,none)],(az f7 1)⟩
def F8:IFn:=⟨42,[(2,none),(3,none)],(az f8 1)⟩
def F9:IFn:=⟨12,[(6,some (some 6))],(az f9 1)⟩
def F10:IFn:=⟨33,[(4,none)],(az f10 1)⟩
def F11:IFn:=⟨21,[(4,some (some 3))],(az f11 1)⟩
def F12:IFn:=⟨24,[(4,none)],(az f12 1)⟩
def F13:IFn:=⟨76,[(2,none)],(az f13 1)⟩
def F14:IFn:=⟨56,[(2,none)],(az f14 1)⟩
def F15:IFn:=⟨3,[(0,none)],(az f15 1)⟩
def F16:IFn:=⟨20,[(6,none)],(az f16 1)⟩
def XA:=Lr f17 2 _ (by cbv)
def Xz:=Lr f17 5 _ (by cbv)
def Xy:=Lr f17 19 _ (by cbv)
def Xx:=Lr f17 139 _ (by cbv)
def Xw:=Lr f17 1227 _ (by cbv)
def Xv:=Lr f17 1739 _ (by cbv)
def T7:IC:=.seq (Xx) (.seq (.cond (.tmp 21) (.skip) (.exit 0)) (.block 1 (.seq (Xw) (Xv))))
def T2:=Lr f17 23 _ (by cbv)
def T1:=Lr f17 79 _ (by cbv)
def Xu:=Lr f17 559 _ (by cbv)
def T6:=Lr f17 9007 _ (by cbv)
def T4:=Lr f17 13103 _ (by cbv)
def T3:=Lr f17 3887 _ (by cbv)
def ER:IC:=.seq (Xu) (.seq (.cond (.tmp 42) (.skip) (.exit 2)) (.seq (.block 3 (.seq (T6) (T4))) (T3)))
def KK:=Lr f17 95 _ (by cbv)
def EQ:IC:=.ops [(.free,[⟨some 60,.move,[.tmp 0],none,false,0,0⟩,⟨some 61,.nilCheck,[.tmp 60],none,false,1,1⟩,⟨some 62,.fieldAddr 4,[.tmp 61],none,false,2,3⟩,⟨some 63,.load none,[.tmp 62],none,false,3,7⟩,⟨some 64,.move,[.tmp 3],none,false,4,0⟩,⟨some 65,.call,[.val (.fn 53 [] []),.tmp 64],none,false,5,16⟩,⟨some 66,.move,[.tmp 0],none,false,6,0⟩,⟨some 67,.nilCheck,[.tmp 66],none,false,7,64⟩,⟨some 68,.fieldAddr 1,[.tmp 67],none,false,8,192⟩,⟨some 69,.load (some 2),[.tmp 68],none,false,9,448⟩,⟨some 70,.move,[.tmp 0],none,false,10,0⟩,⟨some 71,.nilCheck,[.tmp 70],none,false,11,1024⟩,⟨some 72,.fieldAddr 0,[.tmp 71],none,false,12,3072⟩,⟨some 73,.load none,[.tmp 72],none,false,13,7168⟩,⟨some 74,.call,[.val (.fn 34 [] []),.tmp 69,.tmp 73],none,false,14,16368⟩,⟨some 75,.move,[.tmp 0],none,false,15,0⟩,⟨some 76,.nilCheck,[.tmp 75],none,false,16,32768⟩,⟨some 77,.fieldAddr 6,[.tmp 76],none,false,17,98304⟩,⟨some 78,.load none,[.tmp 77],none,false,18,229376⟩,⟨some 79,.call,[.val (.fn 38 [] []),.tmp 78],none,false,19,524272⟩,⟨some 80,.build [.nilSlice,.nilSlice,.nilSlice,.nilSlice] [(0,1),(1,1),(2,1),(3,1)],[.tmp 63,.tmp 65,.tmp 74,.tmp 79],none,false,20,1048575⟩,⟨some 8,.alloc 33 4 [.nilSlice,.nilSlice,.nilSlice,.nilSlice],[],none,false,21,0⟩]),(.seq,[⟨none,.store 4,[.tmp 8,.tmp 80],none,true,22,4194303⟩])]
def EP:=Lr f17 383 _ (by cbv)
def ZL:IC:=.seq (XA) (.seq (Xz) (.seq (.seq (Xy) (.block 0 (.loop T7))) (.seq (T2) (.seq (.seq (T1) (.block 2 (.loop ER))) (.seq (KK) (.seq (EQ) (.seq (EP) (.ret))))))))
def F17:IFn:=⟨95,[(2,some (some 8))],ZL⟩
def F18:IFn:=⟨3,[(0,some (some 4))],(az f18 1)⟩
def F19:IFn:=⟨38,[(2,none),(3,none)],(az f19 1)⟩
def F20:IFn:=⟨49,[(4,none)],(az f20 1)⟩
def F21:IFn:=⟨21,[(3,none)],(az f21 1)⟩
def F22:IFn:=⟨24,[(4,none)],(az f22 1)⟩
def F23:IFn:=⟨33,[(6,none)],(az f23 1)⟩
def F24:IFn:=⟨25,[(4,some (some 3))],(az f24 1)⟩
def F25:IFn:=⟨54,[(4,none),(5,none)],(az f25 1)⟩
def F27:IFn:=⟨70,[(2,none),(3,none),(4,none)],(az f27 1)⟩
def F28:IFn:=⟨34,[(2,none)],(az f28 1)⟩
def F29:IFn:=⟨77,[(2,none)],(az f29 1)⟩
def F30:IFn:=⟨84,[(2,some none)],(az f30 1)⟩
def F31:IFn:=⟨65,[(2,none)],(az f31 1)⟩
def F32:IFn:=⟨18,[(2,none)],(az f32 1)⟩
def F33:IFn:=⟨26,[(4,none)],(az f33 1)⟩
def F34:IFn:=⟨33,[(4,none)],(az f34 1)⟩
def F35:IFn:=⟨37,[(2,none)],(az f35 1)⟩
def F36:IFn:=⟨24,[(2,none)],(az f36 1)⟩
def F37:IFn:=⟨53,[(2,none)],(az f37 1)⟩
def F38:IFn:=⟨11,[(2,none)],(az f38 1)⟩
def F39:IFn:=⟨34,[(4,none)],(az f39 1)⟩
def F40:IFn:=⟨32,[(4,none)],(az f40 1)⟩
def F41:IFn:=⟨42,[(4,none)],(az f41 1)⟩
def F42:IFn:=⟨38,[(4,none)],(az f42 1)⟩
def F43:IFn:=⟨43,[(4,none)],(az f43 1)⟩
def F44:IFn:=⟨24,[(4,none)],(az f44 1)⟩
def F45:IFn:=⟨84,[(4,none)],(az f45 1)⟩
def F46:IFn:=⟨44,[(4,none)],(az f46 1)⟩
def F47:IFn:=⟨14,[(2,none)],(az f47 1)⟩
def F49:IFn:=⟨19,[(4,none)],(az f49 1)⟩
def F50:IFn:=⟨17,[(4,none)],(az f50 1)⟩
def F51:IFn:=⟨11,[(2,none)],(az f51 1)⟩
def F53:IFn:=⟨11,[(2,none)],(az f53 1)⟩
def F54:IFn:=⟨2,[(0,none)],(az f54 1)⟩
def F55:IFn:=⟨53,[(4,some (some 6))],(az f55 1)⟩
def F56:IFn:=⟨25,[(4,none)],(az f56 1)⟩
def F57:IFn:=⟨23,[(2,none)],(az f57 1)⟩
def F58:IFn:=⟨17,[(4,none)],(az f58 1)⟩
def F59:IFn:=⟨6,[(2,none)],(az f59 1)⟩
def F62:IFn:=⟨8,[(2,none)],(az f62 1)⟩
def F63:IFn:=⟨115,[(2,none)],(az f63 1)⟩
def F64:IFn:=⟨7,[(0,some (some 10))],(az f64 1)⟩
def F65:IFn:=⟨51,[(8,none),(9,none)],(az f65 1)⟩
def F66:IFn:=⟨45,[(4,none)],(az f66 1)⟩
def F67:IFn:=⟨9,[(2,none)],(az f67 1)⟩
def F68:IFn:=⟨18,[(2,none)],(az f68 1)⟩
def F69:IFn:=⟨4,[(2,none)],(az f69 1)⟩
def F70:IFn:=⟨15,[(2,none)],(az f70 1)⟩
def F71:IFn:=⟨25,[(4,none)],(az f71 1)⟩
def F72:IFn:=⟨4,[(2,none)],(az f72 1)⟩
def F73:IFn:=⟨21,[(2,none)],(az f73 1)⟩
def F74:IFn:=⟨15,[(2,none)],(az f74 1)⟩
def F75:IFn:=⟨14,[(2,none)],(az f75 1)⟩
def F76:IFn:=⟨11,[(2,none)],(az f76 1)⟩
def F77:IFn:=⟨28,[(4,none)],(az f77 1)⟩
def F78:IFn:=⟨11,[(2,none)],(az f78 1)⟩
def F79:IFn:=⟨62,[(2,none)],(az f79 1)⟩
def F80:IFn:=⟨113,[(2,none)],(az f80 1)⟩
def F81:IFn:=⟨31,[(4,none),(5,none)],(az f81 1)⟩
def F82:IFn:=⟨11,[(2,none)],(az f82 1)⟩
def F83:IFn:=⟨11,[(2,none)],(az f83 1)⟩
def F84:IFn:=⟨27,[(4,some (some 5)),(5,none)],(az f84 1)⟩
def F85:IFn:=⟨18,[(2,some (some 5)),(3,none)],(az f85 1)⟩
def F86:IFn:=⟨92,[(4,none)],(az f86 1)⟩
def F87:IFn:=⟨44,[(4,none),(5,none),(6,none)],(az f87 1)⟩
def F88:IFn:=⟨58,[(8,none)],(az f88 1)⟩
def F89:IFn:=⟨103,[(8,none)],(az f89 1)⟩
def F90:IFn:=⟨28,[(4,none)],(az f90 1)⟩
def F91:IFn:=⟨33,[(4,some (some 2)),(5,none)],(az f91 1)⟩
def F92:IFn:=⟨68,[(6,some (some 2)),(7,none)],(az f92 1)⟩
def F93:IFn:=⟨77,[(6,some (some 2)),(7,none)],(az f93 1)⟩
def F94:IFn:=⟨84,[(2,none)],(az f94 1)⟩
def F97:IFn:=⟨18,[(2,none)],(az f97 1)⟩
def F98:IFn:=⟨20,[(4,none)],(az f98 1)⟩
def F99:IFn:=⟨20,[(4,none)],(az f99 1)⟩
def F101:IFn:=⟨82,[(4,some (some 6))],(az f101 1)⟩
def aaw:IFn:=⟨6,[(2,none)],(az f102 1)⟩
def aav:IFn:=⟨28,[(6,none)],(az f104 1)⟩
def aau:IFn:=⟨31,[(6,none)],(az f105 1)⟩
def aat:IFn:=⟨67,[(6,none)],(az f106 1)⟩
def aas:IFn:=⟨91,[(6,none)],(az f107 1)⟩
def Wx:IFn:=⟨41,[(6,none)],(az f108 1)⟩
def aar:IFn:=⟨33,[(6,none)],(az f109 1)⟩
def aaq:IFn:=⟨33,[(6,none)],(az f110 1)⟩
def aap:IFn:=⟨67,[],(az f111 1)⟩
def aao:IFn:=⟨59,[(6,none)],(az f112 1)⟩
def aan:IFn:=⟨19,[(2,none)],(az f113 1)⟩
def aam:IFn:=⟨9,[(2,none)],(az f114 1)⟩
def aal:IFn:=⟨11,[],(az f115 1)⟩
def aak:IFn:=⟨4,[(2,none)],(az f116 1)⟩
def aaj:IFn:=⟨9,[(2,none)],(az f117 1)⟩
def aai:IFn:=⟨32,[(2,none),(3,none)],(az f118 1)⟩
def aah:IFn:=⟨33,[(4,none)],(az f119 1)⟩
def aag:IFn:=⟨17,[(4,none)],(az f120 1)⟩
def aaf:IFn:=⟨18,[],(az f121 1)⟩
def aae:IFn:=⟨14,[(4,none)],(az f122 1)⟩
def aad:IFn:=⟨39,[],(az f123 1)⟩
def aac:IFn:=⟨9,[],(az f124 1)⟩
def aab:IFn:=⟨10,[(4,none)],(az f125 1)⟩
def aaa:IFn:=⟨11,[(2,none)],(az f126 1)⟩
def F127:IFn:=⟨80,[(8,none),(9,none)],(az f127 1)⟩
def Z9:IFn:=⟨60,[(6,some (some 5)),(7,none)],(az f128 1)⟩
def F129:IFn:=⟨82,[(6,none),(7,none)],(az f129 1)⟩
def Z8:IFn:=⟨51,[(4,none)],(az f130 1)⟩
def Z7:IFn:=⟨54,[(6,none)],(az f131 1)⟩
def Z6:IFn:=⟨39,[(2,some (some 5)),(3,some (some 3)),(4,none)],(az f132 1)⟩
def Z5:IFn:=⟨18,[(2,none)],(az f133 1)⟩
def Z4:IFn:=⟨11,[(2,none)],(az f134 1)⟩
def Z3:IFn:=⟨30,[(6,some (some 2))],(az f135 1)⟩
def Z2:IFn:=⟨11,[(0,none)],(az f136 1)⟩
def Z1:IFn:=⟨6,[(2,none)],(az f147 1)⟩
def Ww:IFn:=⟨28,[(4,none)],(az f157 1)⟩
def Z0:IFn:=⟨29,[],(az f158 1)⟩
def ZZ:IFn:=⟨35,[(2,none)],(az f159 1)⟩
def ZY:IFn:=⟨43,[(2,none)],(az f160 1)⟩
def ZX:IFn:=⟨108,[(2,none)],(az f161 1)⟩
def ZW:IFn:=⟨11,[(2,none)],(az f162 1)⟩
def ZV:IFn:=⟨9,[(2,none)],(az f163 1)⟩
def ZU:IFn:=⟨63,[],(az f164 1)⟩
def ZT:IFn:=⟨27,[(6,none)],(az f165 1)⟩
def ZS:IFn:=⟨28,[],(az f166 1)⟩
def ZR:IFn:=⟨11,[(2,none)],(az f167 1)⟩
def ZQ:IFn:=⟨39,[(4,none)],(az f168 1)⟩
def ZP:IFn:=⟨11,[(2,none)],(az f169 1)⟩
def ZO:IFn:=⟨28,[],(az f170 1)⟩
def ZN:IFn:=⟨28,[],(az f171 1)⟩
def ZM:IFn:=⟨11,[(2,none)],(az f172 1)⟩
def F173:IFn:=⟨44,[(6,none)],(az f173 1)⟩
def F182:IFn:=⟨70,[(4,none)],(az f182 1)⟩
def ZK:IFn:=⟨25,[(4,some (some 2))],(az f183 1)⟩
def ZJ:IFn:=⟨53,[],(az f184 1)⟩
def T0:IFn:=⟨220,[],(az f185 1)⟩
def ZI:IFn:=⟨11,[(2,none)],(az f186 1)⟩
def ZH:IFn:=⟨20,[(2,none)],(az f187 1)⟩
def ZG:IFn:=⟨33,[(4,none)],(az f190 1)⟩
def ZF:IFn:=⟨9,[(2,none)],(az f191 1)⟩
def ZE:IFn:=⟨58,[],(az f192 1)⟩
def ZD:IFn:=⟨38,[],(az f193 1)⟩
def fnT:Tr IFn:=.node (none) (.node (none) (.node (some F3) (.node (some F7) (.node (some F15) (.node (some F31) (.node (some F63) (.node (some F127) (.leaf) (.leaf)) (.node (some ZF) (.leaf) (.leaf))) (.node (none) (.node (some ZZ) (.leaf) (.leaf)) (.leaf))) (.node (some F47) (.node (some F79) (.leaf) (.leaf)) (.node (some aap) (.leaf) (.leaf)))) (.node (some F23) (.node (some F39) (.node (some F71) (.node (some Z3) (.leaf) (.leaf)) (.leaf)) (.node (none) (.node (some ZR) (.leaf) (.leaf)) (.leaf))) (.node (some F55) (.node (some F87) (.leaf) (.leaf)) (.node (some aah) (.node (some ZK) (.leaf) (.leaf)) (.leaf))))) (.node (some F11) (.node (some F19) (.node (some F35) (.node (some F67) (.node (some Z7) (.leaf) (.leaf)) (.leaf)) (.node (some F99) (.node (some ZV) (.leaf) (.leaf)) (.leaf))) (.node (some F51) (.node (some F83) (.node (some Z1) (.leaf) (.leaf)) (.leaf)) (.node (some aal) (.leaf) (.leaf)))) (.node (some F27) (.node (some F43) (.node (some F75) (.leaf) (.leaf)) (.node (some aas) (.node (some ZN) (.leaf) (.leaf)) (.leaf))) (.node (some F59) (.node (some F91) (.leaf) (.leaf)) (.node (some aad) (.node (some ZH) (.leaf) (.leaf)) (.leaf)))))) (.node (some F5) (.node (some F9) (.node (some F17) (.node (some F33) (.node (some F65) (.node (some F129) (.leaf) (.leaf)) (.node (some ZD) (.leaf) (.leaf))) (.node (some F97) (.node (some ZX) (.leaf) (.leaf)) (.leaf))) (.node (some F49) (.node (some F81) (.leaf) (.leaf)) (.node (some aan) (.leaf) (.leaf)))) (.node (some F25) (.node (some F41) (.node (some F73) (.leaf) (.leaf)) (.node (some aau) (.node (some ZP) (.leaf) (.leaf)) (.leaf))) (.node (some F57) (.node (some F89) (.leaf) (.leaf)) (.node (some aaf) (.node (some T0) (.leaf) (.leaf)) (.leaf))))) (.node (some F13) (.node (some F21) (.node (some F37) (.node (some F69) (.node (some Z5) (.leaf) (.leaf)) (.leaf)) (.node (some F101) (.node (some ZT) (.leaf) (.leaf)) (.leaf))) (.node (some F53) (.node (some F85) (.leaf) (.leaf)) (.node (some aaj) (.leaf) (.leaf)))) (.node (some F29) (.node (some F45) (.node (some F77) (.leaf) (.leaf)) (.node (some aar) (.node (some F173) (.leaf) (.leaf)) (.leaf))) (.node (none) (.node (some F93) (.node (some Ww) (.leaf) (.leaf)) (.leaf)) (.node (some aab) (.leaf) (.leaf))))))) (.node (none) (.node (some F4) (.node (some F8) (.node (some F16) (.node (some F32) (.node (some F64) (.node (some Z9) (.leaf) (.leaf)) (.node (some ZE) (.leaf) (.leaf))) (.node (none) (.node (some ZY) (.leaf) (.leaf)) (.leaf))) (.node (none) (.node (some F80) (.leaf) (.leaf)) (.node (some aao) (.leaf) (.leaf)))) (.node (some F24) (.node (some F40) (.node (some F72) (.node (some Z2) (.leaf) (.leaf)) (.leaf)) (.node (some aav) (.node (some ZQ) (.leaf) (.leaf)) (.leaf))) (.node (some F56) (.node (some F88) (.leaf) (.leaf)) (.node (some aag) (.node (some ZJ) (.leaf) (.leaf)) (.leaf))))) (.node (some F12) (.node (some F20) (.node (some F36) (.node (some F68) (.node (some Z6) (.leaf) (.leaf)) (.leaf)) (.node (none) (.node (some ZU) (.leaf) (.leaf)) (.leaf))) (.node (none) (.node (some F84) (.leaf) (.leaf)) (.node (some aak) (.leaf) (.leaf)))) (.node (some F28) (.node (some F44) (.node (some F76) (.leaf) (.leaf)) (.node (some Wx) (.node (some ZM) (.leaf) (.leaf)) (.leaf))) (.node (none) (.node (some F92) (.leaf) (.leaf)) (.node (some aac) (.leaf) (.leaf)))))) (.node (some F6) (.node (some F10) (.node (some F18) (.node (some F34) (.node (some F66) (.node (some Z8) (.leaf) (.leaf)) (.leaf)) (.node (some F98) (.node (some ZW) (.leaf) (.leaf)) (.leaf))) (.node (some F50) (.node (some F82) (.leaf) (.leaf)) (.node (some aam) (.leaf) (.leaf)))) (.node (none) (.node (some F42) (.node (some F74) (.leaf) (.leaf)) (.node (some aat) (.node (some ZO) (.leaf) (.leaf)) (.leaf))) (.node (some F58) (.node (some F90) (.leaf) (.leaf)) (.node (some aae) (.node (some ZI) (.leaf) (.leaf)) (.leaf))))) (.node (some F14) (.node (some F22) (.node (some F38) (.node (some F70) (.node (some Z4) (.leaf) (.leaf)) (.leaf)) (.node (some aaw) (.node (some ZS) (.leaf) (.leaf)) (.leaf))) (.node (some F54) (.node (some F86) (.leaf) (.leaf)) (.node (some aai) (.node (some F182) (.leaf) (.leaf)) (.leaf)))) (.node (some F30) (.node (some F46) (.node (some F78) (.leaf) (.leaf)) (.node (some aaq) (.leaf) (.leaf))) (.node (some F62) (.node (some F94) (.node (some Z0) (.leaf) (.leaf)) (.leaf)) (.node (some aaa) (.node (some ZG) (.leaf) (.leaf)) (.leaf)))))))
def tabs:List (List Int):=[[-1,1]]
def E0:Env:={fns:=fnT.get,sums:=λf=>if f=17 then some (fI prog 1 17 X0) else if f=26 then some (fI prog 1 26 JV) else none,g0:=1}
theorem Xh:E0.g0=1:=rfl
theorem aW:TV E0:=by intro f s hs args lo H v H' h;have q:(if f=17 then some (fI prog 1 17 X0) else if f=26 then some (fI prog 1 26 JV) else none)=some s:=hs;split at q;{injection q with q;subst q;exact tu h};split at q;{injection q with q;subst q;exact tu h};{cases q}
section
variable {lo:Nat}{rd:Option Nat}{fr:Fr}{H:Heap}{Q:At}{args:List IV}
theorem qm{c:IC}{l:List (Sg×List IOp)}(h:c=.ops l){lo:Nat}{rd:Option Nat}{fr:Fr}{H:Heap}{Q:At}:W E0 lo (.code c rd fr) H Q=W E0 lo (.segs l rd fr) H Q:=by subst h;exact Xr
def aX(f:Func)(p:Nat){c:(Nat->IC)->(Nat->IC)->IC}(h:∀g k,Xb f p g k=c g k:=by intro g k;cbv):az f p=c (dG f) (qo f):=h _ _
def cJ(f:Func)(p:Nat){c:(Nat->IC)->(Nat->IC)->IC}(h:∀g k,Xb f p g k=c g k:=by intro g k;cbv):qo f p=c (dG f) (Gx f):=h _ _
def Di(f:Func)(p:Nat){c:(Nat->IC)->(Nat->IC)->IC}(h:∀g k,Xb f p g k=c g k:=by intro g k;cbv):Gx f p=c (dG f) (lb3 f):=h _ _
def ru3(f:Func)(p:Nat){c:(Nat->IC)->(Nat->IC)->IC}(h:∀g k,Xb f p g k=c g k:=by intro g k;cbv):lb3 f p=c (dG f) (λ_=>.skip):=h _ _
theorem acd{P:Program}{o:Array Oper}{d:Bool}(h:oR0 P o d=true):cO P o d=cR0 P o d:=by unfold cO cR0;unfold oR0 at h;cases e:o.toList.mapM (gV P o) with|none=>rfl|some l=>(rw[e] at h;cases d with|false=>rfl|true=>(simp only[Bool.not_true,yx,bR] at h;obtain⟨⟨⟨a,b⟩,c⟩,d⟩:=h;simp[a,b,c,d]))
theorem ad8{f:Func}{p:Nat}(h:oP0 f p=true):dG f p=gR0 f p:=by unfold oP0 at h;unfold dG gR0;cases e:f.body with|none=>rfl|some c=>(rw[e] at h;simp only at h ⊢;cases q:pj0 64 p c with|region a o d=>(rw[q] at h;simp only at h ⊢;rw[<-acd h];rfl)|_=>(rw[q] at h;cases h))
def ab(f:Func)(p:Nat){l:List (Sg×List IOp)}(h:gR0 f p=.ops l:=by cbv)(k:oP0 f p=true:=by kernel_rfl)(lo:Nat)(rd:Option Nat)(fr:Fr)(H:Heap)(Q:At):W E0 lo (.code (dG f p) rd fr) H Q=W E0 lo (.segs l rd fr) H Q:=qm ((ad8 k).trans h)
def j_(f:Func)(p:Nat){l:List (Sg×List IOp)}{q:Prop}(zz:q)(h:gR0 f p=.ops l:=by cbv)(k:oP0 f p=true:=by kernel_rfl):=J0 (ab f p h k) zz
abbrev Wc(n:Nat)(f:IFn)(b:IC):Prop:=∀{lo:Nat}{H:Heap}{Q:At}{args:List IV},W E0 lo (.call n args) H Q=W E0 lo (.code b none ⟨args++dp (f.ntmps - args.length),[]⟩) H (jB lo f.results Q)
def XH:=J0 (@qm XA _ rfl)<|J0 (@qm Xz _ rfl)<|J0 (@qm Xy _ rfl)<|J0 (@qm Xx _ rfl)<|J0 (@qm Xw _ rfl)<|J0 (@qm Xv _ rfl)<|J0 (@qm T2 _ rfl)<|J0 (@qm T1 _ rfl)<|J0 (@qm Xu _ rfl)<|J0 (@qm T6 _ rfl)<|J0 (@qm T4 _ rfl)<|J0 (@qm T3 _ rfl)<|J0 (@qm KK _ rfl)<|J0 (@qm EQ _ rfl)<|J0 (@qm EP _ rfl)<|J0 ZL.eq_1 (F17.eq_1)
def WE:=J0 XH<|J0 T7.eq_1 (ER.eq_1)
theorem c17{H':Heap}{v:IV}(q:X0 args H=some (v,H'))(A:Keep lo H H')(hs:CallSim prog 1 17 args lo H v H')(h:Q (.val v) H'):W E0 lo (.call 17 args) H Q:=Xq (s:=fI prog 1 17 X0) rfl (oR q A hs) h
theorem c26{H':Heap}{v:IV}(q:JV args H=some (v,H'))(A:Keep lo H H')(hs:CallSim prog 1 26 args lo H v H')(h:Q (.val v) H'):W E0 lo (.call 26 args) H Q:=Xq (s:=fI prog 1 26 JV) rfl (oR q A hs) h
end
end
end Go.Iso.Gen
