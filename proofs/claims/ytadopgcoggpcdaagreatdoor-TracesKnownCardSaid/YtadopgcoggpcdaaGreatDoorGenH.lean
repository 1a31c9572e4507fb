/-
  the code that the claim reaches, for the evaluator.
-/
import Derived.Test.YtadopgcoggpcdaaGreatDoorIsoP5
import Derived.Test.YtadopgcoggpcdaaGreatDoorIsoP7
import Derived.Test.YtadopgcoggpcdaaGreatDoorFnZ
import Derived.Test.YtadopgcoggpcdaaGreatDoorProg
import Derived.KernelRfl
set_option linter.unusedSimpArgs false
set_option linter.unusedVariables false
set_option maxRecDepth 100000
set_option maxHeartbeats 4000000
set_option linter.defProp false
namespace Go.Iso.Gen
open Go.Proofs Go.Proofs.Tryz
noncomputable section
def PgT:Program:=⟨Tryz.progTables,#[]⟩
def agU(b:Bool):Code->Code|.seq a c=>if b then c else a|.cond _ a c=>if b then c else a|.block _ a=>a|.loop a=>a|.scope a=>a|.rangeFunc _ _ a c=>if b then c else a|c=>c
def pj0:Nat->Nat->Code->Code|0,_,c=>c|n+1,p,c=>if p<=1 then c else pj0 n (p / 2) (agU (p%2==1) c)
def ji(f:Func)(p:Nat):IC:=match f.body with|some c=>(bi PgT (pj0 64 p c)).getD .skip|none=>.skip
def Qf(f:Func)(p:Nat)(c:IC)(_:ji f p=c):IC:=c
def kk0(k:Nat->IC)(p:Nat):IC:=k p
def YZ(g k:Nat->IC):Code->Nat->Nat->IC|.region _ _ _,p,_=>g p|.seq a b,p,w=>.seq (YZ g k a (p+w) (2*w)) (YZ g k b (p+2*w) (2*w))|.cond c a b,p,w=>.cond ((qW c).getD (.tmp 0)) (YZ g k a (p+w) (2*w)) (YZ g k b (p+2*w) (2*w))|.block id c,p,w=>.block id (YZ g k c (p+w) (2*w))|.scope c,p,w=>.scope (YZ g k c (p+w) (2*w))|.loop _,p,w=>.loop (kk0 k (p+w))|.rangeFunc f E a b,p,w=>.rfn ((qW f).getD (.tmp 0)) E.toList (YZ g k a (p+w) (2*w)) (YZ g k b (p+2*w) (2*w))|.exit id,_,_=>.exit id|.ret,_,_=>.ret|_,_,_=>.skip
def wb0:Nat->Nat->Nat->Nat|0,_,w=>w|n+1,p,w=>if p<=1 then w else wb0 n (p/2) (2*w)
def lbg(f:Func)(p:Nat)(g k:Nat->IC):IC:=match f.body with|some c=>YZ g k (pj0 64 p c) p (wb0 64 p 1)|none=>.skip
def cR0(P:Program)(o:Array Oper)(d:Bool):Option (List (Sg×List IOp)):=(o.toList.mapM (j8 P o)).map λl=>if d then parts (iJ o.toList []) (kE (iJ o.toList []) l l 0) 0 [] else [(.seq,l)]
def oR0(P:Program)(o:Array Oper)(d:Bool):Bool:=match o.toList.mapM (j8 P o) with|some l=>!d||(ye o&&IX o.toList 0&&tk (iJ o.toList []) (kE (iJ o.toList []) l l 0) 0&&oN (iJ o.toList []) (kE (iJ o.toList []) l l 0) 0)|none=>true
def gR0(f:Func)(p:Nat):IC:=match f.body with|some c=>(match pj0 64 p c with|.region _ o d=>((cR0 PgT o d).map .ops).getD .skip|_=>.skip)|none=>.skip
def oP0(f:Func)(p:Nat):Bool:=match f.body with|some c=>(match pj0 64 p c with|.region _ o d=>oR0 PgT o d|_=>false)|none=>false
def lb3(f:Func)(p:Nat):IC:=lbg f p (ji f) (λ_=>.skip)
def K0(f:Func)(p:Nat):IC:=lbg f p (ji f) (lb3 f)
def vW(f:Func)(p:Nat):IC:=lbg f p (ji f) (K0 f)
def aA(f:Func)(p:Nat):IC:=lbg f p (ji f) (vW f)
theorem J0{a b:Prop}(h:a)(k:b):a/\b:=⟨h,k⟩
def QG(n:Nat):IFn:=(iz prog n).getD ⟨0,[],.skip⟩
def F3:IFn:=⟨75,[(0,none)],(aA f3 1)⟩
def F4:IFn:=⟨71,[(2,none)],(aA f4 1)⟩
def F5:IFn:=⟨146,[(4,none)],(aA f5 1)⟩
def F6:IFn:=⟨169,[(4,none)],(aA f6 1)⟩
def F7:IFn:=⟨142,[(4,none)],(aA f7 1)⟩
def F8:IFn:=⟨123,[(6,none)],(aA f8 1)⟩
def F9:IFn:=⟨195,[(0,none)],(aA f9 1)⟩
def YA:IFn:=⟨62,[(2,none)],(aA f10 1)⟩
def F11:IFn:=⟨38,[(2,none),(3,none)],(aA f11 1)⟩
def F12:IFn:=⟨4,[(0,some (some 8))],(aA f12 1)⟩
def F13:IFn:=⟨75,[(4,none)],(aA f13 1)⟩
def F14:IFn:=⟨110,[(4,some (some 6))],(aA f14 1)⟩
def F15:IFn:=⟨27,[(4,some (some 8)),(5,none)],(aA f15 1)⟩
def F16:IFn:=⟨17,[(2,some (some 4)),(3,none)],(aA f16 1)⟩
def F17:IFn:=⟨60,[(4,none),(5,none)],(aA f17 1)⟩
def F18:IFn:=⟨49,[(4,none)],(aA f18 1)⟩
def F19:IFn:=⟨33,[(4,none)],(aA f19 1)⟩
def F20:IFn:=⟨19,[(4,none)],(aA f20 1)⟩
def F21:IFn:=⟨120,[(2,none),(3,none)],(aA f21 1)⟩
def F22:IFn:=⟨28,[(4,none),(5,none)],(aA f22 1)⟩
def F23:IFn:=⟨59,[(4,none)],(aA f23 1)⟩
def F24:IFn:=⟨47,[(4,some (some 8)),(5,none),(6,none)],(aA f24 1)⟩
def F25:IFn:=⟨73,[(4,some (some 6))],(aA f25 1)⟩
def F26:IFn:=⟨22,[(4,none)],(aA f26 1)⟩
def F27:IFn:=⟨53,[(4,some (some 6))],(aA f27 1)⟩
def F28:IFn:=⟨3,[(0,some (some 4))],(aA f28 1)⟩
def F29:IFn:=⟨76,[(2,none)],(aA f29 1)⟩
def F30:IFn:=⟨56,[(2,none)],(aA f30 1)⟩
def F31:IFn:=⟨20,[(6,none)],(aA f31 1)⟩
def F32:IFn:=⟨3,[(0,none)],(aA f32 1)⟩
def abo:=Qf f33 2 _ (by cbv)
def abn:=Qf f33 5 _ (by cbv)
def abm:=Qf f33 19 _ (by cbv)
def abl:=Qf f33 139 _ (by cbv)
def abk:=Qf f33 1227 _ (by cbv)
def abj:=Qf f33 1739 _ (by cbv)
def Yh:IC:=.seq (abl) (.seq (.cond (.tmp 21) (.skip) (.exit 0)) (.block 1 (.seq (abk) (abj))))
def Yd:=Qf f33 23 _ (by cbv)
def Yc:=Qf f33 79 _ (by cbv)
def abi:=Qf f33 559 _ (by cbv)
def Yg:=Qf f33 9007 _ (by cbv)
def Yf:=Qf f33 13103 _ (by cbv)
def Ye:=Qf f33 3887 _ (by cbv)
def Jo:IC:=.seq (abi) (.seq (.cond (.tmp 42) (.skip) (.exit 2)) (.seq (.block 3 (.seq (Yg) (Yf))) (Ye)))
def PO:=Qf f33 95 _ (by cbv)
def Jn:IC:=.ops [(.free,[⟨some 60,.move,[.tmp 0],none,false,0,0⟩,⟨some 61,.nilCheck,[.tmp 60],none,false,1,1⟩,⟨some 62,.fieldAddr 4,[.tmp 61],none,false,2,3⟩,⟨some 63,.load none,[.tmp 62],none,false,3,7⟩,⟨some 64,.move,[.tmp 3],none,false,4,0⟩,⟨some 65,.call,[.val (.fn 69 [] []),.tmp 64],none,false,5,16⟩,⟨some 66,.move,[.tmp 0],none,false,6,0⟩,⟨some 67,.nilCheck,[.tmp 66],none,false,7,64⟩,⟨some 68,.fieldAddr 1,[.tmp 67],none,false,8,192⟩,⟨some 69,.load (some 2),[.tmp 68],none,false,9,448⟩,⟨some 70,.move,[.tmp 0],none,false,10,0⟩,⟨some 71,.nilCheck,[.tmp 70],none,false,11,1024⟩,⟨some 72,.fieldAddr 0,[.tmp 71],none,false,12,3072⟩,⟨some 73,.load none,[.tmp 72],none,false,13,7168⟩,⟨some 74,.call,[.val (.fn 50 [] []),.tmp 69,.tmp 73],none,false,14,16368⟩,⟨some 75,.move,[.tmp 0],none,false,15,0⟩,⟨some 76,.nilCheck,[.tmp 75],none,false,16,32768⟩,⟨some 77,.fieldAddr 6,[.tmp 76],none,false,17,98304⟩,⟨some 78,.load none,[.tmp 77],none,false,18,229376⟩,⟨some 79,.call,[.val (.fn 54 [] []),.tmp 78],none,false,19,524272⟩,⟨some 80,.build [.nilSlice,.nilSlice,.nilSlice,.nilSlice] [(0,1),(1,1),(2,1),(3,1)],[.tmp 63,.tmp 65,.tmp 74,.tmp 79],none,false,20,1048575⟩,⟨some 8,.alloc 48 4 [.nilSlice,.nilSlice,.nilSlice,.nilSlice],[],none,false,21,0⟩]),(.seq,[⟨none,.store 4,[.tmp 8,.tmp 80],none,true,22,4194303⟩])]
def Jm:=Qf f33 383 _ (by cbv)
def adf:IC:=.seq (abo) (.seq (abn) (.seq (.seq (abm) (.block 0 (.loop Yh))) (.seq (Yd) (.seq (.seq (Yc) (.block 2 (.loop Jo))) (.seq (PO) (.seq (Jn) (.seq (Jm) (.ret))))))))
def F33:IFn:=⟨95,[(2,some (some 8))],adf⟩
def F34:IFn:=⟨25,[(4,none)],(aA f34 1)⟩
def F35:IFn:=⟨35,[(4,none)],(aA f35 1)⟩
def F36:IFn:=⟨43,[(2,none)],(aA f36 1)⟩
def F37:IFn:=⟨33,[(6,none)],(aA f37 1)⟩
def F38:IFn:=⟨26,[(4,none)],(aA f38 1)⟩
def F39:IFn:=⟨13,[(4,none)],(aA f39 1)⟩
def F40:IFn:=⟨13,[(4,none)],(aA f40 1)⟩
def F41:IFn:=⟨13,[(4,none)],(aA f41 1)⟩
def F42:IFn:=⟨13,[(4,none)],(aA f42 1)⟩
def F43:IFn:=⟨13,[(4,none)],(aA f43 1)⟩
def F44:IFn:=⟨82,[(4,some (some 6))],(aA f44 1)⟩
def F45:IFn:=⟨2,[(0,none)],(aA f45 1)⟩
def F46:IFn:=⟨84,[(2,some none)],(aA f46 1)⟩
def F47:IFn:=⟨65,[(2,none)],(aA f47 1)⟩
def F48:IFn:=⟨18,[(2,none)],(aA f48 1)⟩
def F49:IFn:=⟨26,[(4,none)],(aA f49 1)⟩
def F50:IFn:=⟨33,[(4,none)],(aA f50 1)⟩
def F51:IFn:=⟨37,[(2,none)],(aA f51 1)⟩
def F52:IFn:=⟨24,[(2,none)],(aA f52 1)⟩
def F53:IFn:=⟨53,[(2,none)],(aA f53 1)⟩
def F54:IFn:=⟨11,[(2,none)],(aA f54 1)⟩
def F55:IFn:=⟨14,[(2,none)],(aA f55 1)⟩
def F56:IFn:=⟨34,[(4,none)],(aA f56 1)⟩
def F57:IFn:=⟨32,[(4,none)],(aA f57 1)⟩
def F58:IFn:=⟨42,[(4,none)],(aA f58 1)⟩
def F59:IFn:=⟨38,[(4,none)],(aA f59 1)⟩
def F60:IFn:=⟨43,[(4,none)],(aA f60 1)⟩
def F61:IFn:=⟨24,[(4,none)],(aA f61 1)⟩
def F62:IFn:=⟨84,[(4,none)],(aA f62 1)⟩
def F63:IFn:=⟨44,[(4,none)],(aA f63 1)⟩
def F64:IFn:=⟨14,[],(aA f64 1)⟩
def F65:IFn:=⟨19,[(4,none)],(aA f65 1)⟩
def F66:IFn:=⟨17,[(4,none)],(aA f66 1)⟩
def F67:IFn:=⟨11,[(2,none)],(aA f67 1)⟩
def F68:IFn:=⟨14,[],(aA f68 1)⟩
def F69:IFn:=⟨11,[(2,none)],(aA f69 1)⟩
def F70:IFn:=⟨31,[(4,none)],(aA f70 1)⟩
def F71:IFn:=⟨26,[(4,none)],(aA f71 1)⟩
def F72:IFn:=⟨10,[(5,none)],(aA f72 1)⟩
def F73:IFn:=⟨32,[(6,none)],(aA f73 1)⟩
def F74:IFn:=⟨32,[(6,none)],(aA f74 1)⟩
def F75:IFn:=⟨26,[(4,none)],(aA f75 1)⟩
def F76:IFn:=⟨25,[(4,none)],(aA f76 1)⟩
def F77:IFn:=⟨4,[(2,none)],(aA f77 1)⟩
def F78:IFn:=⟨21,[(2,none)],(aA f78 1)⟩
def F79:IFn:=⟨15,[(2,none)],(aA f79 1)⟩
def F80:IFn:=⟨14,[(2,none)],(aA f80 1)⟩
def F81:IFn:=⟨11,[(2,none)],(aA f81 1)⟩
def F82:IFn:=⟨28,[(4,none)],(aA f82 1)⟩
def F83:IFn:=⟨11,[(2,none)],(aA f83 1)⟩
def F84:IFn:=⟨62,[(2,none)],(aA f84 1)⟩
def F85:IFn:=⟨113,[(2,none)],(aA f85 1)⟩
def F86:IFn:=⟨31,[(4,none),(5,none)],(aA f86 1)⟩
def F87:IFn:=⟨11,[(2,none)],(aA f87 1)⟩
def F88:IFn:=⟨11,[(2,none)],(aA f88 1)⟩
def F89:IFn:=⟨84,[(2,none)],(aA f89 1)⟩
def F90:IFn:=⟨27,[(4,some (some 5)),(5,none)],(aA f90 1)⟩
def F91:IFn:=⟨18,[(2,some (some 5)),(3,none)],(aA f91 1)⟩
def F92:IFn:=⟨92,[(4,none)],(aA f92 1)⟩
def F93:IFn:=⟨44,[(4,none),(5,none),(6,none)],(aA f93 1)⟩
def F94:IFn:=⟨58,[(8,none)],(aA f94 1)⟩
def F95:IFn:=⟨103,[(8,none)],(aA f95 1)⟩
def F96:IFn:=⟨28,[(4,none)],(aA f96 1)⟩
def F97:IFn:=⟨33,[(4,some (some 2)),(5,none)],(aA f97 1)⟩
def F98:IFn:=⟨68,[(6,some (some 2)),(7,none)],(aA f98 1)⟩
def F99:IFn:=⟨77,[(6,some (some 2)),(7,none)],(aA f99 1)⟩
def ad1:IFn:=⟨18,[(2,none)],(aA f102 1)⟩
def ad0:IFn:=⟨20,[(4,none)],(aA f103 1)⟩
def adZ:IFn:=⟨20,[(4,none)],(aA f104 1)⟩
def adY:IFn:=⟨19,[(2,none)],(aA f106 1)⟩
def adX:IFn:=⟨9,[(2,none)],(aA f107 1)⟩
def adW:IFn:=⟨11,[],(aA f108 1)⟩
def adV:IFn:=⟨4,[(2,none)],(aA f109 1)⟩
def adU:IFn:=⟨9,[(2,none)],(aA f110 1)⟩
def adT:IFn:=⟨32,[(2,none),(3,none)],(aA f111 1)⟩
def adS:IFn:=⟨33,[(4,none)],(aA f112 1)⟩
def adR:IFn:=⟨17,[(4,none)],(aA f113 1)⟩
def adQ:IFn:=⟨18,[],(aA f114 1)⟩
def adP:IFn:=⟨14,[(4,none)],(aA f115 1)⟩
def To:IFn:=⟨39,[],(aA f116 1)⟩
def adO:IFn:=⟨9,[],(aA f117 1)⟩
def adN:IFn:=⟨10,[(4,none)],(aA f118 1)⟩
def adM:IFn:=⟨11,[(2,none)],(aA f119 1)⟩
def adL:IFn:=⟨11,[(0,none)],(aA f120 1)⟩
def F121:IFn:=⟨80,[(8,none),(9,none)],(aA f121 1)⟩
def adK:IFn:=⟨60,[(6,some (some 5)),(7,none)],(aA f122 1)⟩
def F123:IFn:=⟨82,[(6,none),(7,none)],(aA f123 1)⟩
def adJ:IFn:=⟨51,[(4,none)],(aA f124 1)⟩
def adI:IFn:=⟨54,[(6,none)],(aA f125 1)⟩
def adH:IFn:=⟨39,[(2,some (some 5)),(3,some (some 3)),(4,none)],(aA f126 1)⟩
def adG:IFn:=⟨18,[(2,none)],(aA f127 1)⟩
def adF:IFn:=⟨11,[(2,none)],(aA f128 1)⟩
def adE:IFn:=⟨30,[(6,some (some 2))],(aA f129 1)⟩
def adD:IFn:=⟨6,[(2,none)],(aA f140 1)⟩
def adC:IFn:=⟨6,[(2,none)],(aA f141 1)⟩
def adB:IFn:=⟨29,[],(aA f150 1)⟩
def adA:IFn:=⟨35,[(2,none)],(aA f151 1)⟩
def adz:IFn:=⟨43,[(2,none)],(aA f152 1)⟩
def ady:IFn:=⟨108,[(2,none)],(aA f153 1)⟩
def adx:IFn:=⟨11,[(2,none)],(aA f154 1)⟩
def adw:IFn:=⟨9,[(2,none)],(aA f155 1)⟩
def Mq:IFn:=⟨63,[],(aA f156 1)⟩
def adv:IFn:=⟨27,[(6,none)],(aA f157 1)⟩
def adu:IFn:=⟨28,[],(aA f158 1)⟩
def adt:IFn:=⟨11,[(2,none)],(aA f159 1)⟩
def ads:IFn:=⟨39,[(4,none)],(aA f160 1)⟩
def adr:IFn:=⟨11,[(2,none)],(aA f161 1)⟩
def adq:IFn:=⟨28,[],(aA f162 1)⟩
def adp:IFn:=⟨28,[],(aA f163 1)⟩
def ado:IFn:=⟨11,[(2,none)],(aA f164 1)⟩
def F165:IFn:=⟨44,[(6,none)],(aA f165 1)⟩
def F174:IFn:=⟨70,[(4,none)],(aA f174 1)⟩
def adn:IFn:=⟨25,[(4,some (some 2))],(aA f175 1)⟩
def Tn:IFn:=⟨53,[],(aA f176 1)⟩
def zt:IFn:=⟨220,[],(aA f177 1)⟩
def adm:IFn:=⟨11,[(2,none)],(aA f178 1)⟩
def adl:IFn:=⟨20,[(2,none)],(aA f179 1)⟩
def adk:IFn:=⟨33,[(4,none)],(aA f182 1)⟩
def adj:IFn:=⟨9,[(2,none)],(aA f183 1)⟩
def adi:IFn:=⟨58,[],(aA f184 1)⟩
def adh:IFn:=⟨38,[],(aA f185 1)⟩
def fnT:Tr IFn:=.node (none) (.node (none) (.node (some F3) (.node (some F7) (.node (some F15) (.node (some F31) (.node (some F63) (.node (some adG) (.leaf) (.leaf)) (.leaf)) (.node (some F95) (.node (some adt) (.leaf) (.leaf)) (.leaf))) (.node (some F47) (.node (some F79) (.node (some (QG 143)) (.leaf) (.leaf)) (.leaf)) (.node (some adT) (.node (some adn) (.leaf) (.leaf)) (.leaf)))) (.node (some F23) (.node (some F39) (.node (some F71) (.node (some (QG 135)) (.leaf) (.leaf)) (.leaf)) (.node (some ad0) (.node (some (QG 167)) (.leaf) (.leaf)) (.leaf))) (.node (some F55) (.node (some F87) (.node (some adA) (.leaf) (.leaf)) (.leaf)) (.node (some adM) (.node (some adj) (.leaf) (.leaf)) (.leaf))))) (.node (some F11) (.node (some F19) (.node (some F35) (.node (some F67) (.node (some (QG 131)) (.leaf) (.leaf)) (.leaf)) (.node (some F99) (.node (some adp) (.leaf) (.leaf)) (.leaf))) (.node (some F51) (.node (some F83) (.node (some (QG 147)) (.leaf) (.leaf)) (.leaf)) (.node (some adP) (.node (some adl) (.leaf) (.leaf)) (.leaf)))) (.node (some F27) (.node (some F43) (.node (some F75) (.node (some (QG 139)) (.leaf) (.leaf)) (.leaf)) (.node (some adX) (.node (some (QG 171)) (.leaf) (.leaf)) (.leaf))) (.node (some F59) (.node (some F91) (.node (some adw) (.leaf) (.leaf)) (.leaf)) (.node (some F123) (.leaf) (.leaf)))))) (.node (some F5) (.node (some F9) (.node (some F17) (.node (some F33) (.node (some F65) (.node (some adE) (.leaf) (.leaf)) (.leaf)) (.node (some F97) (.node (some adr) (.leaf) (.leaf)) (.leaf))) (.node (some F49) (.node (some F81) (.node (some (QG 145)) (.leaf) (.leaf)) (.leaf)) (.node (some adR) (.node (some zt) (.leaf) (.leaf)) (.leaf)))) (.node (some F25) (.node (some F41) (.node (some F73) (.node (some (QG 137)) (.leaf) (.leaf)) (.leaf)) (.node (some (QG 105)) (.node (some (QG 169)) (.leaf) (.leaf)) (.leaf))) (.node (some F57) (.node (some F89) (.node (some ady) (.leaf) (.leaf)) (.leaf)) (.node (some F121) (.node (some adh) (.leaf) (.leaf)) (.leaf))))) (.node (some F13) (.node (some F21) (.node (some F37) (.node (some F69) (.node (some (QG 133)) (.leaf) (.leaf)) (.leaf)) (.node (some (QG 101)) (.node (some F165) (.leaf) (.leaf)) (.leaf))) (.node (some F53) (.node (some F85) (.node (some (QG 149)) (.leaf) (.leaf)) (.leaf)) (.node (some adO) (.node (some (QG 181)) (.leaf) (.leaf)) (.leaf)))) (.node (some F29) (.node (some F45) (.node (some F77) (.node (some adC) (.leaf) (.leaf)) (.leaf)) (.node (some adV) (.node (some (QG 173)) (.leaf) (.leaf)) (.leaf))) (.node (some F61) (.node (some F93) (.node (some adv) (.leaf) (.leaf)) (.leaf)) (.node (some adI) (.leaf) (.leaf))))))) (.node (none) (.node (some F4) (.node (some F8) (.node (some F16) (.node (some F32) (.node (some F64) (.node (some adF) (.leaf) (.leaf)) (.leaf)) (.node (some F96) (.node (some ads) (.leaf) (.leaf)) (.leaf))) (.node (some F48) (.node (some F80) (.node (some (QG 144)) (.leaf) (.leaf)) (.leaf)) (.node (some adS) (.node (some Tn) (.leaf) (.leaf)) (.leaf)))) (.node (some F24) (.node (some F40) (.node (some F72) (.node (some (QG 136)) (.leaf) (.leaf)) (.leaf)) (.node (some adZ) (.node (some (QG 168)) (.leaf) (.leaf)) (.leaf))) (.node (some F56) (.node (some F88) (.node (some adz) (.leaf) (.leaf)) (.leaf)) (.node (some adL) (.node (some adi) (.leaf) (.leaf)) (.leaf))))) (.node (some F12) (.node (some F20) (.node (some F36) (.node (some F68) (.node (some (QG 132)) (.leaf) (.leaf)) (.leaf)) (.node (some (QG 100)) (.node (some ado) (.leaf) (.leaf)) (.leaf))) (.node (some F52) (.node (some F84) (.node (some (QG 148)) (.leaf) (.leaf)) (.leaf)) (.node (some To) (.node (some (QG 180)) (.leaf) (.leaf)) (.leaf)))) (.node (some F28) (.node (some F44) (.node (some F76) (.node (some adD) (.leaf) (.leaf)) (.leaf)) (.node (some adW) (.node (some (QG 172)) (.leaf) (.leaf)) (.leaf))) (.node (some F60) (.node (some F92) (.node (some Mq) (.leaf) (.leaf)) (.leaf)) (.node (some adJ) (.leaf) (.leaf)))))) (.node (some F6) (.node (some YA) (.node (some F18) (.node (some F34) (.node (some F66) (.node (some (QG 130)) (.leaf) (.leaf)) (.leaf)) (.node (some F98) (.node (some adq) (.leaf) (.leaf)) (.leaf))) (.node (some F50) (.node (some F82) (.node (some (QG 146)) (.leaf) (.leaf)) (.leaf)) (.node (some adQ) (.node (some adm) (.leaf) (.leaf)) (.leaf)))) (.node (some F26) (.node (some F42) (.node (some F74) (.node (some (QG 138)) (.leaf) (.leaf)) (.leaf)) (.node (some adY) (.node (some (QG 170)) (.leaf) (.leaf)) (.leaf))) (.node (some F58) (.node (some F90) (.node (some adx) (.leaf) (.leaf)) (.leaf)) (.node (some adK) (.leaf) (.leaf))))) (.node (some F14) (.node (some F22) (.node (some F38) (.node (some F70) (.node (some (QG 134)) (.leaf) (.leaf)) (.leaf)) (.node (some ad1) (.node (some (QG 166)) (.leaf) (.leaf)) (.leaf))) (.node (some F54) (.node (some F86) (.node (some adB) (.leaf) (.leaf)) (.leaf)) (.node (some adN) (.node (some adk) (.leaf) (.leaf)) (.leaf)))) (.node (some F30) (.node (some F46) (.node (some F78) (.node (some (QG 142)) (.leaf) (.leaf)) (.leaf)) (.node (some adU) (.node (some F174) (.leaf) (.leaf)) (.leaf))) (.node (some F62) (.node (some F94) (.node (some adu) (.leaf) (.leaf)) (.leaf)) (.node (some adH) (.leaf) (.leaf)))))))
def tabs:List (List Int):=[[-1,1]]
def E0:Env:={fns:=fnT.get,sums:=λf=>if f=9 then some (pZ tabs) else if f=33 then some (mX prog 1 33 stC) else none,g0:=1}
def En:Env:={fns:=fnT.get,sums:=λ_=>none,g0:=1}
theorem g0E:E0.g0=1:=rfl
theorem ba:X8 E0:=by intro f s hs args lo H v H' h;have E:(if f=9 then some (pZ tabs) else if f=33 then some (mX prog 1 33 stC) else none)=some s:=hs;split at E;{injection E with E;subst E;cases args with|cons=>cases h|nil=>simp only[pZ] at h;split at h;{rename_i F;injection h with h;injection h with I J;subst I J;exact⟨.refl _ _,λ_ _=>by simp only[pZ,F];rfl⟩};{cases h}};split at E;{injection E with E;subst E;exact II h};{cases E}
section
variable {lo:Nat}{rd:Option Nat}{fr:Fr}{H:Heap}{Q:CJ}{args:List IV}
theorem uw{c:IC}{l:List (Sg×List IOp)}(h:c=.ops l){lo:Nat}{rd:Option Nat}{fr:Fr}{H:Heap}{Q:CJ}:W E0 lo (.code c rd fr) H Q=W E0 lo (.segs l rd fr) H Q:=by subst h;exact abf
def aD(f:Func)(p:Nat){c:(Nat->IC)->(Nat->IC)->IC}(h:∀g k,lbg f p g k=c g k:=by intro g k;cbv):aA f p=c (ji f) (vW f):=h _ _
def bG(f:Func)(p:Nat){c:(Nat->IC)->(Nat->IC)->IC}(h:∀g k,lbg f p g k=c g k:=by intro g k;cbv):vW f p=c (ji f) (K0 f):=h _ _
def Es(f:Func)(p:Nat){c:(Nat->IC)->(Nat->IC)->IC}(h:∀g k,lbg f p g k=c g k:=by intro g k;cbv):K0 f p=c (ji f) (lb3 f):=h _ _
def VG(f:Func)(p:Nat){c:(Nat->IC)->(Nat->IC)->IC}(h:∀g k,lbg f p g k=c g k:=by intro g k;cbv):lb3 f p=c (ji f) (λ_=>.skip):=h _ _
theorem afp{P:Program}{o:Array Oper}{d:Bool}(h:oR0 P o d=true):de P o d=cR0 P o d:=by unfold de cR0;unfold oR0 at h;cases e:o.toList.mapM (j8 P o) with|none=>rfl|some l=>(rw[e] at h;cases d with|false=>rfl|true=>(simp only[Bool.not_true,yB,bI] at h;obtain⟨⟨⟨a,b⟩,c⟩,d⟩:=h;simp[a,b,c,d]))
theorem ahf{f:Func}{p:Nat}(h:oP0 f p=true):ji f p=gR0 f p:=by unfold oP0 at h;unfold ji gR0;cases e:f.body with|none=>rfl|some c=>(rw[e] at h;simp only at h ⊢;cases q:pj0 64 p c with|region a o d=>(rw[q] at h;simp only at h ⊢;rw[<-afp h];rfl)|_=>(rw[q] at h;cases h))
def ab(f:Func)(p:Nat){l:List (Sg×List IOp)}(h:gR0 f p=.ops l:=by cbv)(k:oP0 f p=true:=by kernel_rfl)(lo:Nat)(rd:Option Nat)(fr:Fr)(H:Heap)(Q:CJ):W E0 lo (.code (ji f p) rd fr) H Q=W E0 lo (.segs l rd fr) H Q:=uw ((ahf k).trans h)
def j_(f:Func)(p:Nat){l:List (Sg×List IOp)}{q:Prop}(zz:q)(h:gR0 f p=.ops l:=by cbv)(k:oP0 f p=true:=by kernel_rfl):=J0 (ab f p h k) zz
abbrev Wc(n:Nat)(f:IFn)(b:IC):Prop:=∀{lo:Nat}{H:Heap}{Q:CJ}{args:List IV},W E0 lo (.call n args) H Q=W E0 lo (.code b none ⟨args++di (f.ntmps - args.length),[]⟩) H (og lo f.results Q)
def My:=J0 (@uw abo _ rfl)<|J0 (@uw abn _ rfl)<|J0 (@uw abm _ rfl)<|J0 (@uw abl _ rfl)<|J0 (@uw abk _ rfl)<|J0 (@uw abj _ rfl)<|J0 (@uw Yd _ rfl)<|J0 (@uw Yc _ rfl)<|J0 (@uw abi _ rfl)<|J0 (@uw Yg _ rfl)<|J0 (@uw Yf _ rfl)<|J0 (@uw Ye _ rfl)<|J0 (@uw PO _ rfl)<|J0 (@uw Jn _ rfl)<|J0 (@uw Jm _ rfl)<|J0 adf.eq_1 (F33.eq_1)
def aaN:=J0 My<|J0 Yh.eq_1 (Jo.eq_1)
theorem c33{H':Heap}{v:IV}(E:stC args H=some (v,H'))(F:Keep lo H H')(hs:CallSim prog 1 33 args lo H v H')(h:Q (.val v) H'):W E0 lo (.call 33 args) H Q:=abe (s:=mX prog 1 33 stC) rfl (zT E F hs) h
theorem c9(E:Tabs tabs H)(h:Q (.val (.bool true)) H):W E0 lo (.call 9 []) H Q:=abe (s:=pZ tabs) rfl (by simp only[pZ,E.ok];rfl) h
end
end
end Go.Iso.Gen
