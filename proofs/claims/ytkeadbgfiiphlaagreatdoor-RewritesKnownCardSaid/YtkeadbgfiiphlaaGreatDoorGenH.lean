/-
  the code that the claim reaches, for the evaluator.
-/
import Derived.Test.YtkeadbgfiiphlaaGreatDoorIsoP5
import Derived.Test.YtkeadbgfiiphlaaGreatDoorIsoP7
import Derived.Test.YtkeadbgfiiphlaaGreatDoorFnZ
import Derived.Test.YtkeadbgfiiphlaaGreatDoorProg
import Derived.KernelRfl
set_option linter.unusedSimpArgs false
set_option linter.unusedVariables false
set_option maxRecDepth 100000
set_option maxHeartbeats 4000000
set_option linter.defProp false
namespace Go.Iso.Gen
open Go.Proofs Go.Proofs.Tryz
noncomputable section
def PgT:Program:=⟨Tryz.progTables,#[]⟩
def ag7(b:Bool):Code->Code|.seq a c=>if b then c else a|.cond _ a c=>if b then c else a|.block _ a=>a|.loop a=>a|.scope a=>a|.rangeFunc _ _ a c=>if b then c else a|c=>c
def pj0:Nat->Nat->Code->Code|0,_,c=>c|n+1,p,c=>if p<=1 then c else pj0 n (p / 2) (ag7 (p%2==1) c)
def dE(f:Func)(p:Nat):IC:=match f.body with|some c=>(bg PgT (pj0 64 p c)).getD .skip|none=>.skip
def No(f:Func)(p:Nat)(c:IC)(_:dE f p=c):IC:=c
def kk0(k:Nat->IC)(p:Nat):IC:=k p
def W6(g k:Nat->IC):Code->Nat->Nat->IC|.region _ _ _,p,_=>g p|.seq a b,p,w=>.seq (W6 g k a (p+w) (2*w)) (W6 g k b (p+2*w) (2*w))|.cond c a b,p,w=>.cond ((pE c).getD (.tmp 0)) (W6 g k a (p+w) (2*w)) (W6 g k b (p+2*w) (2*w))|.block id c,p,w=>.block id (W6 g k c (p+w) (2*w))|.scope c,p,w=>.scope (W6 g k c (p+w) (2*w))|.loop _,p,w=>.loop (kk0 k (p+w))|.rangeFunc f q a b,p,w=>.rfn ((pE f).getD (.tmp 0)) q.toList (W6 g k a (p+w) (2*w)) (W6 g k b (p+2*w) (2*w))|.exit id,_,_=>.exit id|.ret,_,_=>.ret|_,_,_=>.skip
def wb0:Nat->Nat->Nat->Nat|0,_,w=>w|n+1,p,w=>if p<=1 then w else wb0 n (p/2) (2*w)
def Z9(f:Func)(p:Nat)(g k:Nat->IC):IC:=match f.body with|some c=>W6 g k (pj0 64 p c) p (wb0 64 p 1)|none=>.skip
def cR0(P:Program)(o:Array Oper)(d:Bool):Option (List (Sg×List IOp)):=(o.toList.mapM (iY P o)).map λl=>if d then parts (gH o.toList []) (jr (gH o.toList []) l l 0) 0 [] else [(.seq,l)]
def oR0(P:Program)(o:Array Oper)(d:Bool):Bool:=match o.toList.mapM (iY P o) with|some l=>!d||(vy o&&FP o.toList 0&&qQ (gH o.toList []) (jr (gH o.toList []) l l 0) 0&&nl (gH o.toList []) (jr (gH o.toList []) l l 0) 0)|none=>true
def gR0(f:Func)(p:Nat):IC:=match f.body with|some c=>(match pj0 64 p c with|.region _ o d=>((cR0 PgT o d).map .ops).getD .skip|_=>.skip)|none=>.skip
def oP0(f:Func)(p:Nat):Bool:=match f.body with|some c=>(match pj0 64 p c with|.region _ o d=>oR0 PgT o d|_=>false)|none=>false
def lb3(f:Func)(p:Nat):IC:=Z9 f p (dE f) (λ_=>.skip)
def Fm(f:Func)(p:Nat):IC:=Z9 f p (dE f) (lb3 f)
def sg(f:Func)(p:Nat):IC:=Z9 f p (dE f) (Fm f)
def aA(f:Func)(p:Nat):IC:=Z9 f p (dE f) (sg f)
theorem J0{a b:Prop}(h:a)(k:b):a/\b:=⟨h,k⟩
def F3:IFn:=⟨78,[(0,none)],(aA f3 1)⟩
def F4:IFn:=⟨148,[(4,none)],(aA f4 1)⟩
def F5:IFn:=⟨56,[(2,none)],(aA f5 1)⟩
def F6:IFn:=⟨121,[(2,none)],(aA f6 1)⟩
def F7:IFn:=⟨111,[(4,none)],(aA f7 1)⟩
def F8:IFn:=⟨147,[(0,none)],(aA f8 1)⟩
def F9:IFn:=⟨86,[(2,none)],(aA f9 1)⟩
def F10:IFn:=⟨19,[(4,none),(5,none)],(aA f10 1)⟩
def F11:IFn:=⟨4,[(0,some (some 8))],(aA f11 1)⟩
def F12:IFn:=⟨204,[(8,none)],(aA f12 1)⟩
def F13:IFn:=⟨55,[(6,none),(7,none)],(aA f13 1)⟩
def F14:IFn:=⟨33,[(4,none)],(aA f14 1)⟩
def F15:IFn:=⟨27,[(4,some (some 8)),(5,none)],(aA f15 1)⟩
def F16:IFn:=⟨37,[(4,none)],(aA f16 1)⟩
def F17:IFn:=⟨70,[(2,none),(3,none),(4,none)],(aA f17 1)⟩
def F18:IFn:=⟨62,[(2,none)],(aA f18 1)⟩
def F19:IFn:=⟨47,[(4,some (some 8)),(5,none),(6,none)],(aA f19 1)⟩
def F20:IFn:=⟨81,[(4,none)],(aA f20 1)⟩
def F21:IFn:=⟨66,[(4,none),(5,none),(6,none)],(aA f21 1)⟩
def F22:IFn:=⟨9,[(2,none)],(aA f22 1)⟩
def F23:IFn:=⟨3,[(0,some (some 4))],(aA f23 1)⟩
def F24:IFn:=⟨30,[(4,none)],(aA f24 1)⟩
def F25:IFn:=⟨45,[(4,none)],(aA f25 1)⟩
def F26:IFn:=⟨54,[(4,none),(5,none)],(aA f26 1)⟩
def F27:IFn:=⟨76,[(2,none)],(aA f27 1)⟩
def F28:IFn:=⟨56,[(2,none)],(aA f28 1)⟩
def F29:IFn:=⟨20,[(6,none)],(aA f29 1)⟩
def F30:IFn:=⟨3,[(0,none)],(aA f30 1)⟩
def aax:=No f31 2 _ (by cbv)
def aaw:=No f31 5 _ (by cbv)
def aav:=No f31 19 _ (by cbv)
def aau:=No f31 139 _ (by cbv)
def aat:=No f31 1227 _ (by cbv)
def aas:=No f31 1739 _ (by cbv)
def Wn:IC:=.seq (aau) (.seq (.cond (.tmp 21) (.skip) (.exit 0)) (.block 1 (.seq (aat) (aas))))
def Wi:=No f31 23 _ (by cbv)
def Wh:=No f31 79 _ (by cbv)
def aar:=No f31 559 _ (by cbv)
def Wm:=No f31 9007 _ (by cbv)
def Wl:=No f31 13103 _ (by cbv)
def Wj:=No f31 3887 _ (by cbv)
def Gx:IC:=.seq (aar) (.seq (.cond (.tmp 42) (.skip) (.exit 2)) (.seq (.block 3 (.seq (Wm) (Wl))) (Wj)))
def Mv:=No f31 95 _ (by cbv)
def Gw:IC:=.ops [(.free,[⟨some 60,.move,[.tmp 0],none,false,0,0⟩,⟨some 61,.nilCheck,[.tmp 60],none,false,1,1⟩,⟨some 62,.fieldAddr 4,[.tmp 61],none,false,2,3⟩,⟨some 63,.load none,[.tmp 62],none,false,3,7⟩,⟨some 64,.move,[.tmp 3],none,false,4,0⟩,⟨some 65,.call,[.val (.fn 70 [] []),.tmp 64],none,false,5,16⟩,⟨some 66,.move,[.tmp 0],none,false,6,0⟩,⟨some 67,.nilCheck,[.tmp 66],none,false,7,64⟩,⟨some 68,.fieldAddr 1,[.tmp 67],none,false,8,192⟩,⟨some 69,.load (some 2),[.tmp 68],none,false,9,448⟩,⟨some 70,.move,[.tmp 0],none,false,10,0⟩,⟨some 71,.nilCheck,[.tmp 70],none,false,11,1024⟩,⟨some 72,.fieldAddr 0,[.tmp 71],none,false,12,3072⟩,⟨some 73,.load none,[.tmp 72],none,false,13,7168⟩,⟨some 74,.call,[.val (.fn 51 [] []),.tmp 69,.tmp 73],none,false,14,16368⟩,⟨some 75,.move,[.tmp 0],none,false,15,0⟩,⟨some 76,.nilCheck,[.tmp 75],none,false,16,32768⟩,⟨some 77,.fieldAddr 6,[.tmp 76],none,false,17,98304⟩,⟨some 78,.load none,[.tmp 77],none,false,18,229376⟩,⟨some 79,.call,[.val (.fn 55 [] []),.tmp 78],none,false,19,524272⟩,⟨some 80,.build [.ns,.ns,.ns,.ns] [(0,1),(1,1),(2,1),(3,1)],[.tmp 63,.tmp 65,.tmp 74,.tmp 79],none,false,20,1048575⟩,⟨some 8,.alloc 49 4 [.ns,.ns,.ns,.ns],[],none,false,21,0⟩]),(.seq,[⟨none,.store 4,[.tmp 8,.tmp 80],none,true,22,4194303⟩])]
def Gv:=No f31 383 _ (by cbv)
def acE:IC:=.seq (aax) (.seq (aaw) (.seq (.seq (aav) (.block 0 (.loop Wn))) (.seq (Wi) (.seq (.seq (Wh) (.block 2 (.loop Gx))) (.seq (Mv) (.seq (Gw) (.seq (Gv) (.ret))))))))
def F31:IFn:=⟨95,[(2,some (some 8))],acE⟩
def F32:IFn:=⟨17,[(2,some (some 4)),(3,none)],(aA f32 1)⟩
def F33:IFn:=⟨35,[(4,none)],(aA f33 1)⟩
def F34:IFn:=⟨34,[(2,none)],(aA f34 1)⟩
def F35:IFn:=⟨8,[(2,none)],(aA f35 1)⟩
def F36:IFn:=⟨115,[(2,none)],(aA f36 1)⟩
def F37:IFn:=⟨7,[(0,some (some 10))],(aA f37 1)⟩
def F38:IFn:=⟨51,[(8,none),(9,none)],(aA f38 1)⟩
def F39:IFn:=⟨45,[(4,none)],(aA f39 1)⟩
def F40:IFn:=⟨9,[(2,none)],(aA f40 1)⟩
def F41:IFn:=⟨22,[(4,none)],(aA f41 1)⟩
def F42:IFn:=⟨73,[(4,some (some 6))],(aA f42 1)⟩
def F43:IFn:=⟨2,[(0,none)],(aA f43 1)⟩
def F44:IFn:=⟨20,[(4,none)],(aA f44 1)⟩
def F45:IFn:=⟨17,[(4,none)],(aA f45 1)⟩
def F46:IFn:=⟨6,[(2,none)],(aA f46 1)⟩
def F47:IFn:=⟨84,[(2,some none)],(aA f47 1)⟩
def F48:IFn:=⟨65,[(2,none)],(aA f48 1)⟩
def F49:IFn:=⟨18,[(2,none)],(aA f49 1)⟩
def F50:IFn:=⟨26,[(4,none)],(aA f50 1)⟩
def F51:IFn:=⟨33,[(4,none)],(aA f51 1)⟩
def F52:IFn:=⟨37,[(2,none)],(aA f52 1)⟩
def F53:IFn:=⟨24,[(2,none)],(aA f53 1)⟩
def F54:IFn:=⟨53,[(2,none)],(aA f54 1)⟩
def F55:IFn:=⟨11,[(2,none)],(aA f55 1)⟩
def F56:IFn:=⟨14,[(2,none)],(aA f56 1)⟩
def F57:IFn:=⟨34,[(4,none)],(aA f57 1)⟩
def F58:IFn:=⟨32,[(4,none)],(aA f58 1)⟩
def F59:IFn:=⟨42,[(4,none)],(aA f59 1)⟩
def F60:IFn:=⟨38,[(4,none)],(aA f60 1)⟩
def F61:IFn:=⟨43,[(4,none)],(aA f61 1)⟩
def F62:IFn:=⟨24,[(4,none)],(aA f62 1)⟩
def F63:IFn:=⟨84,[(4,none)],(aA f63 1)⟩
def F64:IFn:=⟨44,[(4,none)],(aA f64 1)⟩
def F66:IFn:=⟨19,[(4,none)],(aA f66 1)⟩
def F67:IFn:=⟨17,[(4,none)],(aA f67 1)⟩
def F68:IFn:=⟨11,[(2,none)],(aA f68 1)⟩
def F70:IFn:=⟨11,[(2,none)],(aA f70 1)⟩
def F71:IFn:=⟨31,[(4,none)],(aA f71 1)⟩
def F72:IFn:=⟨26,[(4,none)],(aA f72 1)⟩
def F73:IFn:=⟨10,[(5,none)],(aA f73 1)⟩
def F74:IFn:=⟨32,[(6,none)],(aA f74 1)⟩
def F75:IFn:=⟨32,[(6,none)],(aA f75 1)⟩
def F76:IFn:=⟨26,[(4,none)],(aA f76 1)⟩
def F77:IFn:=⟨18,[(2,none)],(aA f77 1)⟩
def F78:IFn:=⟨4,[(2,none)],(aA f78 1)⟩
def F79:IFn:=⟨15,[(2,none)],(aA f79 1)⟩
def F80:IFn:=⟨25,[(4,none)],(aA f80 1)⟩
def F81:IFn:=⟨33,[(4,some (some 2)),(5,none)],(aA f81 1)⟩
def F82:IFn:=⟨28,[(6,none)],(aA f82 1)⟩
def F83:IFn:=⟨31,[(6,none)],(aA f83 1)⟩
def F84:IFn:=⟨67,[(6,none)],(aA f84 1)⟩
def F85:IFn:=⟨91,[(6,none)],(aA f85 1)⟩
def F86:IFn:=⟨41,[(6,none)],(aA f86 1)⟩
def F87:IFn:=⟨33,[(6,none)],(aA f87 1)⟩
def F88:IFn:=⟨33,[(6,none)],(aA f88 1)⟩
def F89:IFn:=⟨6,[(2,none)],(aA f89 1)⟩
def F90:IFn:=⟨4,[(2,none)],(aA f90 1)⟩
def F91:IFn:=⟨21,[(2,none)],(aA f91 1)⟩
def F92:IFn:=⟨15,[(2,none)],(aA f92 1)⟩
def F93:IFn:=⟨14,[(2,none)],(aA f93 1)⟩
def F94:IFn:=⟨11,[(2,none)],(aA f94 1)⟩
def F95:IFn:=⟨28,[(4,none)],(aA f95 1)⟩
def F96:IFn:=⟨11,[(2,none)],(aA f96 1)⟩
def F97:IFn:=⟨62,[(2,none)],(aA f97 1)⟩
def F98:IFn:=⟨113,[(2,none)],(aA f98 1)⟩
def F99:IFn:=⟨31,[(4,none),(5,none)],(aA f99 1)⟩
def adF:IFn:=⟨11,[(2,none)],(aA f100 1)⟩
def adE:IFn:=⟨11,[(2,none)],(aA f101 1)⟩
def adD:IFn:=⟨84,[(2,none)],(aA f102 1)⟩
def adC:IFn:=⟨27,[(4,some (some 5)),(5,none)],(aA f103 1)⟩
def adB:IFn:=⟨18,[(2,some (some 5)),(3,none)],(aA f104 1)⟩
def adA:IFn:=⟨92,[(4,none)],(aA f105 1)⟩
def adz:IFn:=⟨44,[(4,none),(5,none),(6,none)],(aA f106 1)⟩
def ady:IFn:=⟨58,[(8,none)],(aA f107 1)⟩
def adx:IFn:=⟨103,[(8,none)],(aA f108 1)⟩
def adw:IFn:=⟨28,[(4,none)],(aA f109 1)⟩
def F110:IFn:=⟨68,[(6,some (some 2)),(7,none)],(aA f110 1)⟩
def adv:IFn:=⟨77,[(6,some (some 2)),(7,none)],(aA f111 1)⟩
def adu:IFn:=⟨18,[(2,none)],(aA f114 1)⟩
def adt:IFn:=⟨20,[(4,none)],(aA f115 1)⟩
def ads:IFn:=⟨20,[(4,none)],(aA f116 1)⟩
def adr:IFn:=⟨67,[],(aA f118 1)⟩
def adq:IFn:=⟨59,[(6,none)],(aA f119 1)⟩
def adp:IFn:=⟨19,[(2,none)],(aA f120 1)⟩
def ado:IFn:=⟨9,[(2,none)],(aA f121 1)⟩
def YO:IFn:=⟨28,[(4,none)],(aA f122 1)⟩
def adn:IFn:=⟨11,[],(aA f123 1)⟩
def adm:IFn:=⟨4,[(2,none)],(aA f124 1)⟩
def adl:IFn:=⟨9,[(2,none)],(aA f125 1)⟩
def adk:IFn:=⟨32,[(2,none),(3,none)],(aA f126 1)⟩
def adj:IFn:=⟨33,[(4,none)],(aA f127 1)⟩
def adi:IFn:=⟨17,[(4,none)],(aA f128 1)⟩
def adh:IFn:=⟨18,[],(aA f129 1)⟩
def adg:IFn:=⟨14,[(4,none)],(aA f130 1)⟩
def adf:IFn:=⟨39,[],(aA f131 1)⟩
def ade:IFn:=⟨9,[],(aA f132 1)⟩
def adc:IFn:=⟨10,[(4,none)],(aA f133 1)⟩
def adb:IFn:=⟨11,[(2,none)],(aA f134 1)⟩
def ada:IFn:=⟨11,[(0,none)],(aA f135 1)⟩
def F136:IFn:=⟨80,[(8,none),(9,none)],(aA f136 1)⟩
def ac9:IFn:=⟨60,[(6,some (some 5)),(7,none)],(aA f137 1)⟩
def F138:IFn:=⟨82,[(6,none),(7,none)],(aA f138 1)⟩
def ac8:IFn:=⟨51,[(4,none)],(aA f139 1)⟩
def ac7:IFn:=⟨54,[(6,none)],(aA f140 1)⟩
def ac6:IFn:=⟨39,[(2,some (some 5)),(3,some (some 3)),(4,none)],(aA f141 1)⟩
def ac5:IFn:=⟨18,[(2,none)],(aA f142 1)⟩
def ac4:IFn:=⟨11,[(2,none)],(aA f143 1)⟩
def ac3:IFn:=⟨30,[(6,some (some 2))],(aA f144 1)⟩
def ac2:IFn:=⟨6,[(2,none)],(aA f155 1)⟩
def ac1:IFn:=⟨29,[],(aA f164 1)⟩
def ac0:IFn:=⟨35,[(2,none)],(aA f165 1)⟩
def acZ:IFn:=⟨43,[(2,none)],(aA f166 1)⟩
def acY:IFn:=⟨108,[(2,none)],(aA f167 1)⟩
def acX:IFn:=⟨11,[(2,none)],(aA f168 1)⟩
def acW:IFn:=⟨9,[(2,none)],(aA f169 1)⟩
def acV:IFn:=⟨63,[],(aA f170 1)⟩
def acU:IFn:=⟨27,[(6,none)],(aA f171 1)⟩
def acT:IFn:=⟨28,[],(aA f172 1)⟩
def acS:IFn:=⟨11,[(2,none)],(aA f173 1)⟩
def acR:IFn:=⟨39,[(4,none)],(aA f174 1)⟩
def acQ:IFn:=⟨11,[(2,none)],(aA f175 1)⟩
def acP:IFn:=⟨28,[],(aA f176 1)⟩
def acO:IFn:=⟨28,[],(aA f177 1)⟩
def acN:IFn:=⟨11,[(2,none)],(aA f178 1)⟩
def F179:IFn:=⟨44,[(6,none)],(aA f179 1)⟩
def F188:IFn:=⟨70,[(4,none)],(aA f188 1)⟩
def acM:IFn:=⟨25,[(4,some (some 2))],(aA f189 1)⟩
def acL:IFn:=⟨53,[],(aA f190 1)⟩
def Wo:IFn:=⟨220,[],(aA f191 1)⟩
def acK:IFn:=⟨11,[(2,none)],(aA f192 1)⟩
def acJ:IFn:=⟨20,[(2,none)],(aA f193 1)⟩
def acI:IFn:=⟨33,[(4,none)],(aA f196 1)⟩
def acH:IFn:=⟨9,[(2,none)],(aA f197 1)⟩
def acG:IFn:=⟨58,[],(aA f198 1)⟩
def acF:IFn:=⟨38,[],(aA f199 1)⟩
def fnT:Tr IFn:=.node (none) (.node (none) (.node (some F3) (.node (some F7) (.node (some F15) (.node (some F31) (.node (some F63) (.node (some adj) (.leaf) (.leaf)) (.node (some Wo) (.leaf) (.leaf))) (.node (some F95) (.leaf) (.leaf))) (.node (some F47) (.node (some F79) (.node (some ac4) (.leaf) (.leaf)) (.leaf)) (.node (some adv) (.node (some acQ) (.leaf) (.leaf)) (.leaf)))) (.node (some F23) (.node (some F39) (.node (some F71) (.node (some ada) (.leaf) (.leaf)) (.node (some acF) (.leaf) (.leaf))) (.node (some adC) (.node (some acY) (.leaf) (.leaf)) (.leaf))) (.node (some F55) (.node (some F87) (.leaf) (.leaf)) (.node (some adq) (.leaf) (.leaf))))) (.node (some F11) (.node (some F19) (.node (some F35) (.node (some F67) (.node (some adf) (.leaf) (.leaf)) (.leaf)) (.node (some F99) (.leaf) (.leaf))) (.node (some F51) (.node (some F83) (.leaf) (.leaf)) (.node (some adt) (.node (some F179) (.leaf) (.leaf)) (.leaf)))) (.node (some F27) (.node (some F43) (.node (some F75) (.node (some ac8) (.leaf) (.leaf)) (.leaf)) (.node (some ady) (.node (some acU) (.leaf) (.leaf)) (.leaf))) (.node (some F59) (.node (some F91) (.node (some ac2) (.leaf) (.leaf)) (.leaf)) (.node (some adn) (.leaf) (.leaf)))))) (.node (some F5) (.node (some F9) (.node (some F17) (.node (some F33) (.node (none) (.node (some adh) (.leaf) (.leaf)) (.node (some acJ) (.leaf) (.leaf))) (.node (some F97) (.leaf) (.leaf))) (.node (some F49) (.node (some F81) (.leaf) (.leaf)) (.node (none) (.node (some acO) (.leaf) (.leaf)) (.leaf)))) (.node (some F25) (.node (some F41) (.node (some F73) (.node (some ac9) (.leaf) (.leaf)) (.leaf)) (.node (some adA) (.node (some acW) (.leaf) (.leaf)) (.leaf))) (.node (some F57) (.node (some F89) (.leaf) (.leaf)) (.node (some ado) (.leaf) (.leaf))))) (.node (some F13) (.node (some F21) (.node (some F37) (.node (none) (.node (some adc) (.leaf) (.leaf)) (.node (some acH) (.leaf) (.leaf))) (.node (some adE) (.node (some ac0) (.leaf) (.leaf)) (.leaf))) (.node (some F53) (.node (some F85) (.leaf) (.leaf)) (.leaf))) (.node (some F29) (.node (some F45) (.node (some F77) (.node (some ac6) (.leaf) (.leaf)) (.leaf)) (.node (some adw) (.node (some acS) (.leaf) (.leaf)) (.leaf))) (.node (some F61) (.node (some F93) (.leaf) (.leaf)) (.node (some adl) (.node (some acM) (.leaf) (.leaf)) (.leaf))))))) (.node (none) (.node (some F4) (.node (some F8) (.node (some F16) (.node (some F32) (.node (some F64) (.node (some adi) (.leaf) (.leaf)) (.node (some acK) (.leaf) (.leaf))) (.node (some F96) (.leaf) (.leaf))) (.node (some F48) (.node (some F80) (.node (some ac3) (.leaf) (.leaf)) (.leaf)) (.node (none) (.node (some acP) (.leaf) (.leaf)) (.leaf)))) (.node (some F24) (.node (some F40) (.node (some F72) (.node (some F136) (.leaf) (.leaf)) (.leaf)) (.node (some adB) (.node (some acX) (.leaf) (.leaf)) (.leaf))) (.node (some F56) (.node (some F88) (.leaf) (.leaf)) (.node (some adp) (.leaf) (.leaf))))) (.node (some F12) (.node (some F20) (.node (some F36) (.node (some F68) (.node (some ade) (.leaf) (.leaf)) (.node (some acI) (.leaf) (.leaf))) (.node (some adF) (.node (some ac1) (.leaf) (.leaf)) (.leaf))) (.node (some F52) (.node (some F84) (.leaf) (.leaf)) (.node (some ads) (.leaf) (.leaf)))) (.node (some F28) (.node (some F44) (.node (some F76) (.node (some ac7) (.leaf) (.leaf)) (.leaf)) (.node (some adx) (.node (some acT) (.leaf) (.leaf)) (.leaf))) (.node (some F60) (.node (some F92) (.leaf) (.leaf)) (.node (some adm) (.node (some F188) (.leaf) (.leaf)) (.leaf)))))) (.node (some F6) (.node (some F10) (.node (some F18) (.node (some F34) (.node (some F66) (.node (some adg) (.leaf) (.leaf)) (.leaf)) (.node (some F98) (.leaf) (.leaf))) (.node (some F50) (.node (some F82) (.leaf) (.leaf)) (.node (some adu) (.node (some acN) (.leaf) (.leaf)) (.leaf)))) (.node (some F26) (.node (some F42) (.node (some F74) (.node (some F138) (.leaf) (.leaf)) (.leaf)) (.node (some adz) (.node (some acV) (.leaf) (.leaf)) (.leaf))) (.node (some F58) (.node (some F90) (.leaf) (.leaf)) (.node (some YO) (.leaf) (.leaf))))) (.node (some F14) (.node (some F22) (.node (some F38) (.node (some F70) (.node (some adb) (.leaf) (.leaf)) (.node (some acG) (.leaf) (.leaf))) (.node (some adD) (.node (some acZ) (.leaf) (.leaf)) (.leaf))) (.node (some F54) (.node (some F86) (.leaf) (.leaf)) (.node (some adr) (.leaf) (.leaf)))) (.node (some F30) (.node (some F46) (.node (some F78) (.node (some ac5) (.leaf) (.leaf)) (.leaf)) (.node (some F110) (.node (some acR) (.leaf) (.leaf)) (.leaf))) (.node (some F62) (.node (some F94) (.leaf) (.leaf)) (.node (some adk) (.node (some acL) (.leaf) (.leaf)) (.leaf)))))))
def tabs:List (List Int):=[[-1,1]]
def E0:Env:={fns:=fnT.get,sums:=λf=>if f=31 then some (lW prog 1 31 stC) else none,g0:=1}
theorem g0E:E0.g0=1:=rfl
theorem ba:Wd E0:=by intro f s hs args lo H v H' h;have q:(if f=31 then some (lW prog 1 31 stC) else none)=some s:=hs;split at q;{injection q with q;subst q;exact Fy h};{cases q}
section
variable {lo:Nat}{rd:Option Nat}{fr:Fr}{H:Heap}{Q:A1}{args:List IV}
theorem rZ{c:IC}{l:List (Sg×List IOp)}(h:c=.ops l){lo:Nat}{rd:Option Nat}{fr:Fr}{H:Heap}{Q:A1}:W E0 lo (.code c rd fr) H Q=W E0 lo (.segs l rd fr) H Q:=by subst h;exact aan
def aW(f:Func)(p:Nat){c:(Nat->IC)->(Nat->IC)->IC}(h:∀g k,Z9 f p g k=c g k:=by intro g k;cbv):aA f p=c (dE f) (sg f):=h _ _
def cF(f:Func)(p:Nat){c:(Nat->IC)->(Nat->IC)->IC}(h:∀g k,Z9 f p g k=c g k:=by intro g k;cbv):sg f p=c (dE f) (Fm f):=h _ _
def yv(f:Func)(p:Nat){c:(Nat->IC)->(Nat->IC)->IC}(h:∀g k,Z9 f p g k=c g k:=by intro g k;cbv):Fm f p=c (dE f) (lb3 f):=h _ _
def ru3(f:Func)(p:Nat){c:(Nat->IC)->(Nat->IC)->IC}(h:∀g k,Z9 f p g k=c g k:=by intro g k;cbv):lb3 f p=c (dE f) (λ_=>.skip):=h _ _
theorem afi{P:Program}{o:Array Oper}{d:Bool}(h:oR0 P o d=true):dq P o d=cR0 P o d:=by unfold dq cR0;unfold oR0 at h;cases e:o.toList.mapM (iY P o) with|none=>rfl|some l=>(rw[e] at h;cases d with|false=>rfl|true=>(simp only[Bool.not_true,oH,bX] at h;obtain⟨⟨⟨a,b⟩,c⟩,d⟩:=h;simp[a,b,c,d]))
theorem aht{f:Func}{p:Nat}(h:oP0 f p=true):dE f p=gR0 f p:=by unfold oP0 at h;unfold dE gR0;cases e:f.body with|none=>rfl|some c=>(rw[e] at h;simp only at h ⊢;cases q:pj0 64 p c with|region a o d=>(rw[q] at h;simp only at h ⊢;rw[<-afi h];rfl)|_=>(rw[q] at h;cases h))
def ab(f:Func)(p:Nat){l:List (Sg×List IOp)}(h:gR0 f p=.ops l:=by cbv)(k:oP0 f p=true:=by kernel_rfl)(lo:Nat)(rd:Option Nat)(fr:Fr)(H:Heap)(Q:A1):W E0 lo (.code (dE f p) rd fr) H Q=W E0 lo (.segs l rd fr) H Q:=rZ ((aht k).trans h)
def j_(f:Func)(p:Nat){l:List (Sg×List IOp)}{q:Prop}(zz:q)(h:gR0 f p=.ops l:=by cbv)(k:oP0 f p=true:=by kernel_rfl):=J0 (ab f p h k) zz
abbrev Wc(n:Nat)(f:IFn)(b:IC):Prop:=∀{lo:Nat}{H:Heap}{Q:A1}{args:List IV},W E0 lo (.call n args) H Q=W E0 lo (.code b none ⟨args++dV (f.ntmps - args.length),[]⟩) H (lD lo f.results Q)
def B31:=J0 (@rZ aax _ rfl)<|J0 (@rZ aaw _ rfl)<|J0 (@rZ aav _ rfl)<|J0 (@rZ aau _ rfl)<|J0 (@rZ aat _ rfl)<|J0 (@rZ aas _ rfl)<|J0 (@rZ Wi _ rfl)<|J0 (@rZ Wh _ rfl)<|J0 (@rZ aar _ rfl)<|J0 (@rZ Wm _ rfl)<|J0 (@rZ Wl _ rfl)<|J0 (@rZ Wj _ rfl)<|J0 (@rZ Mv _ rfl)<|J0 (@rZ Gw _ rfl)<|J0 (@rZ Gv _ rfl)<|J0 acE.eq_1 (F31.eq_1)
def YS:=J0 B31<|J0 Wn.eq_1 (Gx.eq_1)
theorem c31{H':Heap}{v:IV}(q:stC args H=some (v,H'))(E:NZ lo H H')(hs:CallSim prog 1 31 args lo H v H')(h:Q (.val v) H'):W E0 lo (.call 31 args) H Q:=afB (s:=lW prog 1 31 stC) rfl (xx q E hs) h
end
end
end Go.Iso.Gen
