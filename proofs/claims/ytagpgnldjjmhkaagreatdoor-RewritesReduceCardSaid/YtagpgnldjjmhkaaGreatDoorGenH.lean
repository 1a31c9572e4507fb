/-
  the code that the claim reaches, for the evaluator.
-/
import Derived.Test.YtagpgnldjjmhkaaGreatDoorIsoP5
import Derived.Test.YtagpgnldjjmhkaaGreatDoorIsoP7
import Derived.Test.YtagpgnldjjmhkaaGreatDoorFnZ
import Derived.Test.YtagpgnldjjmhkaaGreatDoorProg
import Derived.KernelRfl
set_option linter.unusedSimpArgs false
set_option linter.unusedVariables false
set_option maxRecDepth 100000
set_option maxHeartbeats 4000000
set_option linter.defProp false
namespace Go.Iso.Gen
open Go.Proofs Go.Proofs.Tryz
noncomputable section
def PgT:Program:=⟨Tryz.progTables,#[]⟩
def aiY(b:Bool):Code->Code|.seq a c=>if b then c else a|.cond _ a c=>if b then c else a|.block _ a=>a|.loop a=>a|.scope a=>a|.rangeFunc _ _ a c=>if b then c else a|c=>c
def pj0:Nat->Nat->Code->Code|0,_,c=>c|n+1,p,c=>if p<=1 then c else pj0 n (p / 2) (aiY (p%2==1) c)
def eG(f:Func)(p:Nat):IC:=match f.body with|some c=>(bg PgT (pj0 64 p c)).getD .skip|none=>.skip
def Rp(f:Func)(p:Nat)(c:IC)(_:eG f p=c):IC:=c
def kk0(k:Nat->IC)(p:Nat):IC:=k p
def Z4(g k:Nat->IC):Code->Nat->Nat->IC|.region _ _ _,p,_=>g p|.seq a b,p,w=>.seq (Z4 g k a (p+w) (2*w)) (Z4 g k b (p+2*w) (2*w))|.cond c a b,p,w=>.cond ((um c).getD (.tmp 0)) (Z4 g k a (p+w) (2*w)) (Z4 g k b (p+2*w) (2*w))|.block id c,p,w=>.block id (Z4 g k c (p+w) (2*w))|.scope c,p,w=>.scope (Z4 g k c (p+w) (2*w))|.loop _,p,w=>.loop (kk0 k (p+w))|.rangeFunc f q a b,p,w=>.rfn ((um f).getD (.tmp 0)) q.toList (Z4 g k a (p+w) (2*w)) (Z4 g k b (p+2*w) (2*w))|.exit id,_,_=>.exit id|.ret,_,_=>.ret|_,_,_=>.skip
def wb0:Nat->Nat->Nat->Nat|0,_,w=>w|n+1,p,w=>if p<=1 then w else wb0 n (p/2) (2*w)
def lbg(f:Func)(p:Nat)(g k:Nat->IC):IC:=match f.body with|some c=>Z4 g k (pj0 64 p c) p (wb0 64 p 1)|none=>.skip
def cR0(P:Program)(o:Array Oper)(d:Bool):Option (List (Sg×List IOp)):=(o.toList.mapM (mI P o)).map λl=>if d then parts (jp o.toList []) (mZ (jp o.toList []) l l 0) 0 [] else [(.seq,l)]
def oR0(P:Program)(o:Array Oper)(d:Bool):Bool:=match o.toList.mapM (mI P o) with|some l=>!d||(Av o&&Lc o.toList 0&&vM (jp o.toList []) (mZ (jp o.toList []) l l 0) 0&&rU (jp o.toList []) (mZ (jp o.toList []) l l 0) 0)|none=>true
def gR0(f:Func)(p:Nat):IC:=match f.body with|some c=>(match pj0 64 p c with|.region _ o d=>((cR0 PgT o d).map .ops).getD .skip|_=>.skip)|none=>.skip
def oP0(f:Func)(p:Nat):Bool:=match f.body with|some c=>(match pj0 64 p c with|.region _ o d=>oR0 PgT o d|_=>false)|none=>false
def lb3(f:Func)(p:Nat):IC:=lbg f p (eG f) (λ_=>.skip)
def Nq(f:Func)(p:Nat):IC:=lbg f p (eG f) (lb3 f)
def xF(f:Func)(p:Nat):IC:=lbg f p (eG f) (Nq f)
def aB(f:Func)(p:Nat):IC:=lbg f p (eG f) (xF f)
theorem J0{a b:Prop}(h:a)(k:b):a/\b:=⟨h,k⟩
def QG(n:Nat):IFn:=(ju prog n).getD ⟨0,[],.skip⟩
def F3:IFn:=⟨121,[(2,none)],(aB f3 1)⟩
def F4:IFn:=⟨86,[(2,none)],(aB f4 1)⟩
def F5:IFn:=⟨70,[(2,none),(3,none),(4,none)],(aB f5 1)⟩
def F6:IFn:=⟨19,[(4,none),(5,none)],(aB f6 1)⟩
def F7:IFn:=⟨55,[(6,none),(7,none)],(aB f7 1)⟩
def F8:IFn:=⟨33,[(4,none)],(aB f8 1)⟩
def F9:IFn:=⟨37,[(4,none)],(aB f9 1)⟩
def F10:IFn:=⟨147,[(0,none)],(aB f10 1)⟩
def ZC:IFn:=⟨62,[(2,none)],(aB f11 1)⟩
def F12:IFn:=⟨47,[(4,some (some 8)),(5,none),(6,none)],(aB f12 1)⟩
def F13:IFn:=⟨4,[(0,some (some 8))],(aB f13 1)⟩
def F14:IFn:=⟨81,[(4,none)],(aB f14 1)⟩
def F15:IFn:=⟨8,[(2,none)],(aB f15 1)⟩
def UM:IFn:=⟨115,[(2,none)],(aB f16 1)⟩
def F17:IFn:=⟨7,[(0,some (some 10))],(aB f17 1)⟩
def F18:IFn:=⟨51,[(8,none),(9,none)],(aB f18 1)⟩
def F19:IFn:=⟨45,[(4,none)],(aB f19 1)⟩
def F20:IFn:=⟨9,[(2,none)],(aB f20 1)⟩
def F21:IFn:=⟨66,[(4,none),(5,none),(6,none)],(aB f21 1)⟩
def F22:IFn:=⟨9,[(2,none)],(aB f22 1)⟩
def F23:IFn:=⟨54,[(4,none),(5,none)],(aB f23 1)⟩
def F24:IFn:=⟨17,[(2,some (some 4)),(3,none)],(aB f24 1)⟩
def F25:IFn:=⟨35,[(4,none)],(aB f25 1)⟩
def F26:IFn:=⟨34,[(2,none)],(aB f26 1)⟩
def F27:IFn:=⟨22,[(4,none)],(aB f27 1)⟩
def F28:IFn:=⟨27,[(4,some (some 8)),(5,none)],(aB f28 1)⟩
def F29:IFn:=⟨73,[(4,some (some 6))],(aB f29 1)⟩
def F30:IFn:=⟨76,[(2,none)],(aB f30 1)⟩
def F31:IFn:=⟨56,[(2,none)],(aB f31 1)⟩
def F32:IFn:=⟨3,[(0,none)],(aB f32 1)⟩
def F33:IFn:=⟨20,[(6,none)],(aB f33 1)⟩
def acD:=Rp f34 2 _ (by cbv)
def acC:=Rp f34 5 _ (by cbv)
def acB:=Rp f34 19 _ (by cbv)
def acA:=Rp f34 139 _ (by cbv)
def acz:=Rp f34 1227 _ (by cbv)
def acy:=Rp f34 1739 _ (by cbv)
def Zj:IC:=.seq (acA) (.seq (.cond (.tmp 21) (.skip) (.exit 0)) (.block 1 (.seq (acz) (acy))))
def Zf:=Rp f34 23 _ (by cbv)
def Ze:=Rp f34 79 _ (by cbv)
def acx:=Rp f34 559 _ (by cbv)
def Zi:=Rp f34 9007 _ (by cbv)
def Zh:=Rp f34 13103 _ (by cbv)
def Zg:=Rp f34 3887 _ (by cbv)
def LJ:IC:=.seq (acx) (.seq (.cond (.tmp 42) (.skip) (.exit 2)) (.seq (.block 3 (.seq (Zi) (Zh))) (Zg)))
def Re:=Rp f34 95 _ (by cbv)
def LI:IC:=.ops [(.free,[⟨some 60,.move,[.tmp 0],none,false,0,0⟩,⟨some 61,.nilCheck,[.tmp 60],none,false,1,1⟩,⟨some 62,.fieldAddr 4,[.tmp 61],none,false,2,3⟩,⟨some 63,.load none,[.tmp 62],none,false,3,7⟩,⟨some 64,.move,[.tmp 3],none,false,4,0⟩,⟨some 65,.call,[.val (.fn 79 [] []),.tmp 64],none,false,5,16⟩,⟨some 66,.move,[.tmp 0],none,false,6,0⟩,⟨some 67,.nilCheck,[.tmp 66],none,false,7,64⟩,⟨some 68,.fieldAddr 1,[.tmp 67],none,false,8,192⟩,⟨some 69,.load (some 2),[.tmp 68],none,false,9,448⟩,⟨some 70,.move,[.tmp 0],none,false,10,0⟩,⟨some 71,.nilCheck,[.tmp 70],none,false,11,1024⟩,⟨some 72,.fieldAddr 0,[.tmp 71],none,false,12,3072⟩,⟨some 73,.load none,[.tmp 72],none,false,13,7168⟩,⟨some 74,.call,[.val (.fn 60 [] []),.tmp 69,.tmp 73],none,false,14,16368⟩,⟨some 75,.move,[.tmp 0],none,false,15,0⟩,⟨some 76,.nilCheck,[.tmp 75],none,false,16,32768⟩,⟨some 77,.fieldAddr 6,[.tmp 76],none,false,17,98304⟩,⟨some 78,.load none,[.tmp 77],none,false,18,229376⟩,⟨some 79,.call,[.val (.fn 64 [] []),.tmp 78],none,false,19,524272⟩,⟨some 80,.build [.nilSlice,.nilSlice,.nilSlice,.nilSlice] [(0,1),(1,1),(2,1),(3,1)],[.tmp 63,.tmp 65,.tmp 74,.tmp 79],none,false,20,1048575⟩,⟨some 8,.alloc 50 4 [.nilSlice,.nilSlice,.nilSlice,.nilSlice],[],none,false,21,0⟩]),(.seq,[⟨none,.store 4,[.tmp 8,.tmp 80],none,true,22,4194303⟩])]
def LH:=Rp f34 383 _ (by cbv)
def aeI:IC:=.seq (acD) (.seq (acC) (.seq (.seq (acB) (.block 0 (.loop Zj))) (.seq (Zf) (.seq (.seq (Ze) (.block 2 (.loop LJ))) (.seq (Re) (.seq (LI) (.seq (LH) (.ret))))))))
def F34:IFn:=⟨95,[(2,some (some 8))],aeI⟩
def F35:IFn:=⟨3,[(0,some (some 4))],(aB f35 1)⟩
def F36:IFn:=⟨25,[(4,none)],(aB f36 1)⟩
def F37:IFn:=⟨33,[(4,some (some 2)),(5,none)],(aB f37 1)⟩
def F38:IFn:=⟨28,[(6,none)],(aB f38 1)⟩
def F39:IFn:=⟨31,[(6,none)],(aB f39 1)⟩
def F40:IFn:=⟨67,[(6,none)],(aB f40 1)⟩
def F41:IFn:=⟨91,[(6,none)],(aB f41 1)⟩
def F42:IFn:=⟨41,[(6,none)],(aB f42 1)⟩
def F43:IFn:=⟨33,[(6,none)],(aB f43 1)⟩
def F44:IFn:=⟨33,[(6,none)],(aB f44 1)⟩
def F45:IFn:=⟨17,[(4,none)],(aB f45 1)⟩
def F46:IFn:=⟨6,[(2,none)],(aB f46 1)⟩
def F47:IFn:=⟨31,[(4,none)],(aB f47 1)⟩
def F48:IFn:=⟨26,[(4,none)],(aB f48 1)⟩
def F49:IFn:=⟨26,[(4,none)],(aB f49 1)⟩
def F50:IFn:=⟨10,[(5,none)],(aB f50 1)⟩
def F51:IFn:=⟨32,[(6,none)],(aB f51 1)⟩
def F52:IFn:=⟨32,[(6,none)],(aB f52 1)⟩
def F53:IFn:=⟨26,[(4,none)],(aB f53 1)⟩
def F54:IFn:=⟨18,[(2,none)],(aB f54 1)⟩
def F55:IFn:=⟨4,[(2,none)],(aB f55 1)⟩
def F56:IFn:=⟨15,[(2,none)],(aB f56 1)⟩
def F57:IFn:=⟨84,[(2,some none)],(aB f57 1)⟩
def F58:IFn:=⟨65,[(2,none)],(aB f58 1)⟩
def F59:IFn:=⟨18,[(2,none)],(aB f59 1)⟩
def F60:IFn:=⟨33,[(4,none)],(aB f60 1)⟩
def F61:IFn:=⟨37,[(2,none)],(aB f61 1)⟩
def F62:IFn:=⟨24,[(2,none)],(aB f62 1)⟩
def F63:IFn:=⟨53,[(2,none)],(aB f63 1)⟩
def F64:IFn:=⟨11,[(2,none)],(aB f64 1)⟩
def F65:IFn:=⟨34,[(4,none)],(aB f65 1)⟩
def F66:IFn:=⟨32,[(4,none)],(aB f66 1)⟩
def F67:IFn:=⟨42,[(4,none)],(aB f67 1)⟩
def F68:IFn:=⟨38,[(4,none)],(aB f68 1)⟩
def F69:IFn:=⟨43,[(4,none)],(aB f69 1)⟩
def F70:IFn:=⟨24,[(4,none)],(aB f70 1)⟩
def F71:IFn:=⟨84,[(4,none)],(aB f71 1)⟩
def F72:IFn:=⟨44,[(4,none)],(aB f72 1)⟩
def F73:IFn:=⟨14,[(2,none)],(aB f73 1)⟩
def F74:IFn:=⟨14,[],(aB f74 1)⟩
def F75:IFn:=⟨19,[(4,none)],(aB f75 1)⟩
def F76:IFn:=⟨17,[(4,none)],(aB f76 1)⟩
def F77:IFn:=⟨11,[(2,none)],(aB f77 1)⟩
def F78:IFn:=⟨14,[],(aB f78 1)⟩
def F79:IFn:=⟨11,[(2,none)],(aB f79 1)⟩
def F80:IFn:=⟨2,[(0,none)],(aB f80 1)⟩
def F81:IFn:=⟨19,[(2,none)],(aB f81 1)⟩
def F82:IFn:=⟨9,[(2,none)],(aB f82 1)⟩
def F83:IFn:=⟨28,[(4,none)],(aB f83 1)⟩
def F84:IFn:=⟨6,[(2,none)],(aB f84 1)⟩
def Jb:IFn:=⟨67,[],(aB f85 1)⟩
def F86:IFn:=⟨59,[(6,none)],(aB f86 1)⟩
def F87:IFn:=⟨4,[(2,none)],(aB f87 1)⟩
def F88:IFn:=⟨21,[(2,none)],(aB f88 1)⟩
def F89:IFn:=⟨15,[(2,none)],(aB f89 1)⟩
def F90:IFn:=⟨14,[(2,none)],(aB f90 1)⟩
def F91:IFn:=⟨11,[(2,none)],(aB f91 1)⟩
def F92:IFn:=⟨28,[(4,none)],(aB f92 1)⟩
def F93:IFn:=⟨11,[(2,none)],(aB f93 1)⟩
def F94:IFn:=⟨62,[(2,none)],(aB f94 1)⟩
def F95:IFn:=⟨113,[(2,none)],(aB f95 1)⟩
def F96:IFn:=⟨31,[(4,none),(5,none)],(aB f96 1)⟩
def F97:IFn:=⟨11,[(2,none)],(aB f97 1)⟩
def F98:IFn:=⟨11,[(2,none)],(aB f98 1)⟩
def F99:IFn:=⟨27,[(4,some (some 5)),(5,none)],(aB f99 1)⟩
def afx:IFn:=⟨18,[(2,some (some 5)),(3,none)],(aB f100 1)⟩
def UP:IFn:=⟨92,[(4,none)],(aB f101 1)⟩
def afw:IFn:=⟨44,[(4,none),(5,none),(6,none)],(aB f102 1)⟩
def afv:IFn:=⟨58,[(8,none)],(aB f103 1)⟩
def afu:IFn:=⟨103,[(8,none)],(aB f104 1)⟩
def aft:IFn:=⟨28,[(4,none)],(aB f105 1)⟩
def F106:IFn:=⟨68,[(6,some (some 2)),(7,none)],(aB f106 1)⟩
def Zk:IFn:=⟨77,[(6,some (some 2)),(7,none)],(aB f107 1)⟩
def afs:IFn:=⟨84,[(2,none)],(aB f108 1)⟩
def afr:IFn:=⟨18,[(2,none)],(aB f111 1)⟩
def afq:IFn:=⟨20,[(4,none)],(aB f112 1)⟩
def afp:IFn:=⟨20,[(4,none)],(aB f113 1)⟩
def afo:IFn:=⟨11,[],(aB f115 1)⟩
def afn:IFn:=⟨4,[(2,none)],(aB f116 1)⟩
def afm:IFn:=⟨9,[(2,none)],(aB f117 1)⟩
def afl:IFn:=⟨32,[(2,none),(3,none)],(aB f118 1)⟩
def afk:IFn:=⟨33,[(4,none)],(aB f119 1)⟩
def afj:IFn:=⟨17,[(4,none)],(aB f120 1)⟩
def afi:IFn:=⟨18,[],(aB f121 1)⟩
def afh:IFn:=⟨14,[(4,none)],(aB f122 1)⟩
def UO:IFn:=⟨39,[],(aB f123 1)⟩
def afg:IFn:=⟨9,[],(aB f124 1)⟩
def aff:IFn:=⟨10,[(4,none)],(aB f125 1)⟩
def afe:IFn:=⟨11,[(2,none)],(aB f126 1)⟩
def F127:IFn:=⟨80,[(8,none),(9,none)],(aB f127 1)⟩
def afd:IFn:=⟨60,[(6,some (some 5)),(7,none)],(aB f128 1)⟩
def F129:IFn:=⟨82,[(6,none),(7,none)],(aB f129 1)⟩
def afc:IFn:=⟨51,[(4,none)],(aB f130 1)⟩
def afb:IFn:=⟨54,[(6,none)],(aB f131 1)⟩
def afa:IFn:=⟨39,[(2,some (some 5)),(3,some (some 3)),(4,none)],(aB f132 1)⟩
def ae9:IFn:=⟨18,[(2,none)],(aB f133 1)⟩
def ae8:IFn:=⟨11,[(2,none)],(aB f134 1)⟩
def ae7:IFn:=⟨30,[(6,some (some 2))],(aB f135 1)⟩
def ae6:IFn:=⟨11,[(0,none)],(aB f136 1)⟩
def ae5:IFn:=⟨6,[(2,none)],(aB f147 1)⟩
def ae4:IFn:=⟨29,[],(aB f156 1)⟩
def ae3:IFn:=⟨35,[(2,none)],(aB f157 1)⟩
def ae2:IFn:=⟨43,[(2,none)],(aB f158 1)⟩
def ae1:IFn:=⟨108,[(2,none)],(aB f159 1)⟩
def ae0:IFn:=⟨11,[(2,none)],(aB f160 1)⟩
def aeZ:IFn:=⟨9,[(2,none)],(aB f161 1)⟩
def OW:IFn:=⟨63,[],(aB f162 1)⟩
def aeY:IFn:=⟨27,[(6,none)],(aB f163 1)⟩
def aeX:IFn:=⟨28,[],(aB f164 1)⟩
def aeW:IFn:=⟨11,[(2,none)],(aB f165 1)⟩
def aeV:IFn:=⟨39,[(4,none)],(aB f166 1)⟩
def aeU:IFn:=⟨11,[(2,none)],(aB f167 1)⟩
def aeT:IFn:=⟨28,[],(aB f168 1)⟩
def aeS:IFn:=⟨28,[],(aB f169 1)⟩
def aeR:IFn:=⟨11,[(2,none)],(aB f170 1)⟩
def F171:IFn:=⟨44,[(6,none)],(aB f171 1)⟩
def F180:IFn:=⟨70,[(4,none)],(aB f180 1)⟩
def aeQ:IFn:=⟨25,[(4,some (some 2))],(aB f181 1)⟩
def UL:IFn:=⟨53,[],(aB f182 1)⟩
def BB:IFn:=⟨220,[],(aB f183 1)⟩
def aeP:IFn:=⟨11,[(2,none)],(aB f184 1)⟩
def aeO:IFn:=⟨20,[(2,none)],(aB f185 1)⟩
def aeN:IFn:=⟨33,[(4,none)],(aB f188 1)⟩
def aeM:IFn:=⟨9,[(2,none)],(aB f189 1)⟩
def aeL:IFn:=⟨58,[],(aB f190 1)⟩
def aeK:IFn:=⟨38,[],(aB f191 1)⟩
def fnT:Tr IFn:=.node (none) (.node (none) (.node (some F3) (.node (some F7) (.node (some F15) (.node (some F31) (.node (some F63) (.node (some F127) (.leaf) (.leaf)) (.node (some aeK) (.leaf) (.leaf))) (.node (some F95) (.node (some ae1) (.leaf) (.leaf)) (.leaf))) (.node (some F47) (.node (some F79) (.node (some (QG 143)) (.leaf) (.leaf)) (.leaf)) (.node (some afr) (.node (some (QG 175)) (.leaf) (.leaf)) (.leaf)))) (.node (some F23) (.node (some F39) (.node (some F71) (.node (some ae7) (.leaf) (.leaf)) (.leaf)) (.node (some afv) (.node (some aeU) (.leaf) (.leaf)) (.leaf))) (.node (some F55) (.node (some F87) (.node (some (QG 151)) (.leaf) (.leaf)) (.leaf)) (.node (some afk) (.node (some BB) (.leaf) (.leaf)) (.leaf))))) (.node (some ZC) (.node (some F19) (.node (some F35) (.node (some F67) (.node (some afb) (.leaf) (.leaf)) (.leaf)) (.node (some F99) (.node (some aeY) (.leaf) (.leaf)) (.leaf))) (.node (some F51) (.node (some F83) (.node (some ae5) (.leaf) (.leaf)) (.leaf)) (.node (some afo) (.node (some (QG 179)) (.leaf) (.leaf)) (.leaf)))) (.node (some F27) (.node (some F43) (.node (some F75) (.node (some (QG 139)) (.leaf) (.leaf)) (.leaf)) (.node (some Zk) (.node (some F171) (.leaf) (.leaf)) (.leaf))) (.node (some F59) (.node (some F91) (.node (some (QG 155)) (.leaf) (.leaf)) (.leaf)) (.node (some UO) (.node (some (QG 187)) (.leaf) (.leaf)) (.leaf)))))) (.node (some F5) (.node (some F9) (.node (some F17) (.node (some F33) (.node (some F65) (.node (some F129) (.leaf) (.leaf)) (.leaf)) (.node (some F97) (.node (some aeZ) (.leaf) (.leaf)) (.leaf))) (.node (some F49) (.node (some F81) (.node (none) (.leaf) (.leaf)) (.leaf)) (.node (some afp) (.node (some (QG 177)) (.leaf) (.leaf)) (.leaf)))) (.node (some F25) (.node (some F41) (.node (some F73) (.node (some (QG 137)) (.leaf) (.leaf)) (.leaf)) (.node (some aft) (.node (some aeS) (.leaf) (.leaf)) (.leaf))) (.node (some F57) (.node (some F89) (.node (some (QG 153)) (.leaf) (.leaf)) (.leaf)) (.node (some afi) (.node (some aeO) (.leaf) (.leaf)) (.leaf))))) (.node (some F13) (.node (some F21) (.node (some F37) (.node (some F69) (.node (some ae9) (.leaf) (.leaf)) (.leaf)) (.node (some UP) (.node (some aeW) (.leaf) (.leaf)) (.leaf))) (.node (some F53) (.node (some Jb) (.node (some (QG 149)) (.leaf) (.leaf)) (.leaf)) (.node (some afm) (.node (some aeQ) (.leaf) (.leaf)) (.leaf)))) (.node (some F29) (.node (some F45) (.node (some F77) (.node (some (QG 141)) (.leaf) (.leaf)) (.leaf)) (.node (some (QG 109)) (.node (some (QG 173)) (.leaf) (.leaf)) (.leaf))) (.node (some F61) (.node (some F93) (.node (some ae3) (.leaf) (.leaf)) (.leaf)) (.node (some aff) (.node (some aeM) (.leaf) (.leaf)) (.leaf))))))) (.node (none) (.node (some F4) (.node (some F8) (.node (some UM) (.node (some F32) (.node (some F64) (.node (some afd) (.leaf) (.leaf)) (.leaf)) (.node (some F96) (.node (some ae0) (.leaf) (.leaf)) (.leaf))) (.node (some F48) (.node (some F80) (.node (some (QG 144)) (.leaf) (.leaf)) (.leaf)) (.node (some afq) (.node (some (QG 176)) (.leaf) (.leaf)) (.leaf)))) (.node (some F24) (.node (some F40) (.node (some F72) (.node (some ae6) (.leaf) (.leaf)) (.leaf)) (.node (some afu) (.node (some aeT) (.leaf) (.leaf)) (.leaf))) (.node (some F56) (.node (some F88) (.node (some (QG 152)) (.leaf) (.leaf)) (.leaf)) (.node (some afj) (.node (some aeP) (.leaf) (.leaf)) (.leaf))))) (.node (some F12) (.node (some F20) (.node (some F36) (.node (some F68) (.node (some afa) (.leaf) (.leaf)) (.leaf)) (.node (some afx) (.node (some aeX) (.leaf) (.leaf)) (.leaf))) (.node (some F52) (.node (some F84) (.node (some (QG 148)) (.leaf) (.leaf)) (.leaf)) (.node (some afn) (.node (some F180) (.leaf) (.leaf)) (.leaf)))) (.node (some F28) (.node (some F44) (.node (some F76) (.node (some (QG 140)) (.leaf) (.leaf)) (.leaf)) (.node (some afs) (.node (some (QG 172)) (.leaf) (.leaf)) (.leaf))) (.node (some F60) (.node (some F92) (.node (some ae4) (.leaf) (.leaf)) (.leaf)) (.node (some afg) (.node (some aeN) (.leaf) (.leaf)) (.leaf)))))) (.node (some F6) (.node (some F10) (.node (some F18) (.node (some F34) (.node (some F66) (.node (some afc) (.leaf) (.leaf)) (.leaf)) (.node (some F98) (.node (some OW) (.leaf) (.leaf)) (.leaf))) (.node (some F50) (.node (some F82) (.node (none) (.leaf) (.leaf)) (.leaf)) (.node (some (QG 114)) (.node (some (QG 178)) (.leaf) (.leaf)) (.leaf)))) (.node (some F26) (.node (some F42) (.node (some F74) (.node (some (QG 138)) (.leaf) (.leaf)) (.leaf)) (.node (some F106) (.node (some aeR) (.leaf) (.leaf)) (.leaf))) (.node (some F58) (.node (some F90) (.node (some (QG 154)) (.leaf) (.leaf)) (.leaf)) (.node (some afh) (.node (some (QG 186)) (.leaf) (.leaf)) (.leaf))))) (.node (some F14) (.node (some F22) (.node (some F38) (.node (some F70) (.node (some ae8) (.leaf) (.leaf)) (.leaf)) (.node (some afw) (.node (some aeV) (.leaf) (.leaf)) (.leaf))) (.node (some F54) (.node (some F86) (.node (some (QG 150)) (.leaf) (.leaf)) (.leaf)) (.node (some afl) (.node (some UL) (.leaf) (.leaf)) (.leaf)))) (.node (some F30) (.node (some F46) (.node (some F78) (.node (some (QG 142)) (.leaf) (.leaf)) (.leaf)) (.node (some (QG 110)) (.node (some (QG 174)) (.leaf) (.leaf)) (.leaf))) (.node (some F62) (.node (some F94) (.node (some ae2) (.leaf) (.leaf)) (.leaf)) (.node (some afe) (.node (some aeL) (.leaf) (.leaf)) (.leaf)))))))
def tabs:List (List Int):=[[-1,1]]
def E0:Env:={fns:=fnT.get,sums:=λf=>if f=34 then some (qi prog 1 34 stC) else none,g0:=1}
theorem g0E:E0.g0=1:=rfl
theorem be:Za E0:=by intro f s hs args lo H v H' h;have q:(if f=34 then some (qi prog 1 34 stC) else none)=some s:=hs;split at q;{injection q with q;subst q;exact KX h};{cases q}
section
variable {lo:Nat}{rd:Option Nat}{fr:Fr}{H:Heap}{Q:Aj}{args:List IV}
theorem wR{c:IC}{l:List (Sg×List IOp)}(h:c=.ops l){lo:Nat}{rd:Option Nat}{fr:Fr}{H:Heap}{Q:Aj}:W E0 lo (.code c rd fr) H Q=W E0 lo (.segs l rd fr) H Q:=by subst h;exact acu
def aC(f:Func)(p:Nat){c:(Nat->IC)->(Nat->IC)->IC}(h:∀g k,lbg f p g k=c g k:=by intro g k;cbv):aB f p=c (eG f) (xF f):=h _ _
def aZ(f:Func)(p:Nat){c:(Nat->IC)->(Nat->IC)->IC}(h:∀g k,lbg f p g k=c g k:=by intro g k;cbv):xF f p=c (eG f) (Nq f):=h _ _
def HQ(f:Func)(p:Nat){c:(Nat->IC)->(Nat->IC)->IC}(h:∀g k,lbg f p g k=c g k:=by intro g k;cbv):Nq f p=c (eG f) (lb3 f):=h _ _
def WE(f:Func)(p:Nat){c:(Nat->IC)->(Nat->IC)->IC}(h:∀g k,lbg f p g k=c g k:=by intro g k;cbv):lb3 f p=c (eG f) (λ_=>.skip):=h _ _
theorem ahf{P:Program}{o:Array Oper}{d:Bool}(h:oR0 P o d=true):dm P o d=cR0 P o d:=by unfold dm cR0;unfold oR0 at h;cases e:o.toList.mapM (mI P o) with|none=>rfl|some l=>(rw[e] at h;cases d with|false=>rfl|true=>(simp only[Bool.not_true,uT,bV] at h;obtain⟨⟨⟨a,b⟩,c⟩,d⟩:=h;simp[a,b,c,d]))
theorem ajk{f:Func}{p:Nat}(h:oP0 f p=true):eG f p=gR0 f p:=by unfold oP0 at h;unfold eG gR0;cases e:f.body with|none=>rfl|some c=>(rw[e] at h;simp only at h ⊢;cases q:pj0 64 p c with|region a o d=>(rw[q] at h;simp only at h ⊢;rw[<-ahf h];rfl)|_=>(rw[q] at h;cases h))
def ab(f:Func)(p:Nat){l:List (Sg×List IOp)}(h:gR0 f p=.ops l:=by cbv)(k:oP0 f p=true:=by kernel_rfl)(lo:Nat)(rd:Option Nat)(fr:Fr)(H:Heap)(Q:Aj):W E0 lo (.code (eG f p) rd fr) H Q=W E0 lo (.segs l rd fr) H Q:=wR ((ajk k).trans h)
def j_(f:Func)(p:Nat){l:List (Sg×List IOp)}{q:Prop}(zz:q)(h:gR0 f p=.ops l:=by cbv)(k:oP0 f p=true:=by kernel_rfl):=J0 (ab f p h k) zz
abbrev Wc(n:Nat)(f:IFn)(b:IC):Prop:=∀{lo:Nat}{H:Heap}{Q:Aj}{args:List IV},W E0 lo (.call n args) H Q=W E0 lo (.code b none ⟨args++dZ (f.ntmps - args.length),[]⟩) H (re lo f.results Q)
def O2:=J0 (@wR acD _ rfl)<|J0 (@wR acC _ rfl)<|J0 (@wR acB _ rfl)<|J0 (@wR acA _ rfl)<|J0 (@wR acz _ rfl)<|J0 (@wR acy _ rfl)<|J0 (@wR Zf _ rfl)<|J0 (@wR Ze _ rfl)<|J0 (@wR acx _ rfl)<|J0 (@wR Zi _ rfl)<|J0 (@wR Zh _ rfl)<|J0 (@wR Zg _ rfl)<|J0 (@wR Re _ rfl)<|J0 (@wR LI _ rfl)<|J0 (@wR LH _ rfl)<|J0 aeI.eq_1 (F34.eq_1)
def abI:=J0 O2<|J0 Zj.eq_1 (LJ.eq_1)
theorem c34{H':Heap}{v:IV}(q:stC args H=some (v,H'))(A:Keep lo H H')(hs:CallSim prog 1 34 args lo H v H')(h:Q (.val v) H'):W E0 lo (.call 34 args) H Q:=ahx (s:=qi prog 1 34 stC) rfl (B1 q A hs) h
end
end
end Go.Iso.Gen
