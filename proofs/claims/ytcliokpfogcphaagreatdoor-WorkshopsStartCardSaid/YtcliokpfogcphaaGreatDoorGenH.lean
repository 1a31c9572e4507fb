/-
  the code that the claim reaches, for the evaluator.
-/
import Derived.Test.YtcliokpfogcphaaGreatDoorIsoP5
import Derived.Test.YtcliokpfogcphaaGreatDoorIsoP7
import Derived.Test.YtcliokpfogcphaaGreatDoorFnZ
import Derived.Test.YtcliokpfogcphaaGreatDoorProg
import Derived.KernelRfl
set_option linter.unusedSimpArgs false
set_option linter.unusedVariables false
set_option maxRecDepth 100000
set_option maxHeartbeats 4000000
set_option linter.defProp false
namespace Go.Iso.Gen
open Go.Proofs Go.Proofs.Tryz
noncomputable section
def PgT:Program:=⟨Tryz.progTables,#[]⟩
def aiy(b:Bool):Code->Code|.seq a c=>if b then c else a|.cond _ a c=>if b then c else a|.block _ a=>a|.loop a=>a|.scope a=>a|.rangeFunc _ _ a c=>if b then c else a|c=>c
def pj0:Nat->Nat->Code->Code|0,_,c=>c|n+1,p,c=>if p<=1 then c else pj0 n (p / 2) (aiy (p%2==1) c)
def dC(f:Func)(p:Nat):IC:=match f.body with|some c=>(bm PgT (pj0 64 p c)).getD .skip|none=>.skip
def Q7(f:Func)(p:Nat)(c:IC)(_:dC f p=c):IC:=c
def kk0(k:Nat->IC)(p:Nat):IC:=k p
def Zn(g k:Nat->IC):Code->Nat->Nat->IC|.region _ _ _,p,_=>g p|.seq a b,p,w=>.seq (Zn g k a (p+w) (2*w)) (Zn g k b (p+2*w) (2*w))|.cond c a b,p,w=>.cond ((sW c).getD (.tmp 0)) (Zn g k a (p+w) (2*w)) (Zn g k b (p+2*w) (2*w))|.block id c,p,w=>.block id (Zn g k c (p+w) (2*w))|.scope c,p,w=>.scope (Zn g k c (p+w) (2*w))|.loop _,p,w=>.loop (kk0 k (p+w))|.rangeFunc f q a b,p,w=>.rfn ((sW f).getD (.tmp 0)) q.toList (Zn g k a (p+w) (2*w)) (Zn g k b (p+2*w) (2*w))|.exit id,_,_=>.exit id|.ret,_,_=>.ret|_,_,_=>.skip
def wb0:Nat->Nat->Nat->Nat|0,_,w=>w|n+1,p,w=>if p<=1 then w else wb0 n (p/2) (2*w)
def lbg(f:Func)(p:Nat)(g k:Nat->IC):IC:=match f.body with|some c=>Zn g k (pj0 64 p c) p (wb0 64 p 1)|none=>.skip
def cR0(P:Program)(o:Array Oper)(d:Bool):Option (List (Sg×List IOp)):=(o.toList.mapM (lD P o)).map λl=>if d then parts (ju o.toList []) (lW (ju o.toList []) l l 0) 0 [] else [(.seq,l)]
def oR0(P:Program)(o:Array Oper)(d:Bool):Bool:=match o.toList.mapM (lD P o) with|some l=>!d||(Av o&&K3 o.toList 0&&vm (ju o.toList []) (lW (ju o.toList []) l l 0) 0&&qO (ju o.toList []) (lW (ju o.toList []) l l 0) 0)|none=>true
def gR0(f:Func)(p:Nat):IC:=match f.body with|some c=>(match pj0 64 p c with|.region _ o d=>((cR0 PgT o d).map .ops).getD .skip|_=>.skip)|none=>.skip
def oP0(f:Func)(p:Nat):Bool:=match f.body with|some c=>(match pj0 64 p c with|.region _ o d=>oR0 PgT o d|_=>false)|none=>false
def lb3(f:Func)(p:Nat):IC:=lbg f p (dC f) (λ_=>.skip)
def P5(f:Func)(p:Nat):IC:=lbg f p (dC f) (lb3 f)
def Am(f:Func)(p:Nat):IC:=lbg f p (dC f) (P5 f)
def aw(f:Func)(p:Nat):IC:=lbg f p (dC f) (Am f)
theorem J0{a b:Prop}(h:a)(k:b):a/\b:=⟨h,k⟩
def F3:IFn:=⟨146,[(6,none)],(aw f3 1)⟩
def F6:IFn:=⟨33,[(2,none),(3,none)],(aw f6 1)⟩
def F7:IFn:=⟨83,[(2,none)],(aw f7 1)⟩
def F8:IFn:=⟨47,[(4,some (some 8)),(5,none),(6,none)],(aw f8 1)⟩
def F9:IFn:=⟨4,[(0,some (some 8))],(aw f9 1)⟩
def R8:IFn:=⟨66,[(8,none)],(aw f10 1)⟩
def F11:IFn:=⟨51,[(4,none),(5,some (some 4)),(6,none)],(aw f11 1)⟩
def F12:IFn:=⟨17,[(2,some (some 4)),(3,none)],(aw f12 1)⟩
def F13:IFn:=⟨35,[(4,none)],(aw f13 1)⟩
def Bt:IFn:=⟨134,[(0,none)],(aw f14 1)⟩
def F16:IFn:=⟨61,[(4,none)],(aw f16 1)⟩
def F17:IFn:=⟨8,[(4,none)],(aw f17 1)⟩
def F18:IFn:=⟨8,[(4,none)],(aw f18 1)⟩
def Uv:IFn:=⟨73,[(4,none)],(aw f19 1)⟩
def F20:IFn:=⟨76,[(2,none)],(aw f20 1)⟩
def F21:IFn:=⟨32,[(2,none)],(aw f21 1)⟩
def YX:IFn:=⟨62,[(2,none)],(aw f24 1)⟩
def F25:IFn:=⟨76,[(2,none)],(aw f25 1)⟩
def F26:IFn:=⟨56,[(2,none)],(aw f26 1)⟩
def F27:IFn:=⟨3,[(0,none)],(aw f27 1)⟩
def F28:IFn:=⟨20,[(6,none)],(aw f28 1)⟩
def abR:=Q7 f29 2 _ (by cbv)
def abQ:=Q7 f29 5 _ (by cbv)
def abP:=Q7 f29 19 _ (by cbv)
def abO:=Q7 f29 139 _ (by cbv)
def abN:=Q7 f29 1227 _ (by cbv)
def abM:=Q7 f29 1739 _ (by cbv)
def YC:IC:=.seq (abO) (.seq (.cond (.tmp 21) (.skip) (.exit 0)) (.block 1 (.seq (abN) (abM))))
def Yy:=Q7 f29 23 _ (by cbv)
def Yx:=Q7 f29 79 _ (by cbv)
def abL:=Q7 f29 559 _ (by cbv)
def YB:=Q7 f29 9007 _ (by cbv)
def YA:=Q7 f29 13103 _ (by cbv)
def Yz:=Q7 f29 3887 _ (by cbv)
def LB:IC:=.seq (abL) (.seq (.cond (.tmp 42) (.skip) (.exit 2)) (.seq (.block 3 (.seq (YB) (YA))) (Yz)))
def QP:=Q7 f29 95 _ (by cbv)
def LA:IC:=.ops [(.free,[⟨some 60,.move,[.tmp 0],none,false,0,0⟩,⟨some 61,.nilCheck,[.tmp 60],none,false,1,1⟩,⟨some 62,.fieldAddr 4,[.tmp 61],none,false,2,3⟩,⟨some 63,.load none,[.tmp 62],none,false,3,7⟩,⟨some 64,.move,[.tmp 3],none,false,4,0⟩,⟨some 65,.call,[.val (.fn 82 [] []),.tmp 64],none,false,5,16⟩,⟨some 66,.move,[.tmp 0],none,false,6,0⟩,⟨some 67,.nilCheck,[.tmp 66],none,false,7,64⟩,⟨some 68,.fieldAddr 1,[.tmp 67],none,false,8,192⟩,⟨some 69,.load (some 2),[.tmp 68],none,false,9,448⟩,⟨some 70,.move,[.tmp 0],none,false,10,0⟩,⟨some 71,.nilCheck,[.tmp 70],none,false,11,1024⟩,⟨some 72,.fieldAddr 0,[.tmp 71],none,false,12,3072⟩,⟨some 73,.load none,[.tmp 72],none,false,13,7168⟩,⟨some 74,.call,[.val (.fn 63 [] []),.tmp 69,.tmp 73],none,false,14,16368⟩,⟨some 75,.move,[.tmp 0],none,false,15,0⟩,⟨some 76,.nilCheck,[.tmp 75],none,false,16,32768⟩,⟨some 77,.fieldAddr 6,[.tmp 76],none,false,17,98304⟩,⟨some 78,.load none,[.tmp 77],none,false,18,229376⟩,⟨some 79,.call,[.val (.fn 67 [] []),.tmp 78],none,false,19,524272⟩,⟨some 80,.build [.nilSlice,.nilSlice,.nilSlice,.nilSlice] [(0,1),(1,1),(2,1),(3,1)],[.tmp 63,.tmp 65,.tmp 74,.tmp 79],none,false,20,1048575⟩,⟨some 8,.alloc 47 4 [.nilSlice,.nilSlice,.nilSlice,.nilSlice],[],none,false,21,0⟩]),(.seq,[⟨none,.store 4,[.tmp 8,.tmp 80],none,true,22,4194303⟩])]
def Lz:=Q7 f29 383 _ (by cbv)
def ad6:IC:=.seq (abR) (.seq (abQ) (.seq (.seq (abP) (.block 0 (.loop YC))) (.seq (Yy) (.seq (.seq (Yx) (.block 2 (.loop LB))) (.seq (QP) (.seq (LA) (.seq (Lz) (.ret))))))))
def F29:IFn:=⟨95,[(2,some (some 8))],ad6⟩
def F30:IFn:=⟨3,[(0,some (some 4))],(aw f30 1)⟩
def F31:IFn:=⟨11,[(2,none)],(aw f31 1)⟩
def F32:IFn:=⟨16,[(4,none)],(aw f32 1)⟩
def F33:IFn:=⟨25,[(2,none)],(aw f33 1)⟩
def F34:IFn:=⟨8,[(2,none)],(aw f34 1)⟩
def F35:IFn:=⟨22,[],(aw f35 1)⟩
def F36:IFn:=⟨40,[],(aw f36 1)⟩
def F37:IFn:=⟨31,[(4,none)],(aw f37 1)⟩
def F38:IFn:=⟨26,[(4,none)],(aw f38 1)⟩
def F39:IFn:=⟨26,[(4,none)],(aw f39 1)⟩
def F40:IFn:=⟨10,[(5,none)],(aw f40 1)⟩
def F41:IFn:=⟨32,[(6,none)],(aw f41 1)⟩
def F42:IFn:=⟨32,[(6,none)],(aw f42 1)⟩
def F43:IFn:=⟨26,[(4,none)],(aw f43 1)⟩
def F44:IFn:=⟨10,[(0,none)],(aw f44 1)⟩
def F45:IFn:=⟨22,[(6,none)],(aw f45 1)⟩
def F46:IFn:=⟨2,[],(aw f46 1)⟩
def F47:IFn:=⟨27,[],(aw f47 1)⟩
def F48:IFn:=⟨37,[(8,none)],(aw f48 1)⟩
def YW:IFn:=⟨84,[],(aw f49 1)⟩
def F50:IFn:=⟨13,[(2,none)],(aw f50 1)⟩
def LJ:IFn:=⟨99,[(6,none),(7,none)],(aw f51 1)⟩
def F52:IFn:=⟨72,[(2,some (some 87))],(aw f52 1)⟩
def F53:IFn:=⟨9,[(2,none)],(aw f53 1)⟩
def F54:IFn:=⟨46,[(4,some (some 4)),(5,none)],(aw f54 1)⟩
def F57:IFn:=⟨22,[(4,none)],(aw f57 1)⟩
def F58:IFn:=⟨27,[(4,some (some 8)),(5,none)],(aw f58 1)⟩
def F59:IFn:=⟨73,[(4,some (some 6))],(aw f59 1)⟩
def F60:IFn:=⟨84,[(2,some none)],(aw f60 1)⟩
def F61:IFn:=⟨65,[(2,none)],(aw f61 1)⟩
def F62:IFn:=⟨18,[(2,none)],(aw f62 1)⟩
def F63:IFn:=⟨33,[(4,none)],(aw f63 1)⟩
def F64:IFn:=⟨37,[(2,none)],(aw f64 1)⟩
def F65:IFn:=⟨24,[(2,none)],(aw f65 1)⟩
def F66:IFn:=⟨53,[(2,none)],(aw f66 1)⟩
def F67:IFn:=⟨11,[(2,none)],(aw f67 1)⟩
def F68:IFn:=⟨34,[(4,none)],(aw f68 1)⟩
def F69:IFn:=⟨32,[(4,none)],(aw f69 1)⟩
def F70:IFn:=⟨42,[(4,none)],(aw f70 1)⟩
def F71:IFn:=⟨38,[(4,none)],(aw f71 1)⟩
def F72:IFn:=⟨43,[(4,none)],(aw f72 1)⟩
def F73:IFn:=⟨24,[(4,none)],(aw f73 1)⟩
def F74:IFn:=⟨84,[(4,none)],(aw f74 1)⟩
def F75:IFn:=⟨44,[(4,none)],(aw f75 1)⟩
def F76:IFn:=⟨14,[(2,none)],(aw f76 1)⟩
def F78:IFn:=⟨19,[(4,none)],(aw f78 1)⟩
def F79:IFn:=⟨17,[(4,none)],(aw f79 1)⟩
def F80:IFn:=⟨11,[(2,none)],(aw f80 1)⟩
def F82:IFn:=⟨11,[(2,none)],(aw f82 1)⟩
def F83:IFn:=⟨2,[(0,none)],(aw f83 1)⟩
def F84:IFn:=⟨29,[],(aw f84 1)⟩
def F85:IFn:=⟨29,[],(aw f85 1)⟩
def F86:IFn:=⟨21,[],(aw f86 1)⟩
def F87:IFn:=⟨4,[(2,none)],(aw f87 1)⟩
def F88:IFn:=⟨37,[(4,some (some 8)),(5,some (some 8)),(6,none)],(aw f88 1)⟩
def F89:IFn:=⟨37,[(6,none)],(aw f89 1)⟩
def F90:IFn:=⟨4,[(2,none)],(aw f90 1)⟩
def F91:IFn:=⟨21,[(2,none)],(aw f91 1)⟩
def F92:IFn:=⟨15,[(2,none)],(aw f92 1)⟩
def F93:IFn:=⟨14,[(2,none)],(aw f93 1)⟩
def F94:IFn:=⟨11,[(2,none)],(aw f94 1)⟩
def F95:IFn:=⟨28,[(4,none)],(aw f95 1)⟩
def F96:IFn:=⟨11,[(2,none)],(aw f96 1)⟩
def F97:IFn:=⟨62,[(2,none)],(aw f97 1)⟩
def F98:IFn:=⟨113,[(2,none)],(aw f98 1)⟩
def F99:IFn:=⟨31,[(4,none),(5,none)],(aw f99 1)⟩
def ae6:IFn:=⟨11,[(2,none)],(aw f100 1)⟩
def ae5:IFn:=⟨11,[(2,none)],(aw f101 1)⟩
def ae4:IFn:=⟨27,[(4,some (some 5)),(5,none)],(aw f102 1)⟩
def ae3:IFn:=⟨18,[(2,some (some 5)),(3,none)],(aw f103 1)⟩
def Uj:IFn:=⟨92,[(4,none)],(aw f104 1)⟩
def ae2:IFn:=⟨44,[(4,none),(5,none),(6,none)],(aw f105 1)⟩
def ae1:IFn:=⟨58,[(8,none)],(aw f106 1)⟩
def ae0:IFn:=⟨103,[(8,none)],(aw f107 1)⟩
def aeZ:IFn:=⟨28,[(4,none)],(aw f108 1)⟩
def aeY:IFn:=⟨33,[(4,some (some 2)),(5,none)],(aw f109 1)⟩
def aeX:IFn:=⟨25,[(4,none)],(aw f110 1)⟩
def F111:IFn:=⟨68,[(6,some (some 2)),(7,none)],(aw f111 1)⟩
def YD:IFn:=⟨77,[(6,some (some 2)),(7,none)],(aw f112 1)⟩
def aeW:IFn:=⟨84,[(2,none)],(aw f113 1)⟩
def aeV:IFn:=⟨18,[(2,none)],(aw f116 1)⟩
def aeU:IFn:=⟨20,[(4,none)],(aw f117 1)⟩
def aeT:IFn:=⟨20,[(4,none)],(aw f118 1)⟩
def aeS:IFn:=⟨11,[(4,none),(5,none)],(aw f120 1)⟩
def aeR:IFn:=⟨11,[(4,none),(5,none)],(aw f121 1)⟩
def Hu:IFn:=⟨59,[],(aw f122 1)⟩
def aeQ:IFn:=⟨16,[(6,none)],(aw f123 1)⟩
def aeP:IFn:=⟨11,[],(aw f124 1)⟩
def aeO:IFn:=⟨4,[(2,none)],(aw f125 1)⟩
def aeN:IFn:=⟨9,[(2,none)],(aw f126 1)⟩
def aeM:IFn:=⟨32,[(2,none),(3,none)],(aw f127 1)⟩
def aeL:IFn:=⟨33,[(4,none)],(aw f128 1)⟩
def aeK:IFn:=⟨17,[(4,none)],(aw f129 1)⟩
def aeJ:IFn:=⟨18,[],(aw f130 1)⟩
def aeI:IFn:=⟨14,[(4,none)],(aw f131 1)⟩
def Ui:IFn:=⟨39,[],(aw f132 1)⟩
def aeH:IFn:=⟨9,[],(aw f133 1)⟩
def aeG:IFn:=⟨10,[(4,none)],(aw f134 1)⟩
def aeF:IFn:=⟨11,[(2,none)],(aw f135 1)⟩
def F136:IFn:=⟨80,[(8,none),(9,none)],(aw f136 1)⟩
def aeE:IFn:=⟨60,[(6,some (some 5)),(7,none)],(aw f137 1)⟩
def F138:IFn:=⟨82,[(6,none),(7,none)],(aw f138 1)⟩
def aeD:IFn:=⟨51,[(4,none)],(aw f139 1)⟩
def aeC:IFn:=⟨54,[(6,none)],(aw f140 1)⟩
def aeB:IFn:=⟨39,[(2,some (some 5)),(3,some (some 3)),(4,none)],(aw f141 1)⟩
def aeA:IFn:=⟨18,[(2,none)],(aw f142 1)⟩
def aez:IFn:=⟨19,[(2,none)],(aw f143 1)⟩
def aey:IFn:=⟨11,[(2,none)],(aw f144 1)⟩
def aex:IFn:=⟨9,[(2,none)],(aw f145 1)⟩
def aew:IFn:=⟨30,[(6,some (some 2))],(aw f146 1)⟩
def aev:IFn:=⟨11,[(0,none)],(aw f147 1)⟩
def aeu:IFn:=⟨6,[(2,none)],(aw f158 1)⟩
def aet:IFn:=⟨6,[(2,none)],(aw f159 1)⟩
def QQ:IFn:=⟨47,[(6,none),(7,none)],(aw f168 1)⟩
def aer:IFn:=⟨29,[],(aw f169 1)⟩
def aeq:IFn:=⟨35,[(2,none)],(aw f170 1)⟩
def aep:IFn:=⟨43,[(2,none)],(aw f171 1)⟩
def aeo:IFn:=⟨108,[(2,none)],(aw f172 1)⟩
def aen:IFn:=⟨11,[(2,none)],(aw f173 1)⟩
def aem:IFn:=⟨9,[(2,none)],(aw f174 1)⟩
def OF:IFn:=⟨63,[],(aw f175 1)⟩
def ael:IFn:=⟨27,[(6,none)],(aw f176 1)⟩
def aek:IFn:=⟨28,[],(aw f177 1)⟩
def aej:IFn:=⟨11,[(2,none)],(aw f178 1)⟩
def aei:IFn:=⟨39,[(4,none)],(aw f179 1)⟩
def aeh:IFn:=⟨11,[(2,none)],(aw f180 1)⟩
def aeg:IFn:=⟨28,[],(aw f181 1)⟩
def aef:IFn:=⟨28,[],(aw f182 1)⟩
def aee:IFn:=⟨11,[(2,none)],(aw f183 1)⟩
def F184:IFn:=⟨44,[(6,none)],(aw f184 1)⟩
def F193:IFn:=⟨70,[(4,none)],(aw f193 1)⟩
def aed:IFn:=⟨25,[(4,some (some 2))],(aw f194 1)⟩
def Uh:IFn:=⟨53,[],(aw f195 1)⟩
def Bs:IFn:=⟨220,[],(aw f196 1)⟩
def aec:IFn:=⟨11,[(2,none)],(aw f197 1)⟩
def aeb:IFn:=⟨20,[(2,none)],(aw f198 1)⟩
def aea:IFn:=⟨33,[(4,none)],(aw f201 1)⟩
def ad9:IFn:=⟨9,[(2,none)],(aw f202 1)⟩
def ad8:IFn:=⟨58,[],(aw f203 1)⟩
def ad7:IFn:=⟨38,[],(aw f204 1)⟩
def fnT:Tr IFn:=.node (none) (.node (none) (.node (some F3) (.node (some F7) (.node (none) (.node (some F31) (.node (some F63) (.node (some aeM) (.leaf) (.leaf)) (.leaf)) (.node (some F95) (.node (some aet) (.leaf) (.leaf)) (.leaf))) (.node (some F47) (.node (some F79) (.node (some aez) (.leaf) (.leaf)) (.leaf)) (.node (some F111) (.node (some OF) (.leaf) (.leaf)) (.leaf)))) (.node (none) (.node (some F39) (.node (some F71) (.node (some aeF) (.leaf) (.leaf)) (.leaf)) (.node (some ae3) (.leaf) (.leaf))) (.node (none) (.node (some F87) (.leaf) (.leaf)) (.node (none) (.node (some aee) (.leaf) (.leaf)) (.leaf))))) (.node (some F11) (.node (some Uv) (.node (some F35) (.node (some F67) (.node (some aeI) (.leaf) (.leaf)) (.node (some Uh) (.leaf) (.leaf))) (.node (some F99) (.leaf) (.leaf))) (.node (some LJ) (.node (some F83) (.node (some aev) (.leaf) (.leaf)) (.leaf)) (.node (none) (.node (some aei) (.leaf) (.leaf)) (.leaf)))) (.node (some F27) (.node (some F43) (.node (some F75) (.node (some aeD) (.leaf) (.leaf)) (.node (some ad8) (.leaf) (.leaf))) (.node (some ae0) (.node (some aep) (.leaf) (.leaf)) (.leaf))) (.node (some F59) (.node (some F91) (.leaf) (.leaf)) (.node (some aeQ) (.leaf) (.leaf)))))) (.node (none) (.node (some F9) (.node (some F17) (.node (some F33) (.node (some F65) (.node (some aeK) (.leaf) (.leaf)) (.node (some F193) (.leaf) (.leaf))) (.node (some F97) (.leaf) (.leaf))) (.node (some YW) (.node (none) (.node (some aex) (.leaf) (.leaf)) (.leaf)) (.node (some aeW) (.node (some aek) (.leaf) (.leaf)) (.leaf)))) (.node (some F25) (.node (some F41) (.node (some F73) (.node (some aeE) (.leaf) (.leaf)) (.node (some aea) (.leaf) (.leaf))) (.node (some ae2) (.node (some aer) (.leaf) (.leaf)) (.leaf))) (.node (some F57) (.node (some F89) (.leaf) (.leaf)) (.node (some aeR) (.leaf) (.leaf))))) (.node (some F13) (.node (some F21) (.node (some F37) (.node (some F69) (.node (some aeH) (.leaf) (.leaf)) (.node (some aec) (.leaf) (.leaf))) (.node (some ae5) (.leaf) (.leaf))) (.node (some F53) (.node (some F85) (.leaf) (.leaf)) (.node (some aeU) (.node (some aeg) (.leaf) (.leaf)) (.leaf)))) (.node (some F29) (.node (some F45) (.node (none) (.node (some aeB) (.leaf) (.leaf)) (.leaf)) (.node (some aeY) (.node (some aen) (.leaf) (.leaf)) (.leaf))) (.node (some F61) (.node (some F93) (.leaf) (.leaf)) (.node (some aeO) (.leaf) (.leaf))))))) (.node (none) (.node (none) (.node (some F8) (.node (some F16) (.node (some F32) (.node (some F64) (.node (some aeL) (.leaf) (.leaf)) (.leaf)) (.node (some F96) (.leaf) (.leaf))) (.node (some F48) (.node (some F80) (.node (some aey) (.leaf) (.leaf)) (.leaf)) (.node (some YD) (.node (some ael) (.leaf) (.leaf)) (.leaf)))) (.node (some YX) (.node (some F40) (.node (some F72) (.node (some F136) (.leaf) (.leaf)) (.leaf)) (.node (some Uj) (.node (some QQ) (.leaf) (.leaf)) (.leaf))) (.node (none) (.node (some F88) (.leaf) (.leaf)) (.node (some aeS) (.node (some F184) (.leaf) (.leaf)) (.leaf))))) (.node (some F12) (.node (some F20) (.node (some F36) (.node (some F68) (.node (some Ui) (.leaf) (.leaf)) (.node (some Bs) (.leaf) (.leaf))) (.node (some ae6) (.leaf) (.leaf))) (.node (some F52) (.node (some F84) (.leaf) (.leaf)) (.node (some aeV) (.node (some aeh) (.leaf) (.leaf)) (.leaf)))) (.node (some F28) (.node (some F44) (.node (some F76) (.node (some aeC) (.leaf) (.leaf)) (.node (some ad7) (.leaf) (.leaf))) (.node (some aeZ) (.node (some aeo) (.leaf) (.leaf)) (.leaf))) (.node (some F60) (.node (some F92) (.leaf) (.leaf)) (.node (some aeP) (.leaf) (.leaf)))))) (.node (some F6) (.node (some R8) (.node (some F18) (.node (some F34) (.node (some F66) (.node (some aeJ) (.leaf) (.leaf)) (.node (some aed) (.leaf) (.leaf))) (.node (some F98) (.leaf) (.leaf))) (.node (some F50) (.node (some F82) (.node (some aew) (.leaf) (.leaf)) (.leaf)) (.node (none) (.node (some aej) (.leaf) (.leaf)) (.leaf)))) (.node (some F26) (.node (some F42) (.node (some F74) (.node (some F138) (.leaf) (.leaf)) (.node (some ad9) (.leaf) (.leaf))) (.node (some ae1) (.node (some aeq) (.leaf) (.leaf)) (.leaf))) (.node (some F58) (.node (some F90) (.leaf) (.leaf)) (.node (some Hu) (.leaf) (.leaf))))) (.node (some Bt) (.node (none) (.node (some F38) (.node (some F70) (.node (some aeG) (.leaf) (.leaf)) (.node (some aeb) (.leaf) (.leaf))) (.node (some ae4) (.leaf) (.leaf))) (.node (some F54) (.node (some F86) (.leaf) (.leaf)) (.node (some aeT) (.node (some aef) (.leaf) (.leaf)) (.leaf)))) (.node (some F30) (.node (some F46) (.node (some F78) (.node (some aeA) (.leaf) (.leaf)) (.leaf)) (.node (some aeX) (.node (some aem) (.leaf) (.leaf)) (.leaf))) (.node (some F62) (.node (some F94) (.node (some aeu) (.leaf) (.leaf)) (.leaf)) (.node (some aeN) (.leaf) (.leaf)))))))
def tabs:List (List Int):=[[-1,1]]
def E0:Env:={fns:=fnT.get,sums:=λf=>if f=29 then some (oZ prog 1 29 stC) else none,g0:=1}
theorem g0E:E0.g0=1:=rfl
theorem bj:Yt E0:=by intro f s hs args lo H v H' h;have q:(if f=29 then some (oZ prog 1 29 stC) else none)=some s:=hs;split at q;{injection q with q;subst q;exact KV h};{cases q}
section
variable {lo:Nat}{rd:Option Nat}{fr:Fr}{H:Heap}{Q:Ai}{args:List IV}
theorem wu{c:IC}{l:List (Sg×List IOp)}(h:c=.ops l){lo:Nat}{rd:Option Nat}{fr:Fr}{H:Heap}{Q:Ai}:W E0 lo (.code c rd fr) H Q=W E0 lo (.segs l rd fr) H Q:=by subst h;exact abH
def ar(f:Func)(p:Nat){c:(Nat->IC)->(Nat->IC)->IC}(h:∀g k,lbg f p g k=c g k:=by intro g k;cbv):aw f p=c (dC f) (Am f):=h _ _
def bD(f:Func)(p:Nat){c:(Nat->IC)->(Nat->IC)->IC}(h:∀g k,lbg f p g k=c g k:=by intro g k;cbv):Am f p=c (dC f) (P5 f):=h _ _
def Ha(f:Func)(p:Nat){c:(Nat->IC)->(Nat->IC)->IC}(h:∀g k,lbg f p g k=c g k:=by intro g k;cbv):P5 f p=c (dC f) (lb3 f):=h _ _
def VQ(f:Func)(p:Nat){c:(Nat->IC)->(Nat->IC)->IC}(h:∀g k,lbg f p g k=c g k:=by intro g k;cbv):lb3 f p=c (dC f) (λ_=>.skip):=h _ _
theorem agV{P:Program}{o:Array Oper}{d:Bool}(h:oR0 P o d=true):dw P o d=cR0 P o d:=by unfold dw cR0;unfold oR0 at h;cases e:o.toList.mapM (lD P o) with|none=>rfl|some l=>(rw[e] at h;cases d with|false=>rfl|true=>(simp only[Bool.not_true,E2,cg] at h;obtain⟨⟨⟨a,b⟩,c⟩,d⟩:=h;simp[a,b,c,d]))
theorem aiS{f:Func}{p:Nat}(h:oP0 f p=true):dC f p=gR0 f p:=by unfold oP0 at h;unfold dC gR0;cases e:f.body with|none=>rfl|some c=>(rw[e] at h;simp only at h ⊢;cases q:pj0 64 p c with|region a o d=>(rw[q] at h;simp only at h ⊢;rw[<-agV h];rfl)|_=>(rw[q] at h;cases h))
def ab(f:Func)(p:Nat){l:List (Sg×List IOp)}(h:gR0 f p=.ops l:=by cbv)(k:oP0 f p=true:=by kernel_rfl)(lo:Nat)(rd:Option Nat)(fr:Fr)(H:Heap)(Q:Ai):W E0 lo (.code (dC f p) rd fr) H Q=W E0 lo (.segs l rd fr) H Q:=wu ((aiS k).trans h)
def j_(f:Func)(p:Nat){l:List (Sg×List IOp)}{q:Prop}(zz:q)(h:gR0 f p=.ops l:=by cbv)(k:oP0 f p=true:=by kernel_rfl):=J0 (ab f p h k) zz
abbrev Wc(n:Nat)(f:IFn)(b:IC):Prop:=∀{lo:Nat}{H:Heap}{Q:Ai}{args:List IV},W E0 lo (.call n args) H Q=W E0 lo (.code b none ⟨args++dU (f.ntmps - args.length),[]⟩) H (qq lo f.results Q)
def OL:=J0 (@wu abR _ rfl)<|J0 (@wu abQ _ rfl)<|J0 (@wu abP _ rfl)<|J0 (@wu abO _ rfl)<|J0 (@wu abN _ rfl)<|J0 (@wu abM _ rfl)<|J0 (@wu Yy _ rfl)<|J0 (@wu Yx _ rfl)<|J0 (@wu abL _ rfl)<|J0 (@wu YB _ rfl)<|J0 (@wu YA _ rfl)<|J0 (@wu Yz _ rfl)<|J0 (@wu QP _ rfl)<|J0 (@wu LA _ rfl)<|J0 (@wu Lz _ rfl)<|J0 ad6.eq_1 (F29.eq_1)
def aaW:=J0 OL<|J0 YC.eq_1 (LB.eq_1)
theorem c29{H':Heap}{v:IV}(q:stC args H=some (v,H'))(E:Keep lo H H')(hs:CallSim prog 1 29 args lo H v H')(h:Q (.val v) H'):W E0 lo (.call 29 args) H Q:=ahc (s:=oZ prog 1 29 stC) rfl (B0 q E hs) h
end
end
end Go.Iso.Gen
