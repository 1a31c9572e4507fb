/-
  the code that the claim reaches, for the evaluator.
-/
import Derived.Test.YtiofebdpgbojmaaGreatDoorGenH
set_option linter.unusedSimpArgs false
set_option linter.unusedVariables false
set_option maxRecDepth 100000
set_option maxHeartbeats 4000000
set_option linter.defProp false
namespace Go.Iso.Gen
open Go.Proofs Go.Proofs.Tryz
noncomputable section
section
variable {lo:Nat}{rd:Option Nat}{fr:Fr}{H:Heap}{Q:Ah}{args:List IV}
def mS:=ab f17 2
def mR:=ab f17 9
def mQ:=ab f17 21
def mO:=ab f17 77
def mN:=ab f17 11
def mM:=ab f17 23
def mL:=ab f17 47
def mK:=ab f17 159
def mJ:=ab f17 1119
def mI:=ab f17 18015
def jE:=ab f17 42591
def jD:=ab f17 157279
def jC:=ab f17 353887
def jB:=ab f17 747103
def kX:=lQ f17 2582111 [(.seq,[⟨some 50,.move,[.tmp 9],none,true,0,0⟩,⟨some 51,.fieldAddr 4,[.tmp 11],none,true,0,0⟩,⟨some 52,.load none,[.tmp 51],none,true,0,0⟩,⟨some 53,.lookup 102 (false,[.int]) (.int .i64 0) true,[.tmp 50,.tmp 52],none,true,0,0⟩,⟨some 49,.move,[.tmp 53],none,true,0,0⟩,⟨some 54,.extract 0,[.tmp 49],none,true,0,0⟩,⟨some 55,.extract 1,[.tmp 49],none,true,0,0⟩,⟨some 12,.move,[.tmp 54],none,true,0,0⟩,⟨some 13,.move,[.tmp 55],none,true,0,0⟩])] (by kernel_rfl)
def jA:=ab f17 5727839
def jz:=ab f17 20407903
def kW:=lQ f17 28796511 [(.seq,[⟨some 68,.move,[.tmp 9],none,true,0,0⟩,⟨some 69,.fieldAddr 4,[.tmp 11],none,true,0,0⟩,⟨some 70,.load none,[.tmp 69],none,true,0,0⟩,⟨none,.delete (false,[.int]),[.tmp 68,.tmp 70],none,true,0,0⟩])] (by kernel_rfl)
def jy:=ab f17 5203551
def jx:=ab f17 15689311
def jw:=ab f17 10446431
def jv:=ab f17 23029343
def mP:=lQ f17 81749599 [(.seq,[⟨some 84,.move,[.tmp 9],none,true,0,0⟩,⟨some 85,.fieldAddr 4,[.tmp 11],none,true,0,0⟩,⟨some 86,.load none,[.tmp 85],none,true,0,0⟩,⟨some 87,.lookup 102 (false,[.int]) (.int .i64 0) true,[.tmp 84,.tmp 86],none,true,0,0⟩,⟨some 83,.move,[.tmp 87],none,true,0,0⟩,⟨some 88,.extract 0,[.tmp 83],none,true,0,0⟩,⟨some 89,.extract 1,[.tmp 83],none,true,0,0⟩,⟨some 16,.move,[.tmp 88],none,true,0,0⟩,⟨some 17,.move,[.tmp 89],none,true,0,0⟩])] (by kernel_rfl)
def ju:=ab f17 182412895
def kV:=ab f17 383739487
def jt:=ab f17 517957215
def pU:=ab f17 98526815
def js:=lQ f17 132081247 [(.seq,[⟨some 119,.move,[.tmp 9],none,true,0,0⟩,⟨some 120,.fieldAddr 4,[.tmp 11],none,true,0,0⟩,⟨some 121,.load none,[.tmp 120],none,true,0,0⟩,⟨some 122,.move,[.tmp 15],none,true,0,0⟩,⟨none,.mapUpd (false,[.int]),[.tmp 119,.tmp 121,.tmp 122],none,true,0,0⟩])] (by kernel_rfl)
def jr:=ab f17 7775
def jq:=ab f17 191
def CE:=ab f215 2
def CD:=ab f215 5
def CC:=ab f215 11
def CA:=ab f215 39
def Kv:=ab f215 87
def B11:=j_ f11 2<|j_ f11 5<|J0 (bm f11 1) (F11.eq_1)
def ZT:=J0 @mS<|J0 @mR<|J0 @mQ<|J0 @mO<|J0 @mN<|J0 @mM<|J0 @mL<|J0 @mK<|J0 @mJ<|J0 @mI<|J0 @jE<|J0 @jD<|J0 @jC<|J0 @jB<|J0 @kX<|J0 @jA<|J0 @jz<|J0 @kW<|J0 @jy<|J0 @jx<|J0 @jw<|J0 @jv<|J0 @mP<|J0 @ju<|J0 @kV<|J0 @jt<|J0 @pU<|J0 @js<|J0 @jr<|J0 @jq<|J0 (bm f17 1) (R3.eq_1)
def Ie:=J0 ZT ((cZ f17 607))
def B26:=j_ f26 2<|j_ f26 5<|j_ f26 11<|j_ f26 39<|j_ f26 151<|j_ f26 79<|j_ f26 1071<|j_ f26 4399<|j_ f26 10543<|j_ f26 1839<|j_ f26 159<|j_ f26 2143<|j_ f26 8799<|j_ f26 21087<|j_ f26 3679<|j_ f26 319<|j_ f26 4287<|j_ f26 17599<|j_ f26 42175<|j_ f26 7359<|j_ f26 383<|J0 (bm f26 1) (F26.eq_1)
def EK:=J0 B26<|J0 (cZ f26 303)<|J0 (cZ f26 607) ((cZ f26 1215))
def B36:=j_ f36 2<|j_ f36 5<|J0 (bm f36 1) (F36.eq_1)
def B45:=j_ f45 2<|j_ f45 9<|j_ f45 37<|j_ f45 19<|j_ f45 75<|j_ f45 23<|J0 (bm f45 1) (F45.eq_1)
def B47:=j_ f47 2<|j_ f47 5<|J0 (bm f47 1) (F47.eq_1)
def B48:=j_ f48 2<|j_ f48 9<|j_ f48 32773<|j_ f48 73733<|j_ f48 155653<|j_ f48 319493<|j_ f48 385029<|j_ f48 2309<|j_ f48 581<|j_ f48 149<|j_ f48 11<|J0 (bm f48 1) (F48.eq_1)
def B58:=j_ f58 2<|j_ f58 5<|J0 (bm f58 1) (F58.eq_1)
def B67:=j_ f67 2<|j_ f67 5<|j_ f67 19<|j_ f67 75<|j_ f67 107<|j_ f67 23<|J0 (bm f67 1) (F67.eq_1)
def B75:=j_ f75 2<|j_ f75 9<|j_ f75 21<|j_ f75 77<|j_ f75 19<|j_ f75 43<|j_ f75 155<|j_ f75 23<|J0 (bm f75 1) (F75.eq_1)
def B77:=j_ f77 2<|j_ f77 5<|j_ f77 11<|j_ f77 39<|j_ f77 279<|j_ f77 4503<|j_ f77 6551<|j_ f77 1943<|j_ f77 47<|J0 (bm f77 1) (F77.eq_1)
def abz:=J0 B77 ((cZ f77 151))
def B79:=j_ f79 2<|j_ f79 5<|j_ f79 19<|j_ f79 139<|j_ f79 2251<|j_ f79 3275<|j_ f79 971<|j_ f79 23<|J0 (bm f79 1) (F79.eq_1)
def Zv:=J0 B79 ((cZ f79 75))
def B82:=j_ f82 2<|j_ f82 9<|j_ f82 37<|j_ f82 19<|j_ f82 75<|j_ f82 23<|J0 (bm f82 1) (F82.eq_1)
def B85:=j_ f85 2<|j_ f85 65<|j_ f85 145<|j_ f85 593<|j_ f85 1361<|j_ f85 1233<|j_ f85 2769<|j_ f85 9937<|j_ f85 977<|j_ f85 11<|J0 (bm f85 1) (F85.eq_1)
def Kf:=J0 B85 ((cZ f85 17))
def UX:=j_ f89 2<|j_ f89 9<|j_ f89 37<|j_ f89 11<|j_ f89 39<|j_ f89 151<|j_ f89 47<|j_ f89 159<|j_ f89 1119<|j_ f89 18015<|j_ f89 42591<|j_ f89 157279<|j_ f89 7775<|j_ f89 191<|j_ f89 639<|j_ f89 1407<|j_ f89 767<|J0 (bm f89 1) (F89.eq_1)
def US:=J0 UX ((cZ f89 607))
def U1:=j_ f122 2<|j_ f122 5<|J0 (bm f122 1) (Za.eq_1)
def Sj:=j_ f123 2<|j_ f123 5<|J0 (bm f123 1) (Y9.eq_1)
def af7:=j_ f124 2<|j_ f124 5<|J0 (bm f124 1) (Y8.eq_1)
def af6:=j_ f126 2<|j_ f126 5<|J0 (bm f126 1) (Y6.eq_1)
def af5:=j_ f127 2<|j_ f127 5<|J0 (bm f127 1) (Y5.eq_1)
def ab0:=j_ f130 2<|j_ f130 9<|j_ f130 69<|j_ f130 1125<|j_ f130 4709<|j_ f130 19045<|j_ f130 9829<|j_ f130 38501<|j_ f130 11877<|j_ f130 40549<|j_ f130 485<|j_ f130 11<|J0 (bm f130 1) (Y2.eq_1)
def Ig:=J0 ab0 ((cZ f130 37))
def ZJ:=j_ f137 2<|j_ f137 9<|j_ f137 21<|j_ f137 77<|j_ f137 19<|j_ f137 75<|j_ f137 23<|J0 (bm f137 1) (YV.eq_1)
def UZ:=j_ f140 2<|j_ f140 5<|j_ f140 19<|j_ f140 75<|j_ f140 23<|j_ f140 47<|j_ f140 159<|j_ f140 351<|j_ f140 191<|J0 (bm f140 1) (YS.eq_1)
def abY:=j_ f147 2<|j_ f147 5<|j_ f147 19<|j_ f147 139<|j_ f147 2251<|j_ f147 5323<|j_ f147 19659<|j_ f147 971<|j_ f147 23<|J0 (bm f147 1) (YO.eq_1)
def If:=J0 abY ((cZ f147 75))
def N5:=j_ f149 2<|j_ f149 5<|j_ f149 11<|j_ f149 39<|j_ f149 279<|j_ f149 1175<|j_ f149 343<|j_ f149 79<|j_ f149 303<|j_ f149 159<|j_ f149 607<|j_ f149 319<|j_ f149 1215<|j_ f149 383<|J0 (bm f149 1) (YM.eq_1)
def afZ:=j_ f166 1<|J0 (bm f166 1) (YC.eq_1)
def afY:=j_ f167 2<|j_ f167 5<|J0 (bm f167 1) (YB.eq_1)
def afX:=j_ f168 2<|j_ f168 5<|j_ f168 11<|j_ f168 23<|J0 (bm f168 1) (YA.eq_1)
def Ii:=j_ f171 2<|j_ f171 9<|j_ f171 21<|j_ f171 77<|j_ f171 19<|j_ f171 75<|j_ f171 39<|j_ f171 279<|j_ f171 4503<|j_ f171 10647<|j_ f171 39319<|j_ f171 1943<|j_ f171 79<|j_ f171 303<|j_ f171 95<|j_ f171 191<|j_ f171 639<|j_ f171 2431<|j_ f171 767<|j_ f171 1535<|j_ f171 3071<|J0 (bm f171 1) (Yy.eq_1)
def LN:=J0 Ii ((cZ f171 151))
def Sh:=j_ f175 2<|j_ f175 9<|j_ f175 21<|j_ f175 77<|j_ f175 19<|j_ f175 75<|j_ f175 39<|j_ f175 151<|j_ f175 47<|j_ f175 95<|J0 (bm f175 1) (Yu.eq_1)
def ZG:=j_ f200 2<|j_ f200 5<|j_ f200 35<|j_ f200 51<|j_ f200 75<|j_ f200 555<|j_ f200 9003<|j_ f200 37675<|j_ f200 45867<|j_ f200 3883<|J0 (bm f200 1) (Yp.eq_1)
def LK:=J0 ZG ((cZ f200 299))
def afT:=j_ f204 2<|j_ f204 5<|j_ f204 11<|j_ f204 23<|J0 (bm f204 1) (Yk.eq_1)
def afS:=j_ f205 2<|j_ f205 5<|J0 (bm f205 1) (Yj.eq_1)
def EM:=j_ f207 2<|j_ f207 9<|j_ f207 21<|j_ f207 77<|j_ f207 19<|j_ f207 75<|j_ f207 39<|j_ f207 151<|j_ f207 47<|J0 (bm f207 1) (Yh.eq_1)
def afR:=j_ f209 2<|j_ f209 5<|j_ f209 11<|j_ f209 23<|J0 (bm f209 1) (Yf.eq_1)
def ZB:=j_ f212 2<|j_ f212 33<|j_ f212 73<|j_ f212 57<|J0 (bm f212 1) (Yc.eq_1)
def Sa:=J0 ZB ((cZ f212 9))
def afP:=j_ f214 2<|j_ f214 5<|j_ f214 11<|j_ f214 23<|J0 (bm f214 1) (Ya.eq_1)
def UY:=J0 @CE<|J0 @CD<|J0 @CC<|J0 @CA<|J0 @Kv<|j_ f215 47<|j_ f215 159<|j_ f215 1119<|j_ f215 18015<|j_ f215 26207<|j_ f215 7775<|j_ f215 191<|J0 (bm f215 1) (F215.eq_1)
def R8:=J0 UY ((cZ f215 607))
def abJ:=j_ f230 2<|j_ f230 5<|j_ f230 131<|j_ f230 163<|j_ f230 23<|J0 (bm f230 1) (X6.eq_1)
def R6:=J0 abJ ((cZ f230 35))
theorem c11:Wc 11 F11 (aC f11 1):=am rfl rfl
theorem c17:Wc 17 R3 (aC f17 1):=am rfl rfl
theorem c26:Wc 26 F26 (aC f26 1):=am rfl rfl
theorem c36:Wc 36 F36 (aC f36 1):=am rfl rfl
theorem c45:Wc 45 F45 (aC f45 1):=am rfl rfl
theorem c47:Wc 47 F47 (aC f47 1):=am rfl rfl
theorem c48:Wc 48 F48 (aC f48 1):=am rfl rfl
theorem c58:Wc 58 F58 (aC f58 1):=am rfl rfl
theorem c67:Wc 67 F67 (aC f67 1):=am rfl rfl
theorem c75:Wc 75 F75 (aC f75 1):=am rfl rfl
theorem c77:Wc 77 F77 (aC f77 1):=am rfl rfl
theorem c79:Wc 79 F79 (aC f79 1):=am rfl rfl
theorem c82:Wc 82 F82 (aC f82 1):=am rfl rfl
theorem c85:Wc 85 F85 (aC f85 1):=am rfl rfl
theorem c89:Wc 89 F89 (aC f89 1):=am rfl rfl
theorem UC:Wc 122 Za (aC f122 1):=am rfl rfl
theorem Ry:Wc 123 Y9 (aC f123 1):=am rfl rfl
theorem aeB:Wc 124 Y8 (aC f124 1):=am rfl rfl
theorem aez:Wc 126 Y6 (aC f126 1):=am rfl rfl
theorem aey:Wc 127 Y5 (aC f127 1):=am rfl rfl
theorem aev:Wc 130 Y2 (aC f130 1):=am rfl rfl
theorem aeo:Wc 137 YV (aC f137 1):=am rfl rfl
theorem ael:Wc 140 YS (aC f140 1):=am rfl rfl
theorem aeg:Wc 147 YO (aC f147 1):=am rfl rfl
theorem abf:Wc 149 YM (aC f149 1):=am rfl rfl
theorem ad8:Wc 166 YC (aC f166 1):=am rfl rfl
theorem ad7:Wc 167 YB (aC f167 1):=am rfl rfl
theorem ad6:Wc 168 YA (aC f168 1):=am rfl rfl
theorem ad3:Wc 171 Yy (aC f171 1):=am rfl rfl
theorem adZ:Wc 175 Yu (aC f175 1):=am rfl rfl
theorem adU:Wc 200 Yp (aC f200 1):=am rfl rfl
theorem adQ:Wc 204 Yk (aC f204 1):=am rfl rfl
theorem adP:Wc 205 Yj (aC f205 1):=am rfl rfl
theorem adN:Wc 207 Yh (aC f207 1):=am rfl rfl
theorem adM:Wc 209 Yf (aC f209 1):=am rfl rfl
theorem aba:Wc 212 Yc (aC f212 1):=am rfl rfl
theorem adK:Wc 214 Ya (aC f214 1):=am rfl rfl
theorem adJ:Wc 215 F215 (aC f215 1):=am rfl rfl
theorem adD:Wc 230 X6 (aC f230 1):=am rfl rfl
end
end
end Go.Iso.Gen
