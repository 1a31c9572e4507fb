/-
  the code that the claim reaches, for the evaluator.
-/
import Derived.Test.YtagpgnldjjmhkacGreatDoorGenH
set_option linter.unusedSimpArgs false
set_option linter.unusedVariables false
set_option maxRecDepth 100000
set_option maxHeartbeats 4000000
set_option linter.defProp false
namespace Go.Iso.Gen
open Go.Proofs Go.Proofs.Tryz
noncomputable section
section
variable {lo:Nat}{rd:Option Nat}{fr:Fr}{H:Heap}{Q:AP}{args:List IV}
def Xv:=ab f3 2
def Bz:=ab f3 23
def QO:=ab f19 2
def QM:=ab f19 19
def QL:=ab f19 23
def QK:=ab f19 47
def QJ:=ab f19 159
def Ji:=ab f19 1119
def QI:=ab f19 18015
def QH:=ab f19 75359
def LQ:=ab f19 191
def LP:=ab f19 383
def LO:=ab f19 767
def De:=ab f19 16895
def LN:=ab f19 37375
def LL:=ab f19 86527
def LK:=ab f19 184831
def LJ:=ab f19 381439
def LI:=ab f19 774655
def LH:=ab f19 1561087
def LG:=ab f19 173003263
def Ja:=ab f80 2
def I9:=ab f80 9
def Qe:=ab f80 37
def I8:=ab f80 85
def Qd:=ab f80 181
def Me:=ab f104 39
def FV:=ab f104 639
def L9:=ab f119 2
def L8:=ab f119 9
def L7:=ab f119 19
def Dv:=ab f134 21
def Du:=ab f134 19
def Dt:=ab f134 23
def Ds:=ab f134 79
def LY:=ab f134 175
def Dr:=ab f134 95
def xY:=ab f134 319
def xX:=ab f134 2239
def FO:=ab f134 36031
def FN:=ab f134 85183
def jS:=ab f134 314559
def nO:=ab f134 380095
def sx:=ab f134 15551
def Df:=ab f191 4
def xP:=ab f191 9
def xO:=ab f191 11
def xN:=ab f191 23
def xM:=ab f191 47
def xL:=ab f191 159
def FG:=ab f191 607
def FF:=ab f191 863
def FE:=ab f191 735
def FD:=ab f191 991
def xK:=ab f191 191
def sw:=ab f191 767
def ss:=ab f191 2559
def FC:=ab f191 5631
def sr:=ab f191 5119
def FB:=ab f191 11263
def B3:=J0 @Xv<|j_ f3 5<|j_ f3 11<|J0 @Bz<|j_ f3 47<|J0 (aU f3 1) (F3.eq_1)
def B7:=j_ f7 2<|j_ f7 5<|j_ f7 19<|j_ f7 75<|j_ f7 39<|j_ f7 151<|j_ f7 47<|J0 (aU f7 1) (F7.eq_1)
def B12:=j_ f12 2<|j_ f12 5<|J0 (aU f12 1) (F12.eq_1)
def B14:=j_ f14 2<|j_ f14 9<|j_ f14 37<|j_ f14 19<|j_ f14 139<|j_ f14 2251<|j_ f14 5323<|j_ f14 19659<|j_ f14 971<|j_ f14 23<|J0 (aU f14 1) (F14.eq_1)
def abg:=J0 B14 ((cH f14 75))
def B16:=j_ f16 2<|j_ f16 9<|j_ f16 32773<|j_ f16 73733<|j_ f16 155653<|j_ f16 319493<|j_ f16 385029<|j_ f16 2309<|j_ f16 581<|j_ f16 149<|j_ f16 11<|J0 (aU f16 1) (F16.eq_1)
def B19:=J0 @QO<|j_ f19 5<|J0 @QM<|j_ f19 75<|J0 @QL<|J0 @QK<|J0 @QJ<|J0 @Ji<|J0 @QI<|J0 @QH<|j_ f19 566879<|j_ f19 9217631<|j_ f19 21800543<|j_ f19 46966367<|j_ f19 3974751<|j_ f19 91743<|j_ f19 190047<|j_ f19 7775<|J0 @LQ<|J0 @LP<|J0 @LO<|J0 @De<|J0 @LN<|J0 @LL<|J0 @LK<|J0 @LJ<|J0 @LI<|J0 @LH<|j_ f19 17814015<|j_ f19 139448831<|J0 @LG<|j_ f19 374329855<|j_ f19 1313853951<|j_ f19 1850724863<|j_ f19 30396927<|j_ f19 3071<|J0 (aU f19 1) (F19.eq_1)
def vS:=J0 B19<|J0 (DP f19 304735)<|J0 (cH f19 607)<|J0 (DP f19 5231103) ((cH f19 4607))
def mq271:=ab f27 5
def B27:=j_ f27 2<|J0 @mq271<|J0 (aU f27 1) (F27.eq_1)
def U3:=j_ f28 2<|j_ f28 9<|j_ f28 21<|j_ f28 77<|j_ f28 11<|J0 (aU f28 1) (F28.eq_1)
def B31:=j_ f31 2<|j_ f31 9<|j_ f31 37<|j_ f31 19<|j_ f31 75<|j_ f31 23<|J0 (aU f31 1) (F31.eq_1)
def B34:=j_ f34 2<|j_ f34 9<|j_ f34 37<|j_ f34 19<|j_ f34 75<|j_ f34 23<|J0 (aU f34 1) (F34.eq_1)
def UW:=j_ f45 2<|j_ f45 9<|j_ f45 37<|j_ f45 277<|j_ f45 1173<|j_ f45 341<|j_ f45 2261<|j_ f45 36053<|j_ f45 85205<|j_ f45 314581<|j_ f45 15573<|j_ f45 19<|j_ f45 75<|j_ f45 299<|j_ f45 2219<|j_ f45 36011<|j_ f45 85163<|j_ f45 576683<|j_ f45 9227435<|j_ f45 21810347<|j_ f45 80530603<|j_ f45 3984555<|j_ f45 15531<|j_ f45 23<|j_ f45 79<|j_ f45 303<|j_ f45 1199<|j_ f45 8879<|j_ f45 144047<|j_ f45 340655<|j_ f45 2306735<|j_ f45 36909743<|j_ f45 154350255<|j_ f45 624112303<|j_ f45 120795823<|j_ f45 15938223<|j_ f45 62127<|j_ f45 95<|J0 (aU f45 1) (F45.eq_1)
def qI:=J0 UW<|J0 (cH f45 1237)<|J0 (DP f45 314539)<|J0 (cH f45 1195)<|J0 (DP f45 1258159) ((cH f45 4783))
def B53:=j_ f53 2<|j_ f53 5<|j_ f53 11<|j_ f53 23<|J0 (aU f53 1) (F53.eq_1)
def B56:=j_ f56 2<|j_ f56 65<|j_ f56 145<|j_ f56 593<|j_ f56 1361<|j_ f56 1233<|j_ f56 2769<|j_ f56 9937<|j_ f56 977<|j_ f56 11<|J0 (aU f56 1) (F56.eq_1)
def Le:=J0 B56 ((cH f56 17))
def Xh:=j_ f60 2<|j_ f60 9<|j_ f60 37<|j_ f60 11<|j_ f60 39<|j_ f60 151<|j_ f60 47<|j_ f60 159<|j_ f60 1119<|j_ f60 18015<|j_ f60 42591<|j_ f60 157279<|j_ f60 7775<|j_ f60 191<|j_ f60 639<|j_ f60 1407<|j_ f60 767<|J0 (aU f60 1) (F60.eq_1)
def Xa:=J0 Xh ((cH f60 607))
def B74:=j_ f74 2<|j_ f74 5<|J0 (aU f74 1) (F74.eq_1)
def B79:=j_ f79 2<|j_ f79 5<|J0 (aU f79 1) (F79.eq_1)
def B80:=J0 @Ja<|J0 @I9<|J0 @Qe<|J0 @I8<|J0 @Qd<|j_ f80 11<|J0 (aU f80 1) (F80.eq_1)
def B82:=j_ f82 2<|j_ f82 5<|J0 (aU f82 1) (F82.eq_1)
def B84:=j_ f84 2<|j_ f84 5<|J0 (aU f84 1) (F84.eq_1)
def B86:=j_ f86 2<|j_ f86 5<|J0 (aU f86 1) (F86.eq_1)
def B87:=j_ f87 2<|j_ f87 5<|J0 (aU f87 1) (F87.eq_1)
def B89:=j_ f89 2<|j_ f89 5<|j_ f89 11<|J0 (aU f89 1) (F89.eq_1)
def mq9141:=ab f91 87241471
def B91:=j_ f91 2<|j_ f91 9<|j_ f91 69<|j_ f91 1125<|j_ f91 2661<|j_ f91 18021<|j_ f91 288357<|j_ f91 681573<|j_ f91 2516581<|j_ f91 124517<|j_ f91 485<|j_ f91 19<|j_ f91 139<|j_ f91 2251<|j_ f91 5323<|j_ f91 19659<|j_ f91 971<|j_ f91 23<|j_ f91 47<|j_ f91 95<|j_ f91 191<|j_ f91 639<|j_ f91 4479<|j_ f91 72063<|j_ f91 170367<|j_ f91 1153407<|j_ f91 18454911<|j_ f91 26843519<|j_ f91 7969151<|j_ f91 31103<|j_ f91 1279<|j_ f91 8959<|j_ f91 144127<|j_ f91 340735<|j_ f91 2306815<|j_ f91 36909823<|J0 @mq9141<|j_ f91 322122495<|j_ f91 15938303<|j_ f91 62207<|j_ f91 1535<|J0 (aU f91 1) (F91.eq_1)
def jl:=J0 B91<|J0 (DP f91 9829)<|J0 (cH f91 37)<|J0 (cH f91 75)<|J0 (DP f91 629119)<|J0 (cH f91 2431)<|J0 (DP f91 1258239) ((cH f91 4863))
def Fu:=j_ f104 2<|j_ f104 9<|j_ f104 21<|j_ f104 77<|j_ f104 19<|j_ f104 75<|J0 @Me<|j_ f104 279<|j_ f104 4503<|j_ f104 10647<|j_ f104 39319<|j_ f104 1943<|j_ f104 79<|j_ f104 303<|j_ f104 95<|j_ f104 319<|j_ f104 2239<|j_ f104 3263<|j_ f104 4799<|j_ f104 19135<|j_ f104 142015<|j_ f104 2304703<|j_ f104 3353279<|j_ f104 993983<|J0 @FV<|j_ f104 4479<|j_ f104 72063<|j_ f104 301439<|j_ f104 1218943<|j_ f104 235903<|j_ f104 31103<|j_ f104 767<|J0 (aU f104 1) (aa6.eq_1)
def uz:=J0 Fu<|J0 (cH f104 151)<|J0 (cH f104 76479) ((cH f104 2431))
def I0:=j_ f118 2<|j_ f118 5<|j_ f118 19<|j_ f118 75<|j_ f118 23<|j_ f118 527<|j_ f118 655<|j_ f118 159<|j_ f118 607<|j_ f118 2111<|j_ f118 8767<|j_ f118 37439<|j_ f118 3647<|j_ f118 383<|J0 (aU f118 1) (aaX.eq_1)
def uy:=J0 I0<|J0 (cH f118 143) ((cH f118 575))
def UZ:=J0 @L9<|J0 @L8<|j_ f119 37<|J0 @L7<|j_ f119 43<|j_ f119 155<|j_ f119 23<|J0 (aU f119 1) (W8.eq_1)
def aia:=j_ f132 2<|j_ f132 5<|J0 (aU f132 1) (aaK.eq_1)
def Li:=j_ f134 2<|j_ f134 9<|J0 @Dv<|j_ f134 77<|J0 @Du<|j_ f134 75<|J0 @Dt<|J0 @Ds<|J0 @LY<|J0 @Dr<|J0 @xY<|J0 @xX<|J0 @FO<|J0 @FN<|J0 @jS<|J0 @nO<|j_ f134 2346175<|j_ f134 36949183<|j_ f134 53726399<|j_ f134 15977663<|J0 @sx<|j_ f134 639<|j_ f134 1407<|j_ f134 767<|J0 (aU f134 1) (F134.eq_1)
def Yd:=J0 Li<|J0 (DP f134 1297599) ((cH f134 1215))
def PY:=j_ f138 2<|j_ f138 5<|j_ f138 19<|j_ f138 43<|j_ f138 23<|j_ f138 79<|j_ f138 559<|j_ f138 9007<|j_ f138 21295<|j_ f138 45871<|j_ f138 3887<|j_ f138 159<|j_ f138 351<|j_ f138 191<|J0 (aU f138 1) (aaG.eq_1)
def NL:=J0 PY ((cH f138 303))
def ah6:=j_ f153 2<|j_ f153 5<|J0 (aU f153 1) (aaB.eq_1)
def abq:=j_ f164 2<|j_ f164 5<|j_ f164 35<|j_ f164 51<|j_ f164 75<|j_ f164 555<|j_ f164 9003<|j_ f164 37675<|j_ f164 45867<|j_ f164 3883<|J0 (aU f164 1) (aaA.eq_1)
def NK:=J0 abq ((cH f164 299))
def ah5:=j_ f168 2<|j_ f168 5<|j_ f168 11<|j_ f168 23<|J0 (aU f168 1) (aaw.eq_1)
def Fq:=j_ f171 2<|j_ f171 9<|j_ f171 21<|j_ f171 77<|j_ f171 19<|j_ f171 75<|j_ f171 39<|j_ f171 151<|j_ f171 47<|J0 (aU f171 1) (aat.eq_1)
def ah3:=j_ f173 2<|j_ f173 5<|j_ f173 11<|j_ f173 23<|J0 (aU f173 1) (aar.eq_1)
def abl:=j_ f176 2<|j_ f176 33<|j_ f176 73<|j_ f176 57<|J0 (aU f176 1) (aao.eq_1)
def US:=J0 abl ((cH f176 9))
def adA:=j_ f188 2<|j_ f188 9<|j_ f188 37<|j_ f188 19<|j_ f188 75<|j_ f188 39<|j_ f188 279<|j_ f188 4503<|j_ f188 10647<|j_ f188 39319<|j_ f188 1943<|j_ f188 79<|j_ f188 559<|j_ f188 9007<|j_ f188 21295<|j_ f188 78639<|j_ f188 3887<|j_ f188 95<|J0 (aU f188 1) (F188.eq_1)
def C0:=J0 adA<|J0 (cH f188 151) ((cH f188 303))
def IY:=J0 @Df<|j_ f191 18<|j_ f191 42<|j_ f191 1050<|j_ f191 2330<|j_ f191 5402<|j_ f191 11546<|j_ f191 15642<|j_ f191 314<|j_ f191 4282<|j_ f191 9402<|j_ f191 7354<|J0 @xP<|j_ f191 37<|j_ f191 85<|j_ f191 2101<|j_ f191 4661<|j_ f191 10805<|j_ f191 23093<|j_ f191 31285<|j_ f191 629<|j_ f191 8565<|j_ f191 18805<|j_ f191 14709<|J0 @xO<|J0 @xN<|J0 @xM<|J0 @xL<|J0 @FG<|J0 @FF<|J0 @FE<|J0 @FD<|J0 @xK<|j_ f191 4223<|j_ f191 9343<|j_ f191 21631<|j_ f191 46207<|j_ f191 62591<|J0 @sw<|J0 @ss<|J0 @FC<|J0 @sr<|J0 @FB<|j_ f191 6143<|j_ f191 12287<|J0 (aU f191 1) (UI.eq_1)
def jG:=J0 IY<|J0 (cH f191 282)<|J0 (cH f191 1210)<|J0 (cH f191 565)<|J0 (cH f191 2421) ((cH f191 1151))
theorem c3:Wc 3 F3 (ay f3 1):=am rfl rfl
theorem c7:Wc 7 F7 (ay f7 1):=am rfl rfl
theorem c12:Wc 12 F12 (ay f12 1):=am rfl rfl
theorem c14:Wc 14 F14 (ay f14 1):=am rfl rfl
theorem c16:Wc 16 F16 (ay f16 1):=am rfl rfl
theorem c19:Wc 19 F19 (ay f19 1):=am rfl rfl
theorem c27:Wc 27 F27 (ay f27 1):=am rfl rfl
theorem c28:Wc 28 F28 (ay f28 1):=am rfl rfl
theorem c31:Wc 31 F31 (ay f31 1):=am rfl rfl
theorem c34:Wc 34 F34 (ay f34 1):=am rfl rfl
theorem c45:Wc 45 F45 (ay f45 1):=am rfl rfl
theorem c53:Wc 53 F53 (ay f53 1):=am rfl rfl
theorem c56:Wc 56 F56 (ay f56 1):=am rfl rfl
theorem c60:Wc 60 F60 (ay f60 1):=am rfl rfl
theorem c74:Wc 74 F74 (ay f74 1):=am rfl rfl
theorem c79:Wc 79 F79 (ay f79 1):=am rfl rfl
theorem c80:Wc 80 F80 (ay f80 1):=am rfl rfl
theorem c82:Wc 82 F82 (ay f82 1):=am rfl rfl
theorem c84:Wc 84 F84 (ay f84 1):=am rfl rfl
theorem c86:Wc 86 F86 (ay f86 1):=am rfl rfl
theorem c87:Wc 87 F87 (ay f87 1):=am rfl rfl
theorem c89:Wc 89 F89 (ay f89 1):=am rfl rfl
theorem c91:Wc 91 F91 (ay f91 1):=am rfl rfl
theorem age:Wc 104 aa6 (ay f104 1):=am rfl rfl
theorem af6:Wc 118 aaX (ay f118 1):=am rfl rfl
theorem af5:Wc 119 W8 (ay f119 1):=am rfl rfl
theorem afV:Wc 132 aaK (ay f132 1):=am rfl rfl
theorem afT:Wc 134 F134 (ay f134 1):=am rfl rfl
theorem afP:Wc 138 aaG (ay f138 1):=am rfl rfl
theorem afJ:Wc 153 aaB (ay f153 1):=am rfl rfl
theorem afH:Wc 164 aaA (ay f164 1):=am rfl rfl
theorem afD:Wc 168 aaw (ay f168 1):=am rfl rfl
theorem afA:Wc 171 aat (ay f171 1):=am rfl rfl
theorem afz:Wc 173 aar (ay f173 1):=am rfl rfl
theorem acY:Wc 176 aao (ay f176 1):=am rfl rfl
theorem afv:Wc 188 F188 (ay f188 1):=am rfl rfl
theorem afs:Wc 191 UI (ay f191 1):=am rfl rfl
end
end
end Go.Iso.Gen
