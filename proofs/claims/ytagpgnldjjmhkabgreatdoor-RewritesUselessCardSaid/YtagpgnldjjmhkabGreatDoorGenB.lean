/-
  the code that the claim reaches, for the evaluator.
-/
import Derived.Test.YtagpgnldjjmhkabGreatDoorGenH
set_option linter.unusedSimpArgs false
set_option linter.unusedVariables false
set_option maxRecDepth 100000
set_option maxHeartbeats 4000000
set_option linter.defProp false
namespace Go.Iso.Gen
open Go.Proofs Go.Proofs.Tryz
noncomputable section
section
variable {lo:Nat}{rd:Option Nat}{fr:Fr}{H:Heap}{Q:A1}{args:List IV}
def Cn:=ab f4 2
def Cm:=ab f4 5
def Gw:=ab f4 11
def Cl:=ab f4 23
def Ck:=ab f4 47
def Gv:=ab f4 95
def Gu:=ab f4 191
def Cj:=ab f4 383
def Gs:=ab f4 767
def Ci:=ab f4 1535
theorem gs1{m all}:∀(k i){l},jr m all l i=jr m all (l.take k) i++jr m all (l.drop k) (i+k)|0,_,_=>by simp[jr]|k+1,i,[]=>by simp[jr]|k+1,i,_::_=>by rw[jr,gs1 k];simp[jr];congr 1;omega
theorem gs0{f:Func}{c p x}{o:Array Oper}{L A B C l M}(h:f.body=some c)(h0:pj0 64 p c=.region x o true)(h1:o.toList.mapM (i6 PgT o)=some L)(h2:gJ o.toList []=M)(h3:jr M L (L.take 25) 0=A)(h5:jr M L ((L.drop 25).take 25) 25=B)(h6:jr M L ((L.drop 25).drop 25) 50=C)(h4:parts M (A++(B++C)) 0 []=l):gR0 f p=.ops l:=by unfold gR0 cR0;rw[h];simp only[h0];rw[h1];simp only[Option.map_some,Option.getD_some,if_true,h2,<-h4,<-h3,<-h5,<-h6];rw[gs1 25 0,gs1 25 (0+25)]
def yH:=ab f4 3071 (gs0 rfl rfl (by cbv) (by cbv) (by cbv) (by cbv) (by cbv) (by cbv))
def QK:=ab f14 1119
def QJ:=ab f14 18015
def QI:=ab f14 42591
def QH:=ab f14 91743
def tq:=ab f14 190047
def tp:=ab f14 648799
def tn:=ab f14 3008095
def tk:=ab f14 12445279
def tg:=ab f14 83748447
def xX:=ab f14 385738335
def D4:=ab f14 1056826975
def xW:=ab f14 167634527
def Mo:=ab f14 201188959
def Mn:=ab f14 1207821919
def Me:=ab f91 39
def L9:=ab f91 79
def L8:=ab f91 95
def Ed:=ab f112 17
def Mt:=ab f112 281
def Mr:=ab f112 665
def Mq:=ab f112 1433
def GM:=ab f112 121
def xY:=ab f119 279
def D7:=ab f119 4503
def D6:=ab f119 10647
def D5:=ab f119 39319
def GJ:=ab f119 88471
def yU:=ab f119 47511
def yT:=ab f119 96663
def yS:=ab f119 194967
def yR:=ab f119 1178007
def GI:=ab f119 18479511
def GH:=ab f119 43645335
def GG:=ab f119 7993751
def GF:=ab f119 1943
def B4:=J0 @Cn<|J0 @Cm<|J0 @Gw<|J0 @Cl<|J0 @Ck<|J0 @Gv<|J0 @Gu<|J0 @Cj<|J0 @Gs<|J0 @Ci<|J0 @yH<|J0 (bi f4 1) (F4.eq_1)
def B8:=j_ f8 2<|j_ f8 5<|J0 (bi f8 1) (F8.eq_1)
def B9:=j_ f9 2<|j_ f9 5<|j_ f9 19<|j_ f9 75<|j_ f9 107<|j_ f9 23<|J0 (bi f9 1) (F9.eq_1)
def B10:=j_ f10 2<|j_ f10 9<|j_ f10 21<|j_ f10 77<|j_ f10 11<|j_ f10 39<|j_ f10 87<|j_ f10 311<|j_ f10 47<|J0 (bi f10 1) (F10.eq_1)
def B12:=j_ f12 2<|j_ f12 9<|j_ f12 37<|j_ f12 19<|j_ f12 43<|j_ f12 155<|j_ f12 23<|j_ f12 79<|j_ f12 559<|j_ f12 9007<|j_ f12 21295<|j_ f12 45871<|j_ f12 160559<|j_ f12 3887<|j_ f12 95<|J0 (bi f12 1) (F12.eq_1)
def Xa:=J0 B12 ((du f12 303))
def mq26:=ab f14 1576920671
def mq30:=ab f14 10334627423
def mq31:=ab f14 14629594719
def mq32:=ab f14 939386463
def mq34:=ab f14 1610475103
def B14:=j_ f14 2<|j_ f14 5<|j_ f14 11<|j_ f14 23<|j_ f14 47<|j_ f14 159<|J0 @QK<|J0 @QJ<|J0 @QI<|J0 @QH<|J0 @tq<|J0 @tp<|j_ f14 2483807<|j_ f14 5629535<|j_ f14 11920991<|J0 @tn<|j_ f14 6153823<|J0 @tk<|j_ f14 25028191<|J0 @tg<|J0 @xX<|J0 @D4<|J0 @xW<|j_ f14 637396575<|j_ f14 1442702943<|j_ f14 771614303<|J0 @mq26<|J0 @Mo<|J0 @Mn<|j_ f14 2818434655<|J0 @mq30<|J0 @mq31<|J0 @mq32<|j_ f14 805168735<|J0 @mq34<|j_ f14 7775<|j_ f14 191<|J0 (bi f14 1) (F14.eq_1)
def BI:=J0 B14 ((du f14 607))
def UW:=j_ f25 2<|j_ f25 9<|j_ f25 21<|j_ f25 77<|j_ f25 11<|J0 (bi f25 1) (F25.eq_1)
def Yg:=j_ f29 2<|j_ f29 9<|j_ f29 37<|j_ f29 19<|j_ f29 75<|j_ f29 23<|j_ f29 79<|j_ f29 175<|j_ f29 159<|j_ f29 607<|j_ f29 191<|J0 (bi f29 1) (F29.eq_1)
def B35:=j_ f35 2<|j_ f35 5<|j_ f35 19<|j_ f35 75<|j_ f35 23<|j_ f35 47<|j_ f35 95<|j_ f35 191<|J0 (bi f35 1) (F35.eq_1)
def B38:=j_ f38 2<|j_ f38 9<|j_ f38 37<|j_ f38 19<|j_ f38 139<|j_ f38 2251<|j_ f38 5323<|j_ f38 19659<|j_ f38 971<|j_ f38 23<|J0 (bi f38 1) (F38.eq_1)
def aba:=J0 B38 ((du f38 75))
def B42:=j_ f42 2<|j_ f42 9<|j_ f42 37<|j_ f42 19<|j_ f42 139<|j_ f42 2251<|j_ f42 5323<|j_ f42 11467<|j_ f42 40139<|j_ f42 971<|j_ f42 23<|J0 (bi f42 1) (F42.eq_1)
def aa8:=J0 B42 ((du f42 75))
def B44:=j_ f44 2<|j_ f44 9<|j_ f44 37<|j_ f44 19<|j_ f44 139<|j_ f44 2251<|j_ f44 5323<|j_ f44 19659<|j_ f44 971<|j_ f44 23<|J0 (bi f44 1) (F44.eq_1)
def aa7:=J0 B44 ((du f44 75))
def B49:=j_ f49 2<|j_ f49 9<|j_ f49 37<|j_ f49 19<|j_ f49 139<|j_ f49 587<|j_ f49 171<|j_ f49 39<|j_ f49 151<|j_ f49 79<|j_ f49 559<|j_ f49 9007<|j_ f49 21295<|j_ f49 78639<|j_ f49 3887<|j_ f49 95<|J0 (bi f49 1) (F49.eq_1)
def UH:=J0 B49 ((du f49 303))
def B52:=j_ f52 2<|j_ f52 5<|j_ f52 131<|j_ f52 163<|j_ f52 23<|j_ f52 79<|j_ f52 559<|j_ f52 9007<|j_ f52 13103<|j_ f52 3887<|j_ f52 95<|J0 (bi f52 1) (F52.eq_1)
def LV:=J0 B52<|J0 (du f52 35) ((du f52 303))
def B55:=j_ f55 2<|j_ f55 5<|j_ f55 11<|j_ f55 23<|J0 (bi f55 1) (F55.eq_1)
def B56:=j_ f56 2<|j_ f56 9<|j_ f56 37<|j_ f56 19<|j_ f56 75<|j_ f56 23<|J0 (bi f56 1) (F56.eq_1)
def B58:=j_ f58 2<|j_ f58 5<|j_ f58 19<|j_ f58 43<|j_ f58 23<|J0 (bi f58 1) (F58.eq_1)
def B61:=j_ f61 2<|j_ f61 5<|j_ f61 19<|j_ f61 75<|j_ f61 39<|j_ f61 87<|j_ f61 311<|j_ f61 47<|j_ f61 159<|j_ f61 607<|j_ f61 191<|J0 (bi f61 1) (F61.eq_1)
def B66:=j_ f66 2<|j_ f66 9<|j_ f66 21<|j_ f66 77<|j_ f66 11<|J0 (bi f66 1) (F66.eq_1)
def B67:=j_ f67 2<|j_ f67 5<|J0 (bi f67 1) (F67.eq_1)
def B68:=j_ f68 2<|j_ f68 5<|j_ f68 11<|j_ f68 23<|J0 (bi f68 1) (F68.eq_1)
def B71:=j_ f71 2<|j_ f71 9<|j_ f71 37<|j_ f71 19<|j_ f71 75<|j_ f71 23<|J0 (bi f71 1) (F71.eq_1)
def B75:=j_ f75 2<|j_ f75 5<|j_ f75 19<|j_ f75 75<|j_ f75 39<|j_ f75 151<|j_ f75 599<|j_ f75 2391<|j_ f75 9559<|j_ f75 2903<|j_ f75 727<|j_ f75 2519<|j_ f75 47<|J0 (bi f75 1) (F75.eq_1)
def B83:=j_ f83 2<|j_ f83 9<|j_ f83 69<|j_ f83 1125<|j_ f83 4709<|j_ f83 19045<|j_ f83 9829<|j_ f83 38501<|j_ f83 11877<|j_ f83 40549<|j_ f83 485<|j_ f83 11<|J0 (bi f83 1) (F83.eq_1)
def LT:=J0 B83 ((du f83 37))
def B87:=j_ f87 2<|j_ f87 5<|j_ f87 11<|j_ f87 23<|J0 (bi f87 1) (F87.eq_1)
def B89:=j_ f89 2<|j_ f89 9<|j_ f89 21<|j_ f89 77<|j_ f89 19<|j_ f89 75<|j_ f89 39<|j_ f89 151<|j_ f89 47<|j_ f89 159<|j_ f89 351<|j_ f89 191<|J0 (bi f89 1) (F89.eq_1)
def B91:=j_ f91 2<|j_ f91 9<|j_ f91 69<|j_ f91 1125<|j_ f91 4709<|j_ f91 5733<|j_ f91 20069<|j_ f91 77413<|j_ f91 24165<|j_ f91 48741<|j_ f91 163429<|j_ f91 485<|j_ f91 11<|J0 @Me<|j_ f91 151<|J0 @L9<|j_ f91 559<|j_ f91 9007<|j_ f91 21295<|j_ f91 45871<|j_ f91 160559<|j_ f91 3887<|J0 @L8<|J0 (bi f91 1) (F91.eq_1)
def BG:=J0 B91<|J0 (du f91 37) ((du f91 303))
def Yb:=j_ f95 2<|j_ f95 9<|j_ f95 37<|j_ f95 11<|j_ f95 39<|j_ f95 87<|j_ f95 79<|j_ f95 303<|j_ f95 95<|J0 (bi f95 1) (F95.eq_1)
def adE:=j_ f100 2<|j_ f100 5<|j_ f100 19<|j_ f100 139<|j_ f100 2251<|j_ f100 5323<|j_ f100 19659<|j_ f100 971<|j_ f100 23<|J0 (bi f100 1) (aa3.eq_1)
def JJ:=J0 adE ((du f100 75))
def P2:=j_ f102 2<|j_ f102 5<|j_ f102 11<|j_ f102 39<|j_ f102 279<|j_ f102 1175<|j_ f102 343<|j_ f102 79<|j_ f102 303<|j_ f102 159<|j_ f102 607<|j_ f102 319<|j_ f102 1215<|j_ f102 383<|J0 (bi f102 1) (aa1.eq_1)
def LY:=j_ f107 2<|j_ f107 9<|j_ f107 37<|j_ f107 19<|j_ f107 75<|j_ f107 39<|j_ f107 87<|j_ f107 311<|j_ f107 79<|j_ f107 175<|j_ f107 623<|j_ f107 95<|j_ f107 319<|j_ f107 1215<|j_ f107 383<|J0 (bi f107 1) (aaX.eq_1)
def adA:=j_ f112 2<|J0 @Ed<|J0 @Mt<|J0 @Mr<|J0 @Mq<|j_ f112 9113<|j_ f112 144281<|j_ f112 209817<|j_ f112 62361<|J0 @GM<|J0 (bi f112 1) (aaS.eq_1)
def UQ:=J0 adA<|J0 (Gj f112 5017) ((du f112 9))
def JM:=j_ f118 2<|j_ f118 9<|j_ f118 21<|j_ f118 77<|j_ f118 19<|j_ f118 75<|j_ f118 39<|j_ f118 279<|j_ f118 4503<|j_ f118 10647<|j_ f118 39319<|j_ f118 1943<|j_ f118 79<|j_ f118 303<|j_ f118 95<|j_ f118 191<|j_ f118 639<|j_ f118 2431<|j_ f118 767<|j_ f118 1535<|j_ f118 3071<|J0 (bi f118 1) (aaN.eq_1)
def NR:=J0 JM ((du f118 151))
def LW:=j_ f119 2<|j_ f119 9<|j_ f119 21<|j_ f119 77<|j_ f119 11<|j_ f119 39<|J0 @xY<|J0 @D7<|J0 @D6<|J0 @D5<|J0 @GJ<|J0 @yU<|J0 @yT<|J0 @yS<|J0 @yR<|J0 @GI<|J0 @GH<|j_ f119 295303575<|j_ f119 4724488599<|j_ f119 11166939543<|j_ f119 24051841431<|j_ f119 32641776023<|j_ f119 2040134039<|J0 @GG<|J0 @GF<|j_ f119 79<|j_ f119 175<|j_ f119 95<|J0 (bi f119 1) (F119.eq_1)
def UP:=J0 LW<|J0 (ru3 f119 161085847)<|J0 (Gj f119 653719) ((du f119 151))
def adw:=j_ f148 2<|j_ f148 5<|j_ f148 19<|j_ f148 139<|j_ f148 2251<|j_ f148 5323<|j_ f148 36043<|j_ f148 576715<|j_ f148 1363147<|j_ f148 9227467<|j_ f148 147639499<|j_ f148 348966091<|j_ f148 751619275<|j_ f148 2630667467<|j_ f148 63753419<|j_ f148 249035<|j_ f148 971<|j_ f148 23<|J0 (bi f148 1) (aaC.eq_1)
def DN:=J0 adw<|J0 (ru3 f148 5033163)<|J0 (Gj f148 19659) ((du f148 75))
def abj:=j_ f154 2<|j_ f154 33<|j_ f154 73<|j_ f154 57<|J0 (bi f154 1) (aaw.eq_1)
def UO:=J0 abj ((du f154 9))
def ahK:=j_ f155 2<|j_ f155 5<|j_ f155 11<|j_ f155 23<|J0 (bi f155 1) (aav.eq_1)
def ahJ:=j_ f157 2<|j_ f157 5<|j_ f157 11<|j_ f157 23<|J0 (bi f157 1) (aat.eq_1)
def abh:=j_ f158 2<|j_ f158 33<|j_ f158 73<|j_ f158 57<|J0 (bi f158 1) (aas.eq_1)
def UM:=J0 abh ((du f158 9))
def abg:=j_ f159 2<|j_ f159 33<|j_ f159 73<|j_ f159 57<|J0 (bi f159 1) (aar.eq_1)
def UL:=J0 abg ((du f159 9))
def adv:=j_ f170 2<|j_ f170 9<|j_ f170 37<|j_ f170 19<|j_ f170 75<|j_ f170 39<|j_ f170 279<|j_ f170 4503<|j_ f170 10647<|j_ f170 39319<|j_ f170 1943<|j_ f170 79<|j_ f170 559<|j_ f170 9007<|j_ f170 21295<|j_ f170 78639<|j_ f170 3887<|j_ f170 95<|J0 (bi f170 1) (F170.eq_1)
def BH:=J0 adv<|J0 (du f170 151) ((du f170 303))
def adq:=j_ f181 2<|j_ f181 33<|j_ f181 73<|j_ f181 57<|J0 (bi f181 1) (aaj.eq_1)
def X7:=J0 adq ((du f181 9))
theorem c4:Wc 4 F4 (aC f4 1):=am rfl rfl
theorem c8:Wc 8 F8 (aC f8 1):=am rfl rfl
theorem c9:Wc 9 F9 (aC f9 1):=am rfl rfl
theorem c10:Wc 10 F10 (aC f10 1):=am rfl rfl
theorem c12:Wc 12 F12 (aC f12 1):=am rfl rfl
theorem c14:Wc 14 F14 (aC f14 1):=am rfl rfl
theorem c25:Wc 25 F25 (aC f25 1):=am rfl rfl
theorem c29:Wc 29 F29 (aC f29 1):=am rfl rfl
theorem c35:Wc 35 F35 (aC f35 1):=am rfl rfl
theorem c38:Wc 38 F38 (aC f38 1):=am rfl rfl
theorem c42:Wc 42 F42 (aC f42 1):=am rfl rfl
theorem c44:Wc 44 F44 (aC f44 1):=am rfl rfl
theorem c49:Wc 49 F49 (aC f49 1):=am rfl rfl
theorem c52:Wc 52 F52 (aC f52 1):=am rfl rfl
theorem c55:Wc 55 F55 (aC f55 1):=am rfl rfl
theorem c56:Wc 56 F56 (aC f56 1):=am rfl rfl
theorem c58:Wc 58 F58 (aC f58 1):=am rfl rfl
theorem c61:Wc 61 F61 (aC f61 1):=am rfl rfl
theorem c66:Wc 66 F66 (aC f66 1):=am rfl rfl
theorem c67:Wc 67 F67 (aC f67 1):=am rfl rfl
theorem c68:Wc 68 F68 (aC f68 1):=am rfl rfl
theorem c71:Wc 71 F71 (aC f71 1):=am rfl rfl
theorem c75:Wc 75 F75 (aC f75 1):=am rfl rfl
theorem c83:Wc 83 F83 (aC f83 1):=am rfl rfl
theorem c87:Wc 87 F87 (aC f87 1):=am rfl rfl
theorem c89:Wc 89 F89 (aC f89 1):=am rfl rfl
theorem c91:Wc 91 F91 (aC f91 1):=am rfl rfl
theorem c95:Wc 95 F95 (aC f95 1):=am rfl rfl
theorem afY:Wc 100 aa3 (aC f100 1):=am rfl rfl
theorem acV:Wc 102 aa1 (aC f102 1):=am rfl rfl
theorem afW:Wc 107 aaX (aC f107 1):=am rfl rfl
theorem afR:Wc 112 aaS (aC f112 1):=am rfl rfl
theorem afL:Wc 118 aaN (aC f118 1):=am rfl rfl
theorem afK:Wc 119 F119 (aC f119 1):=am rfl rfl
theorem afA:Wc 148 aaC (aC f148 1):=am rfl rfl
theorem acS:Wc 154 aaw (aC f154 1):=am rfl rfl
theorem afu:Wc 155 aav (aC f155 1):=am rfl rfl
theorem aft:Wc 157 aat (aC f157 1):=am rfl rfl
theorem acQ:Wc 158 aas (aC f158 1):=am rfl rfl
theorem acP:Wc 159 aar (aC f159 1):=am rfl rfl
theorem afq:Wc 170 F170 (aC f170 1):=am rfl rfl
theorem afh:Wc 181 aaj (aC f181 1):=am rfl rfl
end
end
end Go.Iso.Gen
