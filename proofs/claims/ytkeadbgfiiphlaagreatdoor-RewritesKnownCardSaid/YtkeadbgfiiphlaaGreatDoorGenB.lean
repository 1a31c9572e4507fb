/-
  the code that the claim reaches, for the evaluator.
-/
import Derived.Test.YtkeadbgfiiphlaaGreatDoorGenH
set_option linter.unusedSimpArgs false
set_option linter.unusedVariables false
set_option maxRecDepth 100000
set_option maxHeartbeats 4000000
set_option linter.defProp false
namespace Go.Iso.Gen
open Go.Proofs Go.Proofs.Tryz
noncomputable section
section
variable {lo:Nat}{rd:Option Nat}{fr:Fr}{H:Heap}{Q:A1}{args:List IV}
def ZJ:=ab f4 2
def ZI:=ab f4 5
def ZH:=ab f4 11
def ZG:=ab f4 23
def ZF:=ab f4 79
def ZE:=ab f4 95
def ZD:=ab f4 191
def ZC:=ab f4 639
def ZB:=ab f4 8575
def RG:=ab f4 67967
def RF:=ab f4 84351
def RE:=ab f4 182655
def Ka:=ab f4 641407
def RD:=ab f4 4573567
def RC:=ab f4 3524991
def RB:=ab f4 3000703
def RA:=ab f4 772479
def Y7:=ab f9 2
def Y6:=ab f9 267
def Y5:=ab f9 1099
def Y4:=ab f9 2635
def Y3:=ab f9 9803
def Y2:=ab f9 11851
def Y1:=ab f9 24139
def Q5:=ab f9 48715
def Kj:=ab f20 2
def Ki:=ab f20 5
def Kh:=ab f20 11
def Kg:=ab f20 23
def Kf:=ab f20 79
def R2:=ab f20 175
def RZ:=ab f24 2
def RY:=ab f24 5
def RX:=ab f24 19
def RW:=ab f24 43
def RQ:=ab f36 1119
def RP:=ab f36 18015
def RO:=ab f36 42591
def RN:=ab f36 91743
def tG:=ab f36 190047
def tF:=ab f36 648799
def tE:=ab f36 3008095
def tD:=ab f36 12445279
def tC:=ab f36 83748447
def yg:=ab f36 385738335
def D2:=ab f36 1056826975
def yf:=ab f36 167634527
def MG:=ab f36 201188959
def MF:=ab f36 1207821919
def Ec:=ab f170 271
def MX:=ab f170 591
def yZ:=ab f170 4943
def yY:=ab f170 11087
def GN:=ab f170 23375
def yX:=ab f170 3919
def D4:=ab f190 33
def MN:=ab f190 137
def MM:=ab f190 57
def B4:=J0 @ZJ<|J0 @ZI<|J0 @ZH<|J0 @ZG<|J0 @ZF<|j_ f4 303<|J0 @ZE<|J0 @ZD<|J0 @ZC<|J0 @ZB<|J0 @RG<|j_ f4 297343<|J0 @RF<|J0 @RE<|J0 @Ka<|J0 @RD<|j_ f4 19253631<|J0 @RC<|J0 @RB<|j_ f4 10340735<|J0 @RA<|j_ f4 2607487<|j_ f4 9947519<|j_ f4 2083199<|j_ f4 14719<|j_ f4 767<|j_ f4 1535<|j_ f4 3071<|J0 (aW f4 1) (F4.eq_1)
def BL4:=J0 B4 ((cF f4 2431))
def B9:=J0 @Y7<|j_ f9 5<|j_ f9 19<|J0 @Y6<|J0 @Y5<|J0 @Y4<|J0 @Y3<|j_ f9 38475<|J0 @Y2<|J0 @Y1<|J0 @Q5<|j_ f9 97867<|j_ f9 196171<|j_ f9 459<|j_ f9 23<|J0 (aW f9 1) (F9.eq_1)
def BL9:=J0 B9 ((cF f9 75))
def B19:=j_ f19 2<|j_ f19 9<|j_ f19 37<|j_ f19 19<|j_ f19 43<|j_ f19 155<|j_ f19 23<|j_ f19 79<|j_ f19 559<|j_ f19 9007<|j_ f19 21295<|j_ f19 45871<|j_ f19 160559<|j_ f19 3887<|j_ f19 95<|J0 (aW f19 1) (F19.eq_1)
def YT:=J0 B19 ((cF f19 303))
def B20:=J0 @Kj<|J0 @Ki<|J0 @Kh<|J0 @Kg<|J0 @Kf<|J0 @R2<|j_ f20 159<|j_ f20 607<|j_ f20 2399<|j_ f20 4959<|j_ f20 15199<|j_ f20 10079<|j_ f20 20319<|j_ f20 61279<|j_ f20 40799<|j_ f20 48991<|j_ f20 163679<|j_ f20 191<|J0 (aW f20 1) (F20.eq_1)
def B24:=J0 @RZ<|J0 @RY<|J0 @RX<|J0 @RW<|j_ f24 23<|J0 (aW f24 1) (F24.eq_1)
def WF:=j_ f29 2<|j_ f29 9<|j_ f29 21<|j_ f29 77<|j_ f29 11<|J0 (aW f29 1) (F29.eq_1)
def B32:=j_ f32 2<|j_ f32 5<|j_ f32 11<|J0 (aW f32 1) (F32.eq_1)
def B35:=j_ f35 2<|j_ f35 9<|j_ f35 37<|j_ f35 11<|J0 (aW f35 1) (F35.eq_1)
def mq3626:=ab f36 1576920671
def mq3630:=ab f36 10334627423
def mq3631:=ab f36 14629594719
def mq3632:=ab f36 939386463
def mq3634:=ab f36 1610475103
def B36:=j_ f36 2<|j_ f36 5<|j_ f36 11<|j_ f36 23<|j_ f36 47<|j_ f36 159<|J0 @RQ<|J0 @RP<|J0 @RO<|J0 @RN<|J0 @tG<|J0 @tF<|j_ f36 2483807<|j_ f36 5629535<|j_ f36 11920991<|J0 @tE<|j_ f36 6153823<|J0 @tD<|j_ f36 25028191<|J0 @tC<|J0 @yg<|J0 @D2<|J0 @yf<|j_ f36 637396575<|j_ f36 1442702943<|j_ f36 771614303<|J0 @mq3626<|J0 @MG<|J0 @MF<|j_ f36 2818434655<|J0 @mq3630<|J0 @mq3631<|J0 @mq3632<|j_ f36 805168735<|J0 @mq3634<|j_ f36 7775<|j_ f36 191<|J0 (aW f36 1) (F36.eq_1)
def BM:=J0 B36 ((cF f36 607))
def B49:=j_ f49 2<|j_ f49 9<|j_ f49 21<|j_ f49 77<|j_ f49 19<|j_ f49 43<|j_ f49 155<|j_ f49 23<|J0 (aW f49 1) (F49.eq_1)
def B52:=j_ f52 2<|j_ f52 5<|j_ f52 131<|j_ f52 163<|j_ f52 23<|j_ f52 79<|j_ f52 559<|j_ f52 9007<|j_ f52 13103<|j_ f52 3887<|j_ f52 95<|J0 (aW f52 1) (F52.eq_1)
def Mx:=J0 B52<|J0 (cF f52 35) ((cF f52 303))
def B55:=j_ f55 2<|j_ f55 5<|j_ f55 11<|j_ f55 23<|J0 (aW f55 1) (F55.eq_1)
def B57:=j_ f57 2<|j_ f57 5<|j_ f57 19<|j_ f57 43<|j_ f57 23<|J0 (aW f57 1) (F57.eq_1)
def B60:=j_ f60 2<|j_ f60 5<|j_ f60 19<|j_ f60 75<|j_ f60 39<|j_ f60 87<|j_ f60 311<|j_ f60 47<|J0 (aW f60 1) (F60.eq_1)
def YV:=j_ f63 2<|j_ f63 9<|j_ f63 37<|j_ f63 11<|j_ f63 39<|j_ f63 151<|j_ f63 47<|j_ f63 159<|j_ f63 1119<|j_ f63 18015<|j_ f63 42591<|j_ f63 157279<|j_ f63 7775<|j_ f63 191<|j_ f63 639<|j_ f63 1407<|j_ f63 767<|J0 (aW f63 1) (F63.eq_1)
def YP:=J0 YV ((cF f63 607))
def B76:=j_ f76 2<|j_ f76 9<|j_ f76 37<|j_ f76 19<|j_ f76 139<|j_ f76 2251<|j_ f76 5323<|j_ f76 19659<|j_ f76 971<|j_ f76 23<|J0 (aW f76 1) (F76.eq_1)
def afK:=J0 B76 ((cF f76 75))
def B81:=j_ f81 2<|j_ f81 9<|j_ f81 37<|j_ f81 19<|j_ f81 75<|j_ f81 23<|j_ f81 79<|j_ f81 175<|j_ f81 159<|j_ f81 607<|j_ f81 191<|J0 (aW f81 1) (F81.eq_1)
def B88:=j_ f88 2<|j_ f88 5<|j_ f88 19<|j_ f88 75<|j_ f88 23<|j_ f88 47<|j_ f88 95<|j_ f88 191<|J0 (aW f88 1) (F88.eq_1)
def B94:=j_ f94 2<|j_ f94 5<|J0 (aW f94 1) (F94.eq_1)
def B96:=j_ f96 2<|j_ f96 5<|j_ f96 11<|J0 (aW f96 1) (F96.eq_1)
def mq9841:=ab f98 87241471
def B98:=j_ f98 2<|j_ f98 9<|j_ f98 69<|j_ f98 1125<|j_ f98 2661<|j_ f98 18021<|j_ f98 288357<|j_ f98 681573<|j_ f98 2516581<|j_ f98 124517<|j_ f98 485<|j_ f98 19<|j_ f98 139<|j_ f98 2251<|j_ f98 5323<|j_ f98 19659<|j_ f98 971<|j_ f98 23<|j_ f98 47<|j_ f98 95<|j_ f98 191<|j_ f98 639<|j_ f98 4479<|j_ f98 72063<|j_ f98 170367<|j_ f98 1153407<|j_ f98 18454911<|j_ f98 26843519<|j_ f98 7969151<|j_ f98 31103<|j_ f98 1279<|j_ f98 8959<|j_ f98 144127<|j_ f98 340735<|j_ f98 2306815<|j_ f98 36909823<|J0 @mq9841<|j_ f98 322122495<|j_ f98 15938303<|j_ f98 62207<|j_ f98 1535<|J0 (aW f98 1) (F98.eq_1)
def jV:=J0 B98<|J0 (yv f98 9829)<|J0 (cF f98 37)<|J0 (cF f98 75)<|J0 (yv f98 629119)<|J0 (cF f98 2431)<|J0 (yv f98 1258239) ((cF f98 4863))
def adZ:=j_ f115 2<|j_ f115 5<|j_ f115 11<|j_ f115 39<|j_ f115 279<|j_ f115 1175<|j_ f115 343<|j_ f115 79<|j_ f115 303<|j_ f115 159<|j_ f115 607<|j_ f115 319<|j_ f115 1215<|j_ f115 383<|J0 (aW f115 1) (adt.eq_1)
def QQ:=j_ f119 2<|j_ f119 5<|j_ f119 19<|j_ f119 75<|j_ f119 39<|j_ f119 151<|j_ f119 599<|j_ f119 2391<|j_ f119 9559<|j_ f119 2903<|j_ f119 727<|j_ f119 2519<|j_ f119 47<|J0 (aW f119 1) (adq.eq_1)
def aga:=j_ f125 2<|j_ f125 5<|J0 (aW f125 1) (adl.eq_1)
def akW:=j_ f127 2<|j_ f127 5<|J0 (aW f127 1) (adj.eq_1)
def af9:=j_ f129 2<|j_ f129 17<|j_ f129 281<|j_ f129 409<|j_ f129 121<|J0 (aW f129 1) (adh.eq_1)
def aaB:=J0 af9 ((cF f129 9))
def akU:=j_ f132 1<|J0 (aW f132 1) (ade.eq_1)
def akT:=j_ f133 2<|j_ f133 5<|J0 (aW f133 1) (adc.eq_1)
def akS:=j_ f134 2<|j_ f134 5<|j_ f134 11<|j_ f134 23<|J0 (aW f134 1) (adb.eq_1)
def QM:=j_ f140 2<|j_ f140 5<|j_ f140 19<|j_ f140 43<|j_ f140 23<|j_ f140 79<|j_ f140 559<|j_ f140 9007<|j_ f140 21295<|j_ f140 45871<|j_ f140 3887<|j_ f140 159<|j_ f140 351<|j_ f140 191<|J0 (aW f140 1) (ac7.eq_1)
def OC:=J0 QM ((cF f140 303))
def akQ:=j_ f143 2<|j_ f143 5<|j_ f143 11<|j_ f143 23<|J0 (aW f143 1) (ac4.eq_1)
def akP:=j_ f155 2<|j_ f155 5<|J0 (aW f155 1) (ac2.eq_1)
def af4:=j_ f165 2<|j_ f165 9<|j_ f165 69<|j_ f165 1125<|j_ f165 2661<|j_ f165 18021<|j_ f165 288357<|j_ f165 681573<|j_ f165 2516581<|j_ f165 124517<|j_ f165 485<|j_ f165 11<|J0 (aW f165 1) (ac0.eq_1)
def DY:=J0 af4<|J0 (yv f165 9829) ((cF f165 37))
def akO:=j_ f168 2<|j_ f168 5<|j_ f168 11<|j_ f168 23<|J0 (aW f168 1) (acX.eq_1)
def adW:=j_ f170 2<|j_ f170 5<|j_ f170 131<|j_ f170 291<|j_ f170 675<|j_ f170 931<|j_ f170 23<|J0 @Ec<|J0 @MX<|j_ f170 16719<|j_ f170 37199<|j_ f170 86351<|j_ f170 119119<|J0 @yZ<|J0 @yY<|J0 @GN<|J0 @yX<|J0 (aW f170 1) (acV.eq_1)
def DW:=J0 adW<|J0 (cF f170 35)<|J0 (yv f170 4431) ((cF f170 79))
def akL:=j_ f175 2<|j_ f175 5<|j_ f175 11<|j_ f175 23<|J0 (aW f175 1) (acQ.eq_1)
def akK:=j_ f178 2<|j_ f178 5<|j_ f178 11<|j_ f178 23<|J0 (aW f178 1) (acN.eq_1)
def af0:=j_ f189 2<|j_ f189 9<|j_ f189 37<|j_ f189 11<|J0 (aW f189 1) (acM.eq_1)
def afZ:=j_ f190 2<|J0 @D4<|J0 @MN<|j_ f190 2121<|j_ f190 4681<|j_ f190 3657<|J0 @MM<|J0 (aW f190 1) (acL.eq_1)
def Wt:=J0 afZ<|J0 (yv f190 585) ((cF f190 9))
def akI:=j_ f196 2<|j_ f196 5<|J0 (aW f196 1) (acI.eq_1)
def afX:=j_ f198 2<|j_ f198 5<|j_ f198 131<|j_ f198 291<|j_ f198 1187<|j_ f198 1699<|j_ f198 1443<|j_ f198 1955<|j_ f198 15<|J0 (aW f198 1) (acG.eq_1)
def JX:=J0 afX ((cF f198 35))
theorem c4:Wc 4 F4 (aA f4 1):=am rfl rfl
theorem c9:Wc 9 F9 (aA f9 1):=am rfl rfl
theorem c19:Wc 19 F19 (aA f19 1):=am rfl rfl
theorem c20:Wc 20 F20 (aA f20 1):=am rfl rfl
theorem c24:Wc 24 F24 (aA f24 1):=am rfl rfl
theorem c29:Wc 29 F29 (aA f29 1):=am rfl rfl
theorem c32:Wc 32 F32 (aA f32 1):=am rfl rfl
theorem c35:Wc 35 F35 (aA f35 1):=am rfl rfl
theorem c36:Wc 36 F36 (aA f36 1):=am rfl rfl
theorem c49:Wc 49 F49 (aA f49 1):=am rfl rfl
theorem c52:Wc 52 F52 (aA f52 1):=am rfl rfl
theorem c55:Wc 55 F55 (aA f55 1):=am rfl rfl
theorem c57:Wc 57 F57 (aA f57 1):=am rfl rfl
theorem c60:Wc 60 F60 (aA f60 1):=am rfl rfl
theorem c63:Wc 63 F63 (aA f63 1):=am rfl rfl
theorem c76:Wc 76 F76 (aA f76 1):=am rfl rfl
theorem c81:Wc 81 F81 (aA f81 1):=am rfl rfl
theorem c88:Wc 88 F88 (aA f88 1):=am rfl rfl
theorem c94:Wc 94 F94 (aA f94 1):=am rfl rfl
theorem c96:Wc 96 F96 (aA f96 1):=am rfl rfl
theorem c98:Wc 98 F98 (aA f98 1):=am rfl rfl
theorem aiN:Wc 115 adt (aA f115 1):=am rfl rfl
theorem aiL:Wc 119 adq (aA f119 1):=am rfl rfl
theorem afo:Wc 125 adl (aA f125 1):=am rfl rfl
theorem aiG:Wc 127 adj (aA f127 1):=am rfl rfl
theorem aiE:Wc 129 adh (aA f129 1):=am rfl rfl
theorem aiB:Wc 132 ade (aA f132 1):=am rfl rfl
theorem aiA:Wc 133 adc (aA f133 1):=am rfl rfl
theorem aiz:Wc 134 adb (aA f134 1):=am rfl rfl
theorem ait:Wc 140 ac7 (aA f140 1):=am rfl rfl
theorem aiq:Wc 143 ac4 (aA f143 1):=am rfl rfl
theorem aio:Wc 155 ac2 (aA f155 1):=am rfl rfl
theorem aim:Wc 165 ac0 (aA f165 1):=am rfl rfl
theorem aij:Wc 168 acX (aA f168 1):=am rfl rfl
theorem aih:Wc 170 acV (aA f170 1):=am rfl rfl
theorem aie:Wc 175 acQ (aA f175 1):=am rfl rfl
theorem aid:Wc 178 acN (aA f178 1):=am rfl rfl
theorem aia:Wc 189 acM (aA f189 1):=am rfl rfl
theorem ah9:Wc 190 acL (aA f190 1):=am rfl rfl
theorem ah5:Wc 196 acI (aA f196 1):=am rfl rfl
theorem ah3:Wc 198 acG (aA f198 1):=am rfl rfl
end
end
end Go.Iso.Gen
