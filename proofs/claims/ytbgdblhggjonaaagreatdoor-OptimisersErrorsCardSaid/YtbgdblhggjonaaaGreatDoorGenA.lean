/-
  the code that the claim reaches, for the evaluator.
-/
import Derived.Test.YtbgdblhggjonaaaGreatDoorGenH
set_option linter.unusedSimpArgs false
set_option linter.unusedVariables false
set_option maxRecDepth 100000
set_option maxHeartbeats 4000000
set_option linter.defProp false
namespace Go.Iso.Gen
open Go.Proofs Go.Proofs.Tryz
noncomputable section
section
variable {lo:Nat}{rd:Option Nat}{fr:Fr}{H:Heap}{Q:At}{args:List IV}
def WW:=ab f4 11
def IR:=ab f20 2
def IQ:=ab f20 9
def IP:=ab f20 37
def Qn:=ab f20 19
def Qm:=ab f20 75
def Qg:=ab f24 2
def Qf:=ab f24 9
def Qb:=ab f27 95
def Qa:=ab f27 319
def CD:=ab f27 4287
def K8:=ab f27 9407
def K7:=ab f27 38079
def CE:=ab f27 79039
def K6:=ab f27 308415
def K5:=ab f27 95423
def K4:=ab f27 193727
def K3:=ab f27 259263
def K2:=ab f27 383
def KW:=ab f86 39
def KV:=ab f86 79
def KU:=ab f86 95
def KT:=ab f92 639
def Pw:=ab f93 39
def KS:=ab f93 639
def Ln:=ab f108 2
def Lm:=ab f108 9
def Ll:=ab f108 19
def CZ:=ab f123 17
def Lj:=ab f123 281
def Li:=ab f123 665
def Lh:=ab f123 1433
def Fg:=ab f123 121
def wI:=ab f129 279
def CR:=ab f129 4503
def CQ:=ab f129 10647
def CO:=ab f129 39319
def Fd:=ab f129 88471
def xC:=ab f129 47511
def xB:=ab f129 96663
def xA:=ab f129 194967
def xz:=ab f129 1178007
def Fc:=ab f129 18479511
def Fb:=ab f129 43645335
def Fa:=ab f129 7993751
def E9:=ab f129 1943
theorem gs1{m all}:∀(k i){l},iC m all l i=iC m all (l.take k) i++iC m all (l.drop k) (i+k)|0,_,_=>by simp[iC]|k+1,i,[]=>by simp[iC]|k+1,i,_::_=>by rw[iC,gs1 k];simp[iC];congr 1;omega
theorem gs0{f:Func}{c p x}{o:Array Oper}{L A B C l M}(h:f.body=some c)(h0:pj0 64 p c=.region x o true)(h1:o.toList.mapM (gV PgT o)=some L)(h2:fl o.toList []=M)(h3:iC M L (L.take 25) 0=A)(h5:iC M L ((L.drop 25).take 25) 25=B)(h6:iC M L ((L.drop 25).drop 25) 50=C)(h4:parts M (A++(B++C)) 0 []=l):gR0 f p=.ops l:=by unfold gR0 cR0;rw[h];simp only[h0];rw[h1];simp only[Option.map_some,Option.getD_some,if_true,h2,<-h4,<-h3,<-h5,<-h6];rw[gs1 25 0,gs1 25 (0+25)]
def mq47:=ab f4 383 (gs0 rfl rfl (by cbv) (by cbv) (by cbv) (by cbv) (by cbv) (by cbv))
def B4:=j_ f4 2<|j_ f4 5<|J0 @WW<|j_ f4 23<|j_ f4 47<|j_ f4 95<|j_ f4 191<|J0 @mq47<|J0 (aX f4 1) (F4.eq_1)
def B12:=j_ f12 2<|j_ f12 5<|j_ f12 19<|j_ f12 75<|j_ f12 39<|j_ f12 151<|j_ f12 47<|J0 (aX f12 1) (F12.eq_1)
def mq145:=ab f14 3275
def B14:=j_ f14 2<|j_ f14 5<|j_ f14 19<|j_ f14 139<|j_ f14 2251<|J0 @mq145<|j_ f14 971<|j_ f14 23<|J0 (aX f14 1) (F14.eq_1)
def acB:=J0 B14 ((cJ f14 75))
def B20:=J0 @IR<|J0 @IQ<|J0 @IP<|J0 @Qn<|J0 @Qm<|j_ f20 23<|J0 (aX f20 1) (F20.eq_1)
def XG:=J0 @Qg<|J0 @Qf<|j_ f24 21<|j_ f24 11<|j_ f24 39<|j_ f24 279<|j_ f24 919<|j_ f24 727<|j_ f24 1495<|j_ f24 2007<|j_ f24 47<|J0 (aX f24 1) (F24.eq_1)
def WH:=j_ f27 2<|j_ f27 9<|j_ f27 21<|j_ f27 77<|j_ f27 11<|j_ f27 23<|j_ f27 47<|J0 @Qb<|J0 @Qa<|J0 @CD<|J0 @K8<|J0 @K7<|j_ f27 545983<|j_ f27 1201343<|j_ f27 939199<|J0 @CE<|J0 @K6<|J0 @K5<|J0 @K4<|J0 @K3<|J0 @K2<|J0 (aX f27 1) (F27.eq_1)
def WC:=J0 WH<|J0 (Di f27 152767) ((cJ f27 1215))
def B31:=j_ f31 2<|j_ f31 9<|j_ f31 37<|j_ f31 19<|j_ f31 139<|j_ f31 587<|j_ f31 171<|j_ f31 39<|j_ f31 151<|j_ f31 79<|j_ f31 559<|j_ f31 9007<|j_ f31 21295<|j_ f31 78639<|j_ f31 3887<|j_ f31 95<|J0 (aX f31 1) (F31.eq_1)
def WA:=J0 B31 ((cJ f31 303))
def B35:=j_ f35 2<|j_ f35 5<|j_ f35 131<|j_ f35 163<|j_ f35 23<|j_ f35 79<|j_ f35 559<|j_ f35 9007<|j_ f35 13103<|j_ f35 3887<|j_ f35 95<|J0 (aX f35 1) (F35.eq_1)
def KM:=J0 B35<|J0 (cJ f35 35) ((cJ f35 303))
def B38:=j_ f38 2<|j_ f38 5<|j_ f38 11<|j_ f38 23<|J0 (aX f38 1) (F38.eq_1)
def B40:=j_ f40 2<|j_ f40 5<|j_ f40 19<|j_ f40 43<|j_ f40 23<|J0 (aX f40 1) (F40.eq_1)
def B42:=j_ f42 2<|j_ f42 5<|j_ f42 19<|j_ f42 75<|j_ f42 39<|j_ f42 87<|j_ f42 311<|j_ f42 47<|J0 (aX f42 1) (F42.eq_1)
def B47:=j_ f47 2<|j_ f47 9<|j_ f47 37<|j_ f47 19<|j_ f47 75<|j_ f47 23<|J0 (aX f47 1) (F47.eq_1)
def B50:=j_ f50 2<|j_ f50 5<|J0 (aX f50 1) (F50.eq_1)
def B51:=j_ f51 2<|j_ f51 5<|j_ f51 11<|j_ f51 23<|J0 (aX f51 1) (F51.eq_1)
def B56:=j_ f56 2<|j_ f56 9<|j_ f56 69<|j_ f56 1125<|j_ f56 2661<|j_ f56 9829<|j_ f56 485<|j_ f56 11<|J0 (aX f56 1) (F56.eq_1)
def Wy:=J0 B56 ((cJ f56 37))
def B66:=j_ f66 2<|j_ f66 9<|j_ f66 37<|j_ f66 11<|j_ f66 263<|j_ f66 327<|j_ f66 47<|J0 (aX f66 1) (F66.eq_1)
def Ua:=J0 B66 ((cJ f66 71))
def B71:=j_ f71 2<|j_ f71 9<|j_ f71 37<|j_ f71 19<|j_ f71 75<|j_ f71 23<|J0 (aX f71 1) (F71.eq_1)
def B73:=j_ f73 2<|j_ f73 5<|J0 (aX f73 1) (F73.eq_1)
def B75:=j_ f75 2<|j_ f75 5<|J0 (aX f75 1) (F75.eq_1)
def B77:=j_ f77 2<|j_ f77 9<|j_ f77 37<|j_ f77 11<|j_ f77 23<|J0 (aX f77 1) (F77.eq_1)
def B81:=j_ f81 2<|j_ f81 9<|j_ f81 21<|j_ f81 77<|j_ f81 11<|j_ f81 23<|j_ f81 47<|j_ f81 95<|j_ f81 191<|j_ f81 383<|J0 (aX f81 1) (F81.eq_1)
def B85:=j_ f85 2<|j_ f85 9<|j_ f85 21<|j_ f85 77<|j_ f85 19<|j_ f85 75<|j_ f85 23<|J0 (aX f85 1) (F85.eq_1)
def B86:=j_ f86 2<|j_ f86 9<|j_ f86 69<|j_ f86 1125<|j_ f86 4709<|j_ f86 5733<|j_ f86 20069<|j_ f86 77413<|j_ f86 24165<|j_ f86 48741<|j_ f86 163429<|j_ f86 485<|j_ f86 11<|J0 @KW<|j_ f86 151<|J0 @KV<|j_ f86 559<|j_ f86 9007<|j_ f86 21295<|j_ f86 45871<|j_ f86 160559<|j_ f86 3887<|J0 @KU<|J0 (aX f86 1) (F86.eq_1)
def AF:=J0 B86<|J0 (cJ f86 37) ((cJ f86 303))
def Pm:=j_ f92 2<|j_ f92 9<|j_ f92 21<|j_ f92 77<|j_ f92 19<|j_ f92 75<|j_ f92 23<|j_ f92 79<|j_ f92 303<|j_ f92 159<|j_ f92 607<|j_ f92 191<|J0 @KT<|j_ f92 1407<|j_ f92 767<|J0 (aX f92 1) (F92.eq_1)
def WF:=j_ f93 2<|j_ f93 9<|j_ f93 21<|j_ f93 77<|j_ f93 19<|j_ f93 75<|J0 @Pw<|j_ f93 279<|j_ f93 4503<|j_ f93 10647<|j_ f93 39319<|j_ f93 1943<|j_ f93 79<|j_ f93 303<|j_ f93 95<|j_ f93 319<|j_ f93 2239<|j_ f93 3263<|j_ f93 4799<|j_ f93 19135<|j_ f93 142015<|j_ f93 2304703<|j_ f93 3353279<|j_ f93 993983<|J0 @KS<|j_ f93 4479<|j_ f93 72063<|j_ f93 301439<|j_ f93 1218943<|j_ f93 235903<|j_ f93 31103<|j_ f93 767<|J0 (aX f93 1) (F93.eq_1)
def ES:=J0 WF<|J0 (cJ f93 151)<|J0 (cJ f93 76479) ((cJ f93 2431))
def Um:=J0 @Ln<|J0 @Lm<|j_ f108 37<|J0 @Ll<|j_ f108 43<|j_ f108 155<|j_ f108 23<|J0 (aX f108 1) (Wx.eq_1)
def Bb:=j_ f115 2<|j_ f115 5<|J0 (aX f115 1) (aal.eq_1)
def Pa:=j_ f118 2<|j_ f118 9<|j_ f118 37<|j_ f118 19<|j_ f118 75<|j_ f118 39<|j_ f118 87<|j_ f118 311<|j_ f118 79<|j_ f118 175<|j_ f118 623<|j_ f118 95<|j_ f118 319<|j_ f118 1215<|j_ f118 383<|J0 (aX f118 1) (aai.eq_1)
def acV:=j_ f123 2<|J0 @CZ<|J0 @Lj<|J0 @Li<|J0 @Lh<|j_ f123 9113<|j_ f123 144281<|j_ f123 209817<|j_ f123 62361<|J0 @Fg<|J0 (aX f123 1) (aad.eq_1)
def Ui:=J0 acV<|J0 (Di f123 5017) ((cJ f123 9))
def KO:=j_ f129 2<|j_ f129 9<|j_ f129 21<|j_ f129 77<|j_ f129 11<|j_ f129 39<|J0 @wI<|J0 @CR<|J0 @CQ<|J0 @CO<|J0 @Fd<|J0 @xC<|J0 @xB<|J0 @xA<|J0 @xz<|J0 @Fc<|J0 @Fb<|j_ f129 295303575<|j_ f129 4724488599<|j_ f129 11166939543<|j_ f129 24051841431<|j_ f129 32641776023<|j_ f129 2040134039<|J0 @Fa<|J0 @E9<|j_ f129 79<|j_ f129 175<|j_ f129 95<|J0 (aX f129 1) (F129.eq_1)
def Uh:=J0 KO<|J0 (ru3 f129 161085847)<|J0 (Di f129 653719) ((cJ f129 151))
def ahc:=j_ f136 2<|j_ f136 5<|J0 (aX f136 1) (Z2.eq_1)
def acS:=j_ f159 2<|j_ f159 9<|j_ f159 69<|j_ f159 1125<|j_ f159 2661<|j_ f159 18021<|j_ f159 288357<|j_ f159 681573<|j_ f159 2516581<|j_ f159 124517<|j_ f159 485<|j_ f159 11<|J0 (aX f159 1) (ZZ.eq_1)
def Cx:=J0 acS<|J0 (Di f159 9829) ((cJ f159 37))
def ag8:=j_ f163 2<|j_ f163 5<|J0 (aX f163 1) (ZV.eq_1)
def aaK:=j_ f166 2<|j_ f166 33<|j_ f166 73<|j_ f166 57<|J0 (aX f166 1) (ZS.eq_1)
def Ug:=J0 aaK ((cJ f166 9))
def ag7:=j_ f167 2<|j_ f167 5<|j_ f167 11<|j_ f167 23<|J0 (aX f167 1) (ZR.eq_1)
def ag6:=j_ f169 2<|j_ f169 5<|j_ f169 11<|j_ f169 23<|J0 (aX f169 1) (ZP.eq_1)
def aaI:=j_ f170 2<|j_ f170 33<|j_ f170 73<|j_ f170 57<|J0 (aX f170 1) (ZO.eq_1)
def Uf:=J0 aaI ((cJ f170 9))
def ag5:=j_ f172 2<|j_ f172 5<|j_ f172 11<|j_ f172 23<|J0 (aX f172 1) (ZM.eq_1)
def ag4:=j_ f186 2<|j_ f186 5<|j_ f186 11<|j_ f186 23<|J0 (aX f186 1) (ZI.eq_1)
def ag3:=j_ f190 2<|j_ f190 5<|J0 (aX f190 1) (ZG.eq_1)
def ag2:=j_ f191 2<|j_ f191 5<|J0 (aX f191 1) (ZF.eq_1)
def acL:=j_ f193 2<|j_ f193 33<|j_ f193 73<|j_ f193 57<|J0 (aX f193 1) (ZD.eq_1)
def XB:=J0 acL ((cJ f193 9))
theorem c4:Wc 4 F4 (az f4 1):=am rfl rfl
theorem c12:Wc 12 F12 (az f12 1):=am rfl rfl
theorem c14:Wc 14 F14 (az f14 1):=am rfl rfl
theorem c20:Wc 20 F20 (az f20 1):=am rfl rfl
theorem c24:Wc 24 F24 (az f24 1):=am rfl rfl
theorem c27:Wc 27 F27 (az f27 1):=am rfl rfl
theorem c31:Wc 31 F31 (az f31 1):=am rfl rfl
theorem c35:Wc 35 F35 (az f35 1):=am rfl rfl
theorem c38:Wc 38 F38 (az f38 1):=am rfl rfl
theorem c40:Wc 40 F40 (az f40 1):=am rfl rfl
theorem c42:Wc 42 F42 (az f42 1):=am rfl rfl
theorem c47:Wc 47 F47 (az f47 1):=am rfl rfl
theorem c50:Wc 50 F50 (az f50 1):=am rfl rfl
theorem c51:Wc 51 F51 (az f51 1):=am rfl rfl
theorem c56:Wc 56 F56 (az f56 1):=am rfl rfl
theorem c66:Wc 66 F66 (az f66 1):=am rfl rfl
theorem c71:Wc 71 F71 (az f71 1):=am rfl rfl
theorem c73:Wc 73 F73 (az f73 1):=am rfl rfl
theorem c75:Wc 75 F75 (az f75 1):=am rfl rfl
theorem c77:Wc 77 F77 (az f77 1):=am rfl rfl
theorem c81:Wc 81 F81 (az f81 1):=am rfl rfl
theorem c85:Wc 85 F85 (az f85 1):=am rfl rfl
theorem c86:Wc 86 F86 (az f86 1):=am rfl rfl
theorem c92:Wc 92 F92 (az f92 1):=am rfl rfl
theorem c93:Wc 93 F93 (az f93 1):=am rfl rfl
theorem afn:Wc 108 Wx (az f108 1):=am rfl rfl
theorem Tt:Wc 115 aal (az f115 1):=am rfl rfl
theorem afg:Wc 118 aai (az f118 1):=am rfl rfl
theorem afb:Wc 123 aad (az f123 1):=am rfl rfl
theorem ae5:Wc 129 F129 (az f129 1):=am rfl rfl
theorem aeY:Wc 136 Z2 (az f136 1):=am rfl rfl
theorem aeU:Wc 159 ZZ (az f159 1):=am rfl rfl
theorem aeQ:Wc 163 ZV (az f163 1):=am rfl rfl
theorem aci:Wc 166 ZS (az f166 1):=am rfl rfl
theorem aeN:Wc 167 ZR (az f167 1):=am rfl rfl
theorem aeM:Wc 169 ZP (az f169 1):=am rfl rfl
theorem acg:Wc 170 ZO (az f170 1):=am rfl rfl
theorem aeL:Wc 172 ZM (az f172 1):=am rfl rfl
theorem aeF:Wc 186 ZI (az f186 1):=am rfl rfl
theorem aeD:Wc 190 ZG (az f190 1):=am rfl rfl
theorem aeC:Wc 191 ZF (az f191 1):=am rfl rfl
theorem aeA:Wc 193 ZD (az f193 1):=am rfl rfl
end
end
end Go.Iso.Gen
