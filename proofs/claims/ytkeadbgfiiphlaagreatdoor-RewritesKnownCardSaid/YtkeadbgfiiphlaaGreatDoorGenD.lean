/-
  the code that the claim reaches, for the evaluator.
-/
import Derived.Test.YtkeadbgfiiphlaaGreatDoorGenH
set_option linter.unusedSimpArgs false
set_option linter.unusedVariables false
set_option maxRecDepth 100000
set_option maxHeartbeats 4000000
set_option linter.defProp false
namespace Go.Iso.Gen
open Go.Proofs Go.Proofs.Tryz
noncomputable section
section
variable {lo:Nat}{rd:Option Nat}{fr:Fr}{H:Heap}{Q:A1}{args:List IV}
def Zs:=ab f6 2
def Zr:=ab f6 5
def Zq:=ab f6 11
def Zp:=ab f6 23
def Zo:=ab f6 47
def Zn:=ab f6 159
def Zm:=ab f6 2143
def Zl:=ab f6 8799
def Zk:=ab f6 21087
def Zj:=ab f6 78431
def Rx:=ab f6 1094239
def Rw:=ab f6 4502111
def J9:=ab f6 160351
def Rv:=ab f6 193119
def Ru:=ab f6 651871
def Rt:=ab f6 782943
def Rs:=ab f6 1045087
def Rq:=ab f6 3679
def Rp:=ab f6 191
def Rn:=ab f6 383
def Sh:=ab f13 79
def Sf:=ab f13 95
def Se:=ab f13 191
def R9:=ab f16 11
def R6:=ab f18 1071
def R5:=ab f18 4399
def R4:=ab f18 10543
def D5:=ab f18 39215
def R3:=ab f18 88367
def R1:=ab f21 159
def R0:=ab f21 1119
def ML:=ab f21 18015
def MK:=ab f21 42591
def MJ:=ab f21 91743
def MH:=ab f21 321119
def Rm:=ab f71 2
def Rl:=ab f74 139
def Rk:=ab f74 2251
def Rj:=ab f74 5323
def G1:=ab f105 39
def G0:=ab f105 79
def GZ:=ab f105 95
def Nl:=ab f122 2
def Nj:=ab f122 9
def yi:=ab f122 69
def Eo:=ab f122 357
def Ni:=ab f122 997
def Ek:=ab f136 21
def Ej:=ab f136 19
def Ei:=ab f136 23
def Eh:=ab f136 79
def MY:=ab f136 175
def Eg:=ab f136 95
def ze:=ab f136 319
def zd:=ab f136 2239
def GU:=ab f136 36031
def GT:=ab f136 85183
def kZ:=ab f136 314559
def pL:=ab f136 380095
def tK:=ab f136 15551
def B6:=J0 @Zs<|J0 @Zr<|J0 @Zq<|J0 @Zp<|J0 @Zo<|J0 @Zn<|J0 @Zm<|J0 @Zl<|J0 @Zk<|J0 @Zj<|J0 @Rx<|J0 @Rw<|j_ f6 19182175<|j_ f6 77902431<|j_ f6 23376479<|j_ f6 82096735<|j_ f6 115651167<|j_ f6 1880671<|J0 @J9<|J0 @Rv<|J0 @Ru<|j_ f6 2486879<|J0 @Rt<|J0 @Rs<|J0 @Rq<|J0 @Rp<|J0 @Rn<|J0 (aW f6 1) (F6.eq_1)
def BL6:=J0 B6<|J0 (yv f6 307807) ((cF f6 607))
def B10:=j_ f10 2<|j_ f10 5<|j_ f10 11<|J0 (aW f10 1) (F10.eq_1)
def B13:=j_ f13 2<|j_ f13 5<|j_ f13 19<|j_ f13 75<|j_ f13 23<|J0 @Sh<|j_ f13 303<|J0 @Sf<|J0 @Se<|j_ f13 383<|J0 (aW f13 1) (F13.eq_1)
def B15:=j_ f15 2<|j_ f15 9<|j_ f15 21<|j_ f15 77<|j_ f15 11<|j_ f15 39<|j_ f15 87<|j_ f15 311<|j_ f15 47<|J0 (aW f15 1) (F15.eq_1)
def B16:=j_ f16 2<|j_ f16 5<|J0 @R9<|j_ f16 23<|J0 (aW f16 1) (F16.eq_1)
def B18:=j_ f18 2<|j_ f18 5<|j_ f18 11<|j_ f18 23<|j_ f18 79<|J0 @R6<|J0 @R5<|J0 @R4<|J0 @D5<|J0 @R3<|j_ f18 47407<|j_ f18 96559<|j_ f18 1839<|j_ f18 95<|J0 (aW f18 1) (F18.eq_1)
def adP:=J0 B18 ((cF f18 303))
def B21:=j_ f21 2<|j_ f21 5<|j_ f21 19<|j_ f21 75<|j_ f21 39<|j_ f21 87<|j_ f21 311<|j_ f21 47<|J0 @R1<|J0 @R0<|J0 @ML<|J0 @MK<|J0 @MJ<|J0 @MH<|j_ f21 452191<|j_ f21 7775<|j_ f21 191<|J0 (aW f21 1) (F21.eq_1)
def adO:=J0 B21 ((cF f21 607))
def mq301:=ab f30 5
def B30:=j_ f30 2<|J0 @mq301<|J0 (aW f30 1) (F30.eq_1)
def B33:=j_ f33 2<|j_ f33 5<|j_ f33 11<|j_ f33 23<|J0 (aW f33 1) (F33.eq_1)
def B37:=j_ f37 2<|j_ f37 5<|J0 (aW f37 1) (F37.eq_1)
def B39:=j_ f39 2<|j_ f39 9<|j_ f39 37<|j_ f39 11<|j_ f39 263<|j_ f39 327<|j_ f39 47<|J0 (aW f39 1) (F39.eq_1)
def Wr:=J0 B39 ((cF f39 71))
def B42:=j_ f42 2<|j_ f42 5<|j_ f42 11<|j_ f42 39<|j_ f42 151<|j_ f42 599<|j_ f42 727<|j_ f42 2519<|j_ f42 3031<|j_ f42 10199<|j_ f42 12247<|j_ f42 40919<|j_ f42 49111<|j_ f42 163799<|j_ f42 196567<|j_ f42 655319<|j_ f42 786391<|j_ f42 2621399<|j_ f42 47<|J0 (aW f42 1) (F42.eq_1)
def B50:=j_ f50 2<|j_ f50 9<|j_ f50 37<|j_ f50 19<|j_ f50 139<|j_ f50 2251<|j_ f50 5323<|j_ f50 19659<|j_ f50 971<|j_ f50 23<|J0 (aW f50 1) (F50.eq_1)
def adM:=J0 B50 ((cF f50 75))
def B53:=j_ f53 2<|j_ f53 5<|j_ f53 19<|j_ f53 139<|j_ f53 2251<|j_ f53 3275<|j_ f53 971<|j_ f53 23<|J0 (aW f53 1) (F53.eq_1)
def adL:=J0 B53 ((cF f53 75))
def B56:=j_ f56 2<|j_ f56 9<|j_ f56 37<|j_ f56 19<|j_ f56 75<|j_ f56 23<|J0 (aW f56 1) (F56.eq_1)
def B58:=j_ f58 2<|j_ f58 5<|j_ f58 19<|j_ f58 43<|j_ f58 23<|J0 (aW f58 1) (F58.eq_1)
def B62:=j_ f62 2<|j_ f62 5<|j_ f62 19<|j_ f62 75<|j_ f62 23<|J0 (aW f62 1) (F62.eq_1)
def B64:=j_ f64 2<|j_ f64 5<|j_ f64 19<|j_ f64 75<|j_ f64 23<|j_ f64 79<|j_ f64 303<|j_ f64 95<|j_ f64 191<|j_ f64 383<|J0 (aW f64 1) (F64.eq_1)
def B71:=J0 @Rm<|j_ f71 5<|J0 (aW f71 1) (F71.eq_1)
def B74:=j_ f74 2<|j_ f74 9<|j_ f74 37<|j_ f74 19<|J0 @Rl<|J0 @Rk<|J0 @Rj<|j_ f74 11467<|j_ f74 40139<|j_ f74 971<|j_ f74 23<|J0 (aW f74 1) (F74.eq_1)
def adK:=J0 B74 ((cF f74 75))
def B77:=j_ f77 2<|j_ f77 9<|j_ f77 37<|j_ f77 19<|j_ f77 139<|j_ f77 2251<|j_ f77 5323<|j_ f77 19659<|j_ f77 971<|j_ f77 23<|J0 (aW f77 1) (F77.eq_1)
def adI:=J0 B77 ((cF f77 75))
def B83:=j_ f83 2<|j_ f83 9<|j_ f83 37<|j_ f83 11<|J0 (aW f83 1) (F83.eq_1)
def B87:=j_ f87 2<|j_ f87 5<|j_ f87 19<|j_ f87 75<|j_ f87 23<|j_ f87 47<|j_ f87 95<|j_ f87 191<|J0 (aW f87 1) (F87.eq_1)
def B90:=j_ f90 2<|j_ f90 5<|J0 (aW f90 1) (F90.eq_1)
def B92:=j_ f92 2<|j_ f92 5<|j_ f92 19<|j_ f92 75<|j_ f92 171<|j_ f92 23<|J0 (aW f92 1) (F92.eq_1)
def B97:=j_ f97 2<|j_ f97 9<|j_ f97 69<|j_ f97 1125<|j_ f97 4709<|j_ f97 19045<|j_ f97 9829<|j_ f97 38501<|j_ f97 11877<|j_ f97 40549<|j_ f97 485<|j_ f97 11<|J0 (aW f97 1) (F97.eq_1)
def Wq:=J0 B97 ((cF f97 37))
def ad1:=j_ f104 2<|j_ f104 9<|j_ f104 21<|j_ f104 77<|j_ f104 19<|j_ f104 75<|j_ f104 23<|J0 (aW f104 1) (adB.eq_1)
def ad0:=j_ f105 2<|j_ f105 9<|j_ f105 69<|j_ f105 1125<|j_ f105 4709<|j_ f105 5733<|j_ f105 20069<|j_ f105 77413<|j_ f105 24165<|j_ f105 48741<|j_ f105 163429<|j_ f105 485<|j_ f105 11<|J0 @G1<|j_ f105 151<|J0 @G0<|j_ f105 559<|j_ f105 9007<|j_ f105 21295<|j_ f105 45871<|j_ f105 160559<|j_ f105 3887<|J0 @GZ<|J0 (aW f105 1) (adA.eq_1)
def qY:=J0 ad0<|J0 (cF f105 37) ((cF f105 303))
def agc:=j_ f114 2<|j_ f114 5<|j_ f114 19<|j_ f114 139<|j_ f114 2251<|j_ f114 5323<|j_ f114 19659<|j_ f114 971<|j_ f114 23<|J0 (aW f114 1) (adu.eq_1)
def JY:=J0 agc ((cF f114 75))
def QS:=j_ f116 2<|j_ f116 5<|j_ f116 11<|j_ f116 39<|j_ f116 279<|j_ f116 1175<|j_ f116 343<|j_ f116 79<|j_ f116 303<|j_ f116 159<|j_ f116 607<|j_ f116 319<|j_ f116 1215<|j_ f116 383<|J0 (aW f116 1) (ads.eq_1)
def QP:=j_ f120 2<|j_ f120 9<|j_ f120 37<|j_ f120 19<|j_ f120 75<|j_ f120 23<|J0 (aW f120 1) (adp.eq_1)
def YX:=J0 @Nl<|J0 @Nj<|J0 @yi<|J0 @Eo<|J0 @Ni<|j_ f122 149<|j_ f122 597<|j_ f122 2389<|j_ f122 725<|j_ f122 11<|J0 (aW f122 1) (YO.eq_1)
def akV:=j_ f128 2<|j_ f128 5<|J0 (aW f128 1) (adi.eq_1)
def WC:=j_ f130 2<|j_ f130 9<|j_ f130 21<|j_ f130 77<|j_ f130 19<|j_ f130 75<|j_ f130 23<|J0 (aW f130 1) (adg.eq_1)
def MB:=j_ f136 2<|j_ f136 9<|J0 @Ek<|j_ f136 77<|J0 @Ej<|j_ f136 75<|J0 @Ei<|J0 @Eh<|J0 @MY<|J0 @Eg<|J0 @ze<|J0 @zd<|J0 @GU<|J0 @GT<|J0 @kZ<|J0 @pL<|j_ f136 2346175<|j_ f136 36949183<|j_ f136 53726399<|j_ f136 15977663<|J0 @tK<|j_ f136 639<|j_ f136 1407<|j_ f136 767<|J0 (aW f136 1) (F136.eq_1)
def aaA:=J0 MB<|J0 (yv f136 1297599) ((cF f136 1215))
def WB:=j_ f141 2<|j_ f141 9<|j_ f141 21<|j_ f141 77<|j_ f141 19<|j_ f141 75<|j_ f141 39<|j_ f141 151<|j_ f141 47<|j_ f141 95<|J0 (aW f141 1) (ac6.eq_1)
def af6:=j_ f144 2<|j_ f144 9<|j_ f144 37<|j_ f144 11<|J0 (aW f144 1) (ac3.eq_1)
def af3:=j_ f166 2<|j_ f166 5<|j_ f166 19<|j_ f166 139<|j_ f166 2251<|j_ f166 5323<|j_ f166 36043<|j_ f166 576715<|j_ f166 1363147<|j_ f166 9227467<|j_ f166 147639499<|j_ f166 348966091<|j_ f166 751619275<|j_ f166 2630667467<|j_ f166 63753419<|j_ f166 249035<|j_ f166 971<|j_ f166 23<|J0 (aW f166 1) (acZ.eq_1)
def DX:=J0 af3<|J0 (ru3 f166 5033163)<|J0 (yv f166 19659) ((cF f166 75))
def adV:=j_ f172 2<|j_ f172 33<|j_ f172 73<|j_ f172 57<|J0 (aW f172 1) (acT.eq_1)
def Wx:=J0 adV ((cF f172 9))
def akM:=j_ f173 2<|j_ f173 5<|j_ f173 11<|j_ f173 23<|J0 (aW f173 1) (acS.eq_1)
def adT:=j_ f176 2<|j_ f176 33<|j_ f176 73<|j_ f176 57<|J0 (aW f176 1) (acP.eq_1)
def Ww:=J0 adT ((cF f176 9))
def af1:=j_ f188 2<|j_ f188 9<|j_ f188 37<|j_ f188 19<|j_ f188 75<|j_ f188 39<|j_ f188 279<|j_ f188 4503<|j_ f188 10647<|j_ f188 39319<|j_ f188 1943<|j_ f188 79<|j_ f188 559<|j_ f188 9007<|j_ f188 21295<|j_ f188 78639<|j_ f188 3887<|j_ f188 95<|J0 (aW f188 1) (F188.eq_1)
def DV:=J0 af1<|J0 (cF f188 151) ((cF f188 303))
theorem c6:Wc 6 F6 (aA f6 1):=am rfl rfl
theorem c10:Wc 10 F10 (aA f10 1):=am rfl rfl
theorem c13:Wc 13 F13 (aA f13 1):=am rfl rfl
theorem c15:Wc 15 F15 (aA f15 1):=am rfl rfl
theorem c16:Wc 16 F16 (aA f16 1):=am rfl rfl
theorem c18:Wc 18 F18 (aA f18 1):=am rfl rfl
theorem c21:Wc 21 F21 (aA f21 1):=am rfl rfl
theorem c30:Wc 30 F30 (aA f30 1):=am rfl rfl
theorem c33:Wc 33 F33 (aA f33 1):=am rfl rfl
theorem c37:Wc 37 F37 (aA f37 1):=am rfl rfl
theorem c39:Wc 39 F39 (aA f39 1):=am rfl rfl
theorem c42:Wc 42 F42 (aA f42 1):=am rfl rfl
theorem c50:Wc 50 F50 (aA f50 1):=am rfl rfl
theorem c53:Wc 53 F53 (aA f53 1):=am rfl rfl
theorem c56:Wc 56 F56 (aA f56 1):=am rfl rfl
theorem c58:Wc 58 F58 (aA f58 1):=am rfl rfl
theorem c62:Wc 62 F62 (aA f62 1):=am rfl rfl
theorem c64:Wc 64 F64 (aA f64 1):=am rfl rfl
theorem c71:Wc 71 F71 (aA f71 1):=am rfl rfl
theorem c74:Wc 74 F74 (aA f74 1):=am rfl rfl
theorem c77:Wc 77 F77 (aA f77 1):=am rfl rfl
theorem c83:Wc 83 F83 (aA f83 1):=am rfl rfl
theorem c87:Wc 87 F87 (aA f87 1):=am rfl rfl
theorem c90:Wc 90 F90 (aA f90 1):=am rfl rfl
theorem c92:Wc 92 F92 (aA f92 1):=am rfl rfl
theorem c97:Wc 97 F97 (aA f97 1):=am rfl rfl
theorem aiW:Wc 104 adB (aA f104 1):=am rfl rfl
theorem aiV:Wc 105 adA (aA f105 1):=am rfl rfl
theorem aiO:Wc 114 adu (aA f114 1):=am rfl rfl
theorem afq:Wc 116 ads (aA f116 1):=am rfl rfl
theorem aiK:Wc 120 adp (aA f120 1):=am rfl rfl
theorem aiI:Wc 122 YO (aA f122 1):=am rfl rfl
theorem aiF:Wc 128 adi (aA f128 1):=am rfl rfl
theorem aiD:Wc 130 adg (aA f130 1):=am rfl rfl
theorem aix:Wc 136 F136 (aA f136 1):=am rfl rfl
theorem ais:Wc 141 ac6 (aA f141 1):=am rfl rfl
theorem aip:Wc 144 ac3 (aA f144 1):=am rfl rfl
theorem ail:Wc 166 acZ (aA f166 1):=am rfl rfl
theorem afn:Wc 172 acT (aA f172 1):=am rfl rfl
theorem aif:Wc 173 acS (aA f173 1):=am rfl rfl
theorem afl:Wc 176 acP (aA f176 1):=am rfl rfl
theorem aib:Wc 188 F188 (aA f188 1):=am rfl rfl
end
end
end Go.Iso.Gen
