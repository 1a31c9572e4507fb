/-
  the code that the claim reaches, for the evaluator.
-/
import Derived.Test.YtagpgnldjjmhkacGreatDoorGenH
set_option linter.unusedSimpArgs false
set_option linter.unusedVariables false
set_option maxRecDepth 100000
set_option maxHeartbeats 4000000
set_option linter.defProp false
namespace Go.Iso.Gen
open Go.Proofs Go.Proofs.Tryz
noncomputable section
section
variable {lo:Nat}{rd:Option Nat}{fr:Fr}{H:Heap}{Q:AP}{args:List IV}
def Xu:=ab f4 2
def Xt:=ab f4 267
def Xs:=ab f4 1099
def Xr:=ab f4 2635
def Xq:=ab f4 9803
def Xp:=ab f4 11851
def Xo:=ab f4 24139
def Qq:=ab f4 48715
def QC:=ab f38 2
def QB:=ab f38 9
def QA:=ab f39 2
def Qz:=ab f39 9
def Qy:=ab f39 11
def Qv:=ab f42 2
def Qu:=ab f42 5
def Qt:=ab f42 11
def Qp:=ab f70 2
def Jc:=ab f70 9
def Jb:=ab f70 37
def Qo:=ab f70 149
def Qn:=ab f70 597
def Qm:=ab f70 1365
def Ql:=ab f70 181
def Lw:=ab f70 757
def Lu:=ab f70 2549
def Lo:=ab f97 39
def Ln:=ab f97 79
def Lm:=ab f97 95
def Dw:=ab f130 17
def L6:=ab f130 281
def L4:=ab f130 665
def LZ:=ab f130 1433
def FP:=ab f130 121
def xh:=ab f136 279
def Dq:=ab f136 4503
def Dp:=ab f136 10647
def Do:=ab f136 39319
def FM:=ab f136 88471
def xW:=ab f136 47511
def xV:=ab f136 96663
def xU:=ab f136 194967
def xT:=ab f136 1178007
def FL:=ab f136 18479511
def FK:=ab f136 43645335
def FJ:=ab f136 7993751
def FI:=ab f136 1943
def B4:=J0 @Xu<|j_ f4 5<|j_ f4 19<|J0 @Xt<|J0 @Xs<|J0 @Xr<|J0 @Xq<|j_ f4 38475<|J0 @Xp<|J0 @Xo<|J0 @Qq<|j_ f4 97867<|j_ f4 196171<|j_ f4 459<|j_ f4 23<|J0 (aU f4 1) (F4.eq_1)
def BL4:=J0 B4 ((cH f4 75))
def B11:=j_ f11 2<|j_ f11 9<|j_ f11 37<|j_ f11 19<|j_ f11 43<|j_ f11 155<|j_ f11 23<|j_ f11 79<|j_ f11 559<|j_ f11 9007<|j_ f11 21295<|j_ f11 45871<|j_ f11 160559<|j_ f11 3887<|j_ f11 95<|J0 (aU f11 1) (F11.eq_1)
def Xg:=J0 B11 ((cH f11 303))
def B15:=j_ f15 2<|j_ f15 5<|J0 (aU f15 1) (F15.eq_1)
def B18:=j_ f18 2<|j_ f18 5<|J0 (aU f18 1) (F18.eq_1)
def B21:=j_ f21 2<|j_ f21 9<|j_ f21 37<|j_ f21 19<|j_ f21 267<|j_ f21 1099<|j_ f21 4683<|j_ f21 459<|j_ f21 23<|J0 (aU f21 1) (F21.eq_1)
def ado:=J0 B21 ((cH f21 75))
def B22:=j_ f22 2<|j_ f22 5<|j_ f22 19<|j_ f22 75<|j_ f22 107<|j_ f22 23<|J0 (aU f22 1) (F22.eq_1)
def B25:=j_ f25 2<|j_ f25 9<|j_ f25 37<|j_ f25 19<|j_ f25 43<|j_ f25 155<|j_ f25 39<|j_ f25 151<|j_ f25 79<|j_ f25 559<|j_ f25 9007<|j_ f25 21295<|j_ f25 45871<|j_ f25 160559<|j_ f25 3887<|j_ f25 159<|j_ f25 351<|j_ f25 1247<|j_ f25 319<|j_ f25 1215<|j_ f25 639<|j_ f25 4479<|j_ f25 72063<|j_ f25 170367<|j_ f25 629119<|j_ f25 31103<|j_ f25 767<|J0 (aU f25 1) (F25.eq_1)
def Lg:=J0 B25<|J0 (cH f25 303) ((cH f25 2431))
def B36:=j_ f36 2<|j_ f36 9<|j_ f36 21<|j_ f36 77<|j_ f36 11<|j_ f36 23<|j_ f36 79<|j_ f36 559<|j_ f36 9007<|j_ f36 13103<|j_ f36 3887<|j_ f36 95<|J0 (aU f36 1) (F36.eq_1)
def abf:=J0 B36 ((cH f36 303))
def B38:=J0 @QC<|J0 @QB<|j_ f38 69<|j_ f38 1125<|j_ f38 2661<|j_ f38 9829<|j_ f38 485<|j_ f38 11<|J0 (aU f38 1) (F38.eq_1)
def Xe:=J0 B38 ((cH f38 37))
def B39:=J0 @QA<|J0 @Qz<|j_ f39 37<|J0 @Qy<|j_ f39 23<|j_ f39 47<|J0 (aU f39 1) (F39.eq_1)
def B42:=J0 @Qv<|J0 @Qu<|J0 @Qt<|j_ f42 263<|j_ f42 583<|j_ f42 1351<|j_ f42 2887<|j_ f42 3911<|j_ f42 47<|J0 (aU f42 1) (F42.eq_1)
def abe:=J0 B42 ((cH f42 71))
def B49:=j_ f49 2<|j_ f49 5<|j_ f49 11<|j_ f49 39<|j_ f49 279<|j_ f49 4503<|j_ f49 6551<|j_ f49 1943<|j_ f49 47<|J0 (aU f49 1) (F49.eq_1)
def adl:=J0 B49 ((cH f49 151))
def B52:=j_ f52 2<|j_ f52 5<|j_ f52 19<|j_ f52 139<|j_ f52 2251<|j_ f52 5323<|j_ f52 11467<|j_ f52 72907<|j_ f52 1154251<|j_ f52 2727115<|j_ f52 3775691<|j_ f52 498891<|j_ f52 971<|j_ f52 23<|J0 (aU f52 1) (F52.eq_1)
def IU:=J0 B52<|J0 (DP f52 40139) ((cH f52 75))
def B59:=j_ f59 2<|j_ f59 5<|j_ f59 19<|j_ f59 75<|j_ f59 23<|J0 (aU f59 1) (F59.eq_1)
def B61:=j_ f61 2<|j_ f61 5<|j_ f61 19<|j_ f61 75<|j_ f61 23<|j_ f61 79<|j_ f61 303<|j_ f61 95<|j_ f61 191<|j_ f61 383<|J0 (aU f61 1) (F61.eq_1)
def B70:=J0 @Qp<|J0 @Jc<|J0 @Jb<|J0 @Qo<|J0 @Qn<|J0 @Qm<|j_ f70 725<|J0 @Ql<|j_ f70 629<|j_ f70 1397<|J0 @Lw<|J0 @Lu<|j_ f70 5621<|j_ f70 11<|J0 (aU f70 1) (F70.eq_1)
def B73:=j_ f73 2<|j_ f73 5<|J0 (aU f73 1) (F73.eq_1)
def B77:=j_ f77 2<|j_ f77 9<|j_ f77 37<|j_ f77 11<|J0 (aU f77 1) (F77.eq_1)
def B83:=j_ f83 2<|j_ f83 5<|J0 (aU f83 1) (F83.eq_1)
def B85:=j_ f85 2<|j_ f85 5<|j_ f85 19<|j_ f85 75<|j_ f85 171<|j_ f85 23<|J0 (aU f85 1) (F85.eq_1)
def B90:=j_ f90 2<|j_ f90 9<|j_ f90 69<|j_ f90 1125<|j_ f90 4709<|j_ f90 19045<|j_ f90 9829<|j_ f90 38501<|j_ f90 11877<|j_ f90 40549<|j_ f90 485<|j_ f90 11<|J0 (aU f90 1) (F90.eq_1)
def UK:=J0 B90 ((cH f90 37))
def B93:=j_ f93 2<|j_ f93 5<|j_ f93 11<|j_ f93 23<|J0 (aU f93 1) (F93.eq_1)
def B95:=j_ f95 2<|j_ f95 9<|j_ f95 21<|j_ f95 77<|j_ f95 19<|j_ f95 75<|j_ f95 39<|j_ f95 151<|j_ f95 47<|j_ f95 159<|j_ f95 351<|j_ f95 191<|J0 (aU f95 1) (F95.eq_1)
def B97:=j_ f97 2<|j_ f97 9<|j_ f97 69<|j_ f97 1125<|j_ f97 4709<|j_ f97 5733<|j_ f97 20069<|j_ f97 77413<|j_ f97 24165<|j_ f97 48741<|j_ f97 163429<|j_ f97 485<|j_ f97 11<|J0 @Lo<|j_ f97 151<|J0 @Ln<|j_ f97 559<|j_ f97 9007<|j_ f97 21295<|j_ f97 45871<|j_ f97 160559<|j_ f97 3887<|J0 @Lm<|J0 (aU f97 1) (F97.eq_1)
def A1:=J0 B97<|J0 (cH f97 37) ((cH f97 303))
def adK:=j_ f107 2<|j_ f107 5<|j_ f107 19<|j_ f107 139<|j_ f107 2251<|j_ f107 5323<|j_ f107 19659<|j_ f107 971<|j_ f107 23<|J0 (aU f107 1) (aa5.eq_1)
def IX:=J0 adK ((cH f107 75))
def P0:=j_ f109 2<|j_ f109 5<|j_ f109 11<|j_ f109 39<|j_ f109 279<|j_ f109 1175<|j_ f109 343<|j_ f109 79<|j_ f109 303<|j_ f109 159<|j_ f109 607<|j_ f109 319<|j_ f109 1215<|j_ f109 383<|J0 (aU f109 1) (aa3.eq_1)
def Xk:=j_ f116 2<|j_ f116 9<|j_ f116 37<|j_ f116 11<|J0 (aU f116 1) (aaZ.eq_1)
def aie:=j_ f121 2<|j_ f121 5<|j_ f121 19<|j_ f121 75<|j_ f121 23<|j_ f121 47<|j_ f121 95<|j_ f121 191<|J0 (aU f121 1) (aaV.eq_1)
def PZ:=j_ f125 2<|j_ f125 9<|j_ f125 37<|j_ f125 19<|j_ f125 75<|j_ f125 39<|j_ f125 87<|j_ f125 311<|j_ f125 79<|j_ f125 175<|j_ f125 623<|j_ f125 95<|j_ f125 319<|j_ f125 1215<|j_ f125 383<|J0 (aU f125 1) (aaR.eq_1)
def adG:=j_ f130 2<|J0 @Dw<|J0 @L6<|J0 @L4<|J0 @LZ<|j_ f130 9113<|j_ f130 144281<|j_ f130 209817<|j_ f130 62361<|J0 @FP<|J0 (aU f130 1) (aaM.eq_1)
def UV:=J0 adG<|J0 (DP f130 5017) ((cH f130 9))
def Lh:=j_ f136 2<|j_ f136 9<|j_ f136 21<|j_ f136 77<|j_ f136 11<|j_ f136 39<|J0 @xh<|J0 @Dq<|J0 @Dp<|J0 @Do<|J0 @FM<|J0 @xW<|J0 @xV<|J0 @xU<|J0 @xT<|J0 @FL<|J0 @FK<|j_ f136 295303575<|j_ f136 4724488599<|j_ f136 11166939543<|j_ f136 24051841431<|j_ f136 32641776023<|j_ f136 2040134039<|J0 @FJ<|J0 @FI<|j_ f136 79<|j_ f136 175<|j_ f136 95<|J0 (aU f136 1) (F136.eq_1)
def UU:=J0 Lh<|J0 (ru3 f136 161085847)<|J0 (DP f136 653719) ((cH f136 151))
def adE:=j_ f142 2<|j_ f142 9<|j_ f142 37<|j_ f142 11<|J0 (aU f142 1) (aaC.eq_1)
def adC:=j_ f166 2<|j_ f166 5<|j_ f166 19<|j_ f166 139<|j_ f166 2251<|j_ f166 5323<|j_ f166 36043<|j_ f166 576715<|j_ f166 1363147<|j_ f166 9227467<|j_ f166 147639499<|j_ f166 348966091<|j_ f166 751619275<|j_ f166 2630667467<|j_ f166 63753419<|j_ f166 249035<|j_ f166 971<|j_ f166 23<|J0 (aU f166 1) (aay.eq_1)
def C2:=J0 adC<|J0 (ru3 f166 5033163)<|J0 (DP f166 19659) ((cH f166 75))
def abn:=j_ f172 2<|j_ f172 33<|j_ f172 73<|j_ f172 57<|J0 (aU f172 1) (aas.eq_1)
def UT:=J0 abn ((cH f172 9))
def abm:=j_ f174 2<|j_ f174 9<|j_ f174 69<|j_ f174 1125<|j_ f174 2661<|j_ f174 5733<|j_ f174 11877<|j_ f174 15973<|j_ f174 485<|j_ f174 11<|J0 (aU f174 1) (aaq.eq_1)
def qY:=J0 abm ((cH f174 37))
def ahZ:=j_ f192 2<|j_ f192 5<|j_ f192 11<|j_ f192 23<|J0 (aU f192 1) (aaj.eq_1)
def adx:=j_ f193 2<|j_ f193 5<|j_ f193 131<|j_ f193 163<|j_ f193 23<|J0 (aU f193 1) (aai.eq_1)
def UO:=J0 adx ((cH f193 35))
def adv:=j_ f199 2<|j_ f199 33<|j_ f199 73<|j_ f199 57<|J0 (aU f199 1) (aae.eq_1)
def Yb:=J0 adv ((cH f199 9))
theorem c4:Wc 4 F4 (ay f4 1):=am rfl rfl
theorem c11:Wc 11 F11 (ay f11 1):=am rfl rfl
theorem c15:Wc 15 F15 (ay f15 1):=am rfl rfl
theorem c18:Wc 18 F18 (ay f18 1):=am rfl rfl
theorem c21:Wc 21 F21 (ay f21 1):=am rfl rfl
theorem c22:Wc 22 F22 (ay f22 1):=am rfl rfl
theorem c25:Wc 25 F25 (ay f25 1):=am rfl rfl
theorem c36:Wc 36 F36 (ay f36 1):=am rfl rfl
theorem c38:Wc 38 F38 (ay f38 1):=am rfl rfl
theorem c39:Wc 39 F39 (ay f39 1):=am rfl rfl
theorem c42:Wc 42 F42 (ay f42 1):=am rfl rfl
theorem c49:Wc 49 F49 (ay f49 1):=am rfl rfl
theorem c52:Wc 52 F52 (ay f52 1):=am rfl rfl
theorem c59:Wc 59 F59 (ay f59 1):=am rfl rfl
theorem c61:Wc 61 F61 (ay f61 1):=am rfl rfl
theorem c70:Wc 70 F70 (ay f70 1):=am rfl rfl
theorem c73:Wc 73 F73 (ay f73 1):=am rfl rfl
theorem c77:Wc 77 F77 (ay f77 1):=am rfl rfl
theorem c83:Wc 83 F83 (ay f83 1):=am rfl rfl
theorem c85:Wc 85 F85 (ay f85 1):=am rfl rfl
theorem c90:Wc 90 F90 (ay f90 1):=am rfl rfl
theorem c93:Wc 93 F93 (ay f93 1):=am rfl rfl
theorem c95:Wc 95 F95 (ay f95 1):=am rfl rfl
theorem c97:Wc 97 F97 (ay f97 1):=am rfl rfl
theorem agd:Wc 107 aa5 (ay f107 1):=am rfl rfl
theorem ac3:Wc 109 aa3 (ay f109 1):=am rfl rfl
theorem af8:Wc 116 aaZ (ay f116 1):=am rfl rfl
theorem af3:Wc 121 aaV (ay f121 1):=am rfl rfl
theorem af2:Wc 125 aaR (ay f125 1):=am rfl rfl
theorem afX:Wc 130 aaM (ay f130 1):=am rfl rfl
theorem afR:Wc 136 F136 (ay f136 1):=am rfl rfl
theorem afL:Wc 142 aaC (ay f142 1):=am rfl rfl
theorem afF:Wc 166 aay (ay f166 1):=am rfl rfl
theorem ac0:Wc 172 aas (ay f172 1):=am rfl rfl
theorem acZ:Wc 174 aaq (ay f174 1):=am rfl rfl
theorem afr:Wc 192 aaj (ay f192 1):=am rfl rfl
theorem afq:Wc 193 aai (ay f193 1):=am rfl rfl
theorem afm:Wc 199 aae (ay f199 1):=am rfl rfl
end
end
end Go.Iso.Gen
