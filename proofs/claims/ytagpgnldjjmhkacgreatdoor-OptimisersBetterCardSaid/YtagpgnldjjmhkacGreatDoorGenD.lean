/-
  the code that the claim reaches, for the evaluator.
-/
import Derived.Test.YtagpgnldjjmhkacGreatDoorGenH
set_option linter.unusedSimpArgs false
set_option linter.unusedVariables false
set_option maxRecDepth 100000
set_option maxHeartbeats 4000000
set_option linter.defProp false
namespace Go.Iso.Gen
open Go.Proofs Go.Proofs.Tryz
noncomputable section
section
variable {lo:Nat}{rd:Option Nat}{fr:Fr}{H:Heap}{Q:AP}{args:List IV}
def Xm:=ab f9 11
def Jn:=ab f13 2
def Jm:=ab f13 5
def Jl:=ab f13 11
def Jk:=ab f13 23
def Jj:=ab f13 79
def QP:=ab f13 175
def Jf:=ab f37 2
def Je:=ab f37 9
def Jd:=ab f37 37
def QE:=ab f37 19
def QD:=ab f37 75
def Qx:=ab f41 2
def Qw:=ab f41 9
def Qs:=ab f44 95
def Qr:=ab f44 319
def C7:=ab f44 4287
def LE:=ab f44 9407
def LD:=ab f44 38079
def C8:=ab f44 79039
def LC:=ab f44 308415
def LB:=ab f44 95423
def LA:=ab f44 193727
def Lz:=ab f44 259263
def Lx:=ab f44 383
def FX:=ab f103 639
def Md:=ab f112 2
def Mb:=ab f112 5
def Dz:=ab f112 19
def Dy:=ab f112 75
def Dx:=ab f112 363
def x9:=ab f112 23
def xZ:=ab f112 79
def FU:=ab f112 175
def FT:=ab f112 95
def Dm:=ab f170 271
def LU:=ab f170 591
def xS:=ab f170 4943
def xR:=ab f170 11087
def FH:=ab f170 23375
def xQ:=ab f170 3919
def Dg:=ab f190 33
def LS:=ab f190 137
def LR:=ab f190 57
def B6:=j_ f6 2<|j_ f6 9<|j_ f6 37<|j_ f6 11<|j_ f6 39<|j_ f6 151<|j_ f6 599<|j_ f6 2391<|j_ f6 17751<|j_ f6 288087<|j_ f6 1205591<|j_ f6 4875607<|j_ f6 6972759<|j_ f6 2516311<|j_ f6 3040599<|j_ f6 10380631<|j_ f6 22963543<|j_ f6 8283479<|j_ f6 124247<|j_ f6 2903<|j_ f6 5975<|j_ f6 47<|J0 (aU f6 1) (F6.eq_1)
def Xb:=J0 B6 ((cH f6 9559))
theorem gs1{m all}:∀(k i){l},iH m all l i=iH m all (l.take k) i++iH m all (l.drop k) (i+k)|0,_,_=>by simp[iH]|k+1,i,[]=>by simp[iH]|k+1,i,_::_=>by rw[iH,gs1 k];simp[iH];congr 1;omega
theorem gs0{f:Func}{c p x}{o:Array Oper}{L A B C l M}(h:f.body=some c)(h0:pj0 64 p c=.region x o true)(h1:o.toList.mapM (il PgT o)=some L)(h2:fA o.toList []=M)(h3:iH M L (L.take 25) 0=A)(h5:iH M L ((L.drop 25).take 25) 25=B)(h6:iH M L ((L.drop 25).drop 25) 50=C)(h4:parts M (A++(B++C)) 0 []=l):gR0 f p=.ops l:=by unfold gR0 cR0;rw[h];simp only[h0];rw[h1];simp only[Option.map_some,Option.getD_some,if_true,h2,<-h4,<-h3,<-h5,<-h6];rw[gs1 25 0,gs1 25 (0+25)]
def mq97:=ab f9 383 (gs0 rfl rfl (by cbv) (by cbv) (by cbv) (by cbv) (by cbv) (by cbv))
def B9:=j_ f9 2<|j_ f9 5<|J0 @Xm<|j_ f9 23<|j_ f9 47<|j_ f9 95<|j_ f9 191<|J0 @mq97<|J0 (aU f9 1) (F9.eq_1)
def Yh:=J0 @Jn<|J0 @Jm<|J0 @Jl<|J0 @Jk<|J0 @Jj<|J0 @QP<|j_ f13 159<|j_ f13 607<|j_ f13 2399<|j_ f13 4959<|j_ f13 15199<|j_ f13 10079<|j_ f13 20319<|j_ f13 61279<|j_ f13 40799<|j_ f13 48991<|j_ f13 163679<|j_ f13 191<|J0 (aU f13 1) (F13.eq_1)
def B24:=j_ f24 2<|j_ f24 5<|j_ f24 11<|j_ f24 39<|j_ f24 151<|j_ f24 599<|j_ f24 727<|j_ f24 2519<|j_ f24 3031<|j_ f24 10199<|j_ f24 12247<|j_ f24 40919<|j_ f24 49111<|j_ f24 163799<|j_ f24 196567<|j_ f24 655319<|j_ f24 786391<|j_ f24 2621399<|j_ f24 47<|J0 (aU f24 1) (F24.eq_1)
def B33:=j_ f33 2<|j_ f33 5<|j_ f33 19<|j_ f33 75<|j_ f33 39<|j_ f33 151<|j_ f33 599<|j_ f33 2391<|j_ f33 9559<|j_ f33 2903<|j_ f33 727<|j_ f33 2519<|j_ f33 47<|J0 (aU f33 1) (F33.eq_1)
def B37:=J0 @Jf<|J0 @Je<|J0 @Jd<|J0 @QE<|J0 @QD<|j_ f37 23<|J0 (aU f37 1) (F37.eq_1)
def Yf:=J0 @Qx<|J0 @Qw<|j_ f41 21<|j_ f41 11<|j_ f41 39<|j_ f41 279<|j_ f41 919<|j_ f41 727<|j_ f41 1495<|j_ f41 2007<|j_ f41 47<|J0 (aU f41 1) (F41.eq_1)
def B44:=j_ f44 2<|j_ f44 9<|j_ f44 21<|j_ f44 77<|j_ f44 11<|j_ f44 23<|j_ f44 47<|J0 @Qs<|J0 @Qr<|J0 @C7<|J0 @LE<|J0 @LD<|j_ f44 545983<|j_ f44 1201343<|j_ f44 939199<|J0 @C8<|J0 @LC<|J0 @LB<|J0 @LA<|J0 @Lz<|J0 @Lx<|J0 (aU f44 1) (F44.eq_1)
def Xd:=J0 B44<|J0 (DP f44 152767) ((cH f44 1215))
def B48:=j_ f48 2<|j_ f48 9<|j_ f48 37<|j_ f48 19<|j_ f48 139<|j_ f48 2251<|j_ f48 5323<|j_ f48 19659<|j_ f48 971<|j_ f48 23<|J0 (aU f48 1) (F48.eq_1)
def abd:=J0 B48 ((cH f48 75))
def B51:=j_ f51 2<|j_ f51 5<|j_ f51 19<|j_ f51 139<|j_ f51 2251<|j_ f51 3275<|j_ f51 971<|j_ f51 23<|J0 (aU f51 1) (F51.eq_1)
def abc:=J0 B51 ((cH f51 75))
def B54:=j_ f54 2<|j_ f54 5<|j_ f54 19<|j_ f54 43<|j_ f54 23<|J0 (aU f54 1) (F54.eq_1)
def B57:=j_ f57 2<|j_ f57 5<|j_ f57 19<|j_ f57 75<|j_ f57 39<|j_ f57 87<|j_ f57 311<|j_ f57 47<|J0 (aU f57 1) (F57.eq_1)
def B63:=j_ f63 2<|j_ f63 9<|j_ f63 21<|j_ f63 77<|j_ f63 11<|J0 (aU f63 1) (F63.eq_1)
def B65:=j_ f65 2<|j_ f65 5<|j_ f65 11<|j_ f65 23<|J0 (aU f65 1) (F65.eq_1)
def B68:=j_ f68 2<|j_ f68 5<|J0 (aU f68 1) (F68.eq_1)
def B71:=j_ f71 2<|j_ f71 9<|j_ f71 69<|j_ f71 1125<|j_ f71 2661<|j_ f71 9829<|j_ f71 485<|j_ f71 11<|J0 (aU f71 1) (F71.eq_1)
def W9:=J0 B71 ((cH f71 37))
def B81:=j_ f81 2<|j_ f81 9<|j_ f81 37<|j_ f81 11<|j_ f81 263<|j_ f81 327<|j_ f81 47<|J0 (aU f81 1) (F81.eq_1)
def UL:=J0 B81 ((cH f81 71))
def B88:=j_ f88 2<|j_ f88 9<|j_ f88 37<|j_ f88 11<|j_ f88 23<|J0 (aU f88 1) (F88.eq_1)
def B92:=j_ f92 2<|j_ f92 9<|j_ f92 21<|j_ f92 77<|j_ f92 11<|j_ f92 23<|j_ f92 47<|j_ f92 95<|j_ f92 191<|j_ f92 383<|J0 (aU f92 1) (F92.eq_1)
def B94:=j_ f94 2<|j_ f94 5<|j_ f94 11<|j_ f94 23<|J0 (aU f94 1) (F94.eq_1)
def B96:=j_ f96 2<|j_ f96 9<|j_ f96 21<|j_ f96 77<|j_ f96 19<|j_ f96 75<|j_ f96 23<|J0 (aU f96 1) (F96.eq_1)
def B99:=j_ f99 2<|j_ f99 5<|j_ f99 19<|j_ f99 75<|j_ f99 23<|j_ f99 47<|j_ f99 159<|j_ f99 351<|j_ f99 191<|J0 (aU f99 1) (F99.eq_1)
def Lj:=j_ f100 2<|j_ f100 5<|j_ f100 19<|j_ f100 75<|j_ f100 39<|j_ f100 151<|j_ f100 47<|j_ f100 95<|j_ f100 191<|j_ f100 639<|j_ f100 2431<|j_ f100 767<|j_ f100 1535<|j_ f100 3071<|j_ f100 6143<|J0 (aU f100 1) (aa9.eq_1)
def xc:=j_ f103 2<|j_ f103 9<|j_ f103 21<|j_ f103 77<|j_ f103 19<|j_ f103 75<|j_ f103 23<|j_ f103 79<|j_ f103 303<|j_ f103 159<|j_ f103 607<|j_ f103 191<|J0 @FX<|j_ f103 1407<|j_ f103 767<|J0 (aU f103 1) (F103.eq_1)
def aig:=j_ f111 2<|j_ f111 5<|J0 (aU f111 1) (aa2.eq_1)
def U0:=J0 @Md<|J0 @Mb<|J0 @Dz<|J0 @Dy<|j_ f112 299<|j_ f112 1195<|j_ f112 2731<|j_ f112 1451<|J0 @Dx<|j_ f112 1259<|J0 @x9<|J0 @xZ<|J0 @FU<|J0 @FT<|j_ f112 191<|j_ f112 639<|j_ f112 1407<|j_ f112 767<|J0 (aU f112 1) (F112.eq_1)
def I1:=j_ f117 2<|j_ f117 9<|j_ f117 37<|j_ f117 19<|j_ f117 43<|j_ f117 155<|j_ f117 23<|J0 (aU f117 1) (aaY.eq_1)
def By:=j_ f122 2<|j_ f122 5<|J0 (aU f122 1) (aaU.eq_1)
def adJ:=j_ f123 2<|j_ f123 5<|J0 (aU f123 1) (aaT.eq_1)
def aid:=j_ f126 2<|j_ f126 5<|J0 (aU f126 1) (aaQ.eq_1)
def adH:=j_ f128 2<|j_ f128 17<|j_ f128 281<|j_ f128 409<|j_ f128 121<|J0 (aU f128 1) (aaO.eq_1)
def Ye:=J0 adH ((cH f128 9))
def aib:=j_ f131 1<|J0 (aU f131 1) (aaL.eq_1)
def ah9:=j_ f133 2<|j_ f133 5<|j_ f133 11<|j_ f133 23<|J0 (aU f133 1) (aaJ.eq_1)
def Fs:=j_ f137 2<|j_ f137 5<|j_ f137 19<|j_ f137 43<|j_ f137 23<|j_ f137 79<|j_ f137 303<|j_ f137 159<|j_ f137 351<|j_ f137 479<|j_ f137 191<|J0 (aU f137 1) (aaH.eq_1)
def UX:=j_ f139 2<|j_ f139 9<|j_ f139 21<|j_ f139 77<|j_ f139 19<|j_ f139 75<|j_ f139 39<|j_ f139 151<|j_ f139 47<|j_ f139 95<|J0 (aU f139 1) (aaF.eq_1)
def ah8:=j_ f141 2<|j_ f141 5<|j_ f141 11<|j_ f141 23<|J0 (aU f141 1) (aaD.eq_1)
def adD:=j_ f165 2<|j_ f165 9<|j_ f165 69<|j_ f165 1125<|j_ f165 2661<|j_ f165 18021<|j_ f165 288357<|j_ f165 681573<|j_ f165 2516581<|j_ f165 124517<|j_ f165 485<|j_ f165 11<|J0 (aU f165 1) (aaz.eq_1)
def C3:=J0 adD<|J0 (DP f165 9829) ((cH f165 37))
def ah4:=j_ f169 2<|j_ f169 5<|J0 (aU f169 1) (aav.eq_1)
def abo:=j_ f170 2<|j_ f170 5<|j_ f170 131<|j_ f170 291<|j_ f170 675<|j_ f170 931<|j_ f170 23<|J0 @Dm<|J0 @LU<|j_ f170 16719<|j_ f170 37199<|j_ f170 86351<|j_ f170 119119<|J0 @xS<|J0 @xR<|J0 @FH<|J0 @xQ<|J0 (aU f170 1) (aau.eq_1)
def C1:=J0 abo<|J0 (cH f170 35)<|J0 (DP f170 4431) ((cH f170 79))
def ah2:=j_ f175 2<|j_ f175 5<|j_ f175 11<|j_ f175 23<|J0 (aU f175 1) (aap.eq_1)
def ah1:=j_ f178 2<|j_ f178 5<|j_ f178 11<|j_ f178 23<|J0 (aU f178 1) (aam.eq_1)
def adz:=j_ f189 2<|j_ f189 9<|j_ f189 37<|j_ f189 11<|J0 (aU f189 1) (aal.eq_1)
def ady:=j_ f190 2<|J0 @Dg<|J0 @LS<|j_ f190 2121<|j_ f190 4681<|j_ f190 3657<|J0 @LR<|J0 (aU f190 1) (aak.eq_1)
def UP:=J0 ady<|J0 (DP f190 585) ((cH f190 9))
def adw:=j_ f198 2<|j_ f198 5<|j_ f198 131<|j_ f198 291<|j_ f198 1187<|j_ f198 1699<|j_ f198 1443<|j_ f198 1955<|j_ f198 15<|J0 (aU f198 1) (aaf.eq_1)
def IW:=J0 adw ((cH f198 35))
theorem c6:Wc 6 F6 (ay f6 1):=am rfl rfl
theorem c9:Wc 9 F9 (ay f9 1):=am rfl rfl
theorem c13:Wc 13 F13 (ay f13 1):=am rfl rfl
theorem c24:Wc 24 F24 (ay f24 1):=am rfl rfl
theorem c33:Wc 33 F33 (ay f33 1):=am rfl rfl
theorem c37:Wc 37 F37 (ay f37 1):=am rfl rfl
theorem c41:Wc 41 F41 (ay f41 1):=am rfl rfl
theorem c44:Wc 44 F44 (ay f44 1):=am rfl rfl
theorem c48:Wc 48 F48 (ay f48 1):=am rfl rfl
theorem c51:Wc 51 F51 (ay f51 1):=am rfl rfl
theorem c54:Wc 54 F54 (ay f54 1):=am rfl rfl
theorem c57:Wc 57 F57 (ay f57 1):=am rfl rfl
theorem c63:Wc 63 F63 (ay f63 1):=am rfl rfl
theorem c65:Wc 65 F65 (ay f65 1):=am rfl rfl
theorem c68:Wc 68 F68 (ay f68 1):=am rfl rfl
theorem c71:Wc 71 F71 (ay f71 1):=am rfl rfl
theorem c81:Wc 81 F81 (ay f81 1):=am rfl rfl
theorem c88:Wc 88 F88 (ay f88 1):=am rfl rfl
theorem c92:Wc 92 F92 (ay f92 1):=am rfl rfl
theorem c94:Wc 94 F94 (ay f94 1):=am rfl rfl
theorem c96:Wc 96 F96 (ay f96 1):=am rfl rfl
theorem c99:Wc 99 F99 (ay f99 1):=am rfl rfl
theorem agj:Wc 100 aa9 (ay f100 1):=am rfl rfl
theorem agf:Wc 103 F103 (ay f103 1):=am rfl rfl
theorem agb:Wc 111 aa2 (ay f111 1):=am rfl rfl
theorem aga:Wc 112 F112 (ay f112 1):=am rfl rfl
theorem af7:Wc 117 aaY (ay f117 1):=am rfl rfl
theorem Ub:Wc 122 aaU (ay f122 1):=am rfl rfl
theorem ac2:Wc 123 aaT (ay f123 1):=am rfl rfl
theorem af1:Wc 126 aaQ (ay f126 1):=am rfl rfl
theorem afZ:Wc 128 aaO (ay f128 1):=am rfl rfl
theorem afW:Wc 131 aaL (ay f131 1):=am rfl rfl
theorem afU:Wc 133 aaJ (ay f133 1):=am rfl rfl
theorem afQ:Wc 137 aaH (ay f137 1):=am rfl rfl
theorem afO:Wc 139 aaF (ay f139 1):=am rfl rfl
theorem afM:Wc 141 aaD (ay f141 1):=am rfl rfl
theorem afG:Wc 165 aaz (ay f165 1):=am rfl rfl
theorem afC:Wc 169 aav (ay f169 1):=am rfl rfl
theorem afB:Wc 170 aau (ay f170 1):=am rfl rfl
theorem afy:Wc 175 aap (ay f175 1):=am rfl rfl
theorem afx:Wc 178 aam (ay f178 1):=am rfl rfl
theorem afu:Wc 189 aal (ay f189 1):=am rfl rfl
theorem aft:Wc 190 aak (ay f190 1):=am rfl rfl
theorem afn:Wc 198 aaf (ay f198 1):=am rfl rfl
end
end
end Go.Iso.Gen
