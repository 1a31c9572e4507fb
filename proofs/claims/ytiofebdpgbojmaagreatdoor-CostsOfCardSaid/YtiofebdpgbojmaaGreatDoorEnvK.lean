/-
  the code is that of the program.
-/
import Derived.Test.YtiofebdpgbojmaaGreatDoorGen
import Derived.Test.YtiofebdpgbojmaaGreatDoorIsoP5
set_option linter.defProp false
set_option linter.unusedSimpArgs false
set_option linter.unusedVariables false
set_option maxRecDepth 100000
set_option maxHeartbeats 4000000
section
namespace Go.Iso.Gen
open Go.Proofs Go.Proofs.Tryz
def k3:al prog 3=some F3:=by kernel_rfl
def k4:al prog 4=some F4:=by kernel_rfl
def k5:al prog 5=some F5:=by kernel_rfl
def k6:al prog 6=some F6:=by kernel_rfl
def k7:al prog 7=some F7:=by kernel_rfl
def k8:al prog 8=some F8:=by kernel_rfl
def k9:al prog 9=some F9:=by kernel_rfl
def k10:al prog 10=some F10:=by kernel_rfl
def k11:al prog 11=some F11:=by kernel_rfl
def k12:al prog 12=some F12:=by kernel_rfl
def k13:al prog 13=some F13:=by kernel_rfl
def k14:al prog 14=some F14:=by kernel_rfl
def k15:al prog 15=some F15:=by kernel_rfl
def k16:al prog 16=some (QG 16):=by kernel_rfl
def k17:al prog 17=some QA:=by kernel_rfl
def k18:al prog 18=some F18:=by kernel_rfl
def k19:al prog 19=some F19:=by kernel_rfl
def k20:al prog 20=some F20:=by kernel_rfl
def k21:al prog 21=some F21:=by kernel_rfl
def k22:al prog 22=some F22:=by kernel_rfl
def k23:al prog 23=some F23:=by kernel_rfl
def k24:al prog 24=some F24:=by kernel_rfl
def k25:al prog 25=some (QG 25):=by kernel_rfl
def k26:al prog 26=some F26:=by kernel_rfl
def k27:al prog 27=some F27:=by kernel_rfl
def k28:al prog 28=some F28:=by kernel_rfl
def k29:al prog 29=some F29:=by kernel_rfl
def k30:al prog 30=some F30:=by kernel_rfl
def k31:al prog 31=some UB:=by kernel_rfl
def k32:al prog 32=some F32:=by kernel_rfl
def k33:al prog 33=some F33:=by kernel_rfl
def k34:al prog 34=some F34:=by kernel_rfl
def k35:al prog 35=some F35:=by kernel_rfl
def k36:al prog 36=some F36:=by kernel_rfl
def k37:al prog 37=some F37:=by kernel_rfl
def k38:al prog 38=some F38:=by kernel_rfl
def k39:al prog 39=some F39:=by kernel_rfl
def k40:al prog 40=some F40:=by kernel_rfl
def k41:al prog 41=some F41:=by kernel_rfl
def k42:al prog 42=some F42:=by kernel_rfl
def k43:al prog 43=some F43:=by kernel_rfl
def k44:al prog 44=some F44:=by kernel_rfl
def k45:al prog 45=some F45:=by kernel_rfl
def k46:al prog 46=some F46:=by kernel_rfl
def k47:al prog 47=some F47:=by kernel_rfl
def k48:al prog 48=some F48:=by kernel_rfl
def k49:al prog 49=some F49:=by kernel_rfl
def k50:al prog 50=some F50:=by kernel_rfl
def k51:al prog 51=some F51:=by kernel_rfl
def k52:al prog 52=some (QG 52):=by kernel_rfl
def k53:al prog 53=some (QG 53):=by kernel_rfl
def k54:al prog 54=some (QG 54):=by kernel_rfl
def k55:al prog 55=some (QG 55):=by kernel_rfl
def k56:al prog 56=some F56:=by kernel_rfl
def k57:al prog 57=some F57:=by kernel_rfl
def k58:al prog 58=some F58:=by kernel_rfl
def k59:al prog 59=some F59:=by kernel_rfl
def k60:al prog 60=some F60:=by kernel_rfl
def k61:al prog 61=some F61:=by kernel_rfl
def k62:al prog 62=some F62:=by kernel_rfl
def k63:al prog 63=some F63:=by kernel_rfl
def k64:al prog 64=some F64:=by kernel_rfl
def k65:al prog 65=some F65:=by kernel_rfl
def k66:al prog 66=some F66:=by kernel_rfl
def k67:al prog 67=some F67:=by kernel_rfl
def k68:al prog 68=some F68:=by kernel_rfl
def k69:al prog 69=some F69:=by kernel_rfl
def k70:al prog 70=some F70:=by kernel_rfl
def k71:al prog 71=some F71:=by kernel_rfl
def k72:al prog 72=some (QG 72):=by kernel_rfl
def k73:al prog 73=some F73:=by kernel_rfl
def k74:al prog 74=some F74:=by kernel_rfl
def k75:al prog 75=some F75:=by kernel_rfl
def k76:al prog 76=some F76:=by kernel_rfl
def k77:al prog 77=some F77:=by kernel_rfl
def k78:al prog 78=some F78:=by kernel_rfl
def k79:al prog 79=some F79:=by kernel_rfl
def k80:al prog 80=some F80:=by kernel_rfl
def k81:al prog 81=some F81:=by kernel_rfl
def k82:al prog 82=some F82:=by kernel_rfl
def k83:al prog 83=some F83:=by kernel_rfl
def k84:al prog 84=some F84:=by kernel_rfl
def k85:al prog 85=some F85:=by kernel_rfl
def k86:al prog 86=some F86:=by kernel_rfl
def k87:al prog 87=some F87:=by kernel_rfl
def k88:al prog 88=some F88:=by kernel_rfl
def k89:al prog 89=some F89:=by kernel_rfl
def k90:al prog 90=some F90:=by kernel_rfl
def k91:al prog 91=some (QG 91):=by kernel_rfl
def k92:al prog 92=some F92:=by kernel_rfl
def k93:al prog 93=some F93:=by kernel_rfl
def k94:al prog 94=some F94:=by kernel_rfl
def k95:al prog 95=some (QG 95):=by kernel_rfl
def k96:al prog 96=some F96:=by kernel_rfl
def k97:al prog 97=some F97:=by kernel_rfl
def k98:al prog 98=some F98:=by kernel_rfl
def k99:al prog 99=some D4:=by kernel_rfl
def ag5:al prog 100=some X2:=by kernel_rfl
def ag4:al prog 101=some acO:=by kernel_rfl
def ag3:al prog 102=some acN:=by kernel_rfl
def ag2:al prog 103=some (QG 103):=by kernel_rfl
def ag1:al prog 104=some (QG 104):=by kernel_rfl
def ag0:al prog 105=some acM:=by kernel_rfl
def agZ:al prog 106=some (QG 106):=by kernel_rfl
def agY:al prog 107=some (QG 107):=by kernel_rfl
def agX:al prog 108=some acL:=by kernel_rfl
def agW:al prog 109=some acK:=by kernel_rfl
def agV:al prog 110=some acJ:=by kernel_rfl
def agU:al prog 111=some acI:=by kernel_rfl
def agT:al prog 112=some acH:=by kernel_rfl
def agS:al prog 113=some acG:=by kernel_rfl
def agR:al prog 114=some X1:=by kernel_rfl
def agQ:al prog 115=some acF:=by kernel_rfl
def agP:al prog 116=some acE:=by kernel_rfl
def agO:al prog 117=some acD:=by kernel_rfl
def agN:al prog 118=some acC:=by kernel_rfl
def agM:al prog 119=some acB:=by kernel_rfl
def agL:al prog 120=some (QG 120):=by kernel_rfl
def agK:al prog 121=some (QG 121):=by kernel_rfl
def agJ:al prog 122=some X0:=by kernel_rfl
def agI:al prog 123=some XZ:=by kernel_rfl
def agH:al prog 124=some XY:=by kernel_rfl
def agG:al prog 125=some XX:=by kernel_rfl
def agF:al prog 126=some XW:=by kernel_rfl
def agE:al prog 127=some XV:=by kernel_rfl
def agD:al prog 128=some XU:=by kernel_rfl
def agC:al prog 129=some XT:=by kernel_rfl
def agB:al prog 130=some XS:=by kernel_rfl
def agA:al prog 131=some XR:=by kernel_rfl
def agz:al prog 132=some XQ:=by kernel_rfl
def agy:al prog 133=some XP:=by kernel_rfl
def agx:al prog 134=some XO:=by kernel_rfl
def agw:al prog 135=some XN:=by kernel_rfl
def agv:al prog 136=some XM:=by kernel_rfl
def agu:al prog 137=some XL:=by kernel_rfl
def agt:al prog 138=some Nr:=by kernel_rfl
def ags:al prog 139=some XK:=by kernel_rfl
def agr:al prog 140=some XJ:=by kernel_rfl
def agq:al prog 141=some XI:=by kernel_rfl
def agp:al prog 142=some XH:=by kernel_rfl
def ago:al prog 143=some F143:=by kernel_rfl
def agn:al prog 144=some Qt:=by kernel_rfl
def agm:al prog 145=some (QG 145):=by kernel_rfl
def agl:al prog 146=some (QG 146):=by kernel_rfl
def agk:al prog 147=some XG:=by kernel_rfl
def agj:al prog 148=some XF:=by kernel_rfl
def agi:al prog 149=some XE:=by kernel_rfl
def agh:al prog 150=some (QG 150):=by kernel_rfl
def agf:al prog 151=some acA:=by kernel_rfl
def age:al prog 152=some acz:=by kernel_rfl
def agd:al prog 153=some (QG 153):=by kernel_rfl
def agc:al prog 155=some (QG 155):=by kernel_rfl
def agb:al prog 156=some acy:=by kernel_rfl
def aga:al prog 157=some XD:=by kernel_rfl
def af9:al prog 158=some XC:=by kernel_rfl
def af8:al prog 159=some XB:=by kernel_rfl
def af7:al prog 160=some XA:=by kernel_rfl
def af6:al prog 161=some Xz:=by kernel_rfl
def af5:al prog 162=some Xy:=by kernel_rfl
def af4:al prog 163=some Xx:=by kernel_rfl
def af3:al prog 164=some Xw:=by kernel_rfl
def af2:al prog 165=some Nq:=by kernel_rfl
def af1:al prog 166=some Xv:=by kernel_rfl
def af0:al prog 167=some Xu:=by kernel_rfl
def afZ:al prog 168=some Xt:=by kernel_rfl
def afY:al prog 169=some Xs:=by kernel_rfl
def afX:al prog 170=some F170:=by kernel_rfl
def afW:al prog 171=some Xr:=by kernel_rfl
def afV:al prog 172=some F172:=by kernel_rfl
def afU:al prog 173=some Xq:=by kernel_rfl
def afT:al prog 174=some Xp:=by kernel_rfl
def afS:al prog 175=some Xo:=by kernel_rfl
def afR:al prog 176=some Xn:=by kernel_rfl
def afQ:al prog 177=some Xm:=by kernel_rfl
def afP:al prog 178=some Xl:=by kernel_rfl
def afO:al prog 179=some (QG 179):=by kernel_rfl
def afN:al prog 180=some (QG 180):=by kernel_rfl
def afM:al prog 181=some (QG 181):=by kernel_rfl
def afL:al prog 182=some (QG 182):=by kernel_rfl
def afK:al prog 183=some (QG 183):=by kernel_rfl
def afJ:al prog 184=some (QG 184):=by kernel_rfl
def afI:al prog 185=some (QG 185):=by kernel_rfl
def afH:al prog 186=some (QG 186):=by kernel_rfl
def afG:al prog 187=some (QG 187):=by kernel_rfl
def afF:al prog 188=some (QG 188):=by kernel_rfl
def afE:al prog 189=some Xk:=by kernel_rfl
def afD:al prog 190=some (QG 190):=by kernel_rfl
def afC:al prog 191=some (QG 191):=by kernel_rfl
def afB:al prog 192=some (QG 192):=by kernel_rfl
def afA:al prog 193=some (QG 193):=by kernel_rfl
def afz:al prog 194=some (QG 194):=by kernel_rfl
def afy:al prog 195=some (QG 195):=by kernel_rfl
def afx:al prog 196=some (QG 196):=by kernel_rfl
def afw:al prog 197=some (QG 197):=by kernel_rfl
def afv:al prog 198=some acx:=by kernel_rfl
def afu:al prog 199=some (QG 199):=by kernel_rfl
def aft:al prog 200=some Xj:=by kernel_rfl
def afs:al prog 201=some Xi:=by kernel_rfl
def afr:al prog 202=some Xh:=by kernel_rfl
def afq:al prog 203=some Xg:=by kernel_rfl
def afp:al prog 204=some Xf:=by kernel_rfl
def afo:al prog 205=some Xe:=by kernel_rfl
def afn:al prog 206=some Iy:=by kernel_rfl
def afm:al prog 207=some Xd:=by kernel_rfl
def afl:al prog 208=some Xc:=by kernel_rfl
def afk:al prog 209=some Xb:=by kernel_rfl
def afj:al prog 210=some Xa:=by kernel_rfl
def afi:al prog 211=some W9:=by kernel_rfl
def afh:al prog 212=some W8:=by kernel_rfl
def afg:al prog 213=some W7:=by kernel_rfl
def aff:al prog 214=some W6:=by kernel_rfl
def afe:al prog 215=some F215:=by kernel_rfl
def afd:al prog 216=some (QG 216):=by kernel_rfl
def afc:al prog 217=some (QG 217):=by kernel_rfl
def afb:al prog 218=some (QG 218):=by kernel_rfl
def afa:al prog 219=some (QG 219):=by kernel_rfl
def ae9:al prog 220=some (QG 220):=by kernel_rfl
def ae8:al prog 221=some (QG 221):=by kernel_rfl
def ae7:al prog 222=some (QG 222):=by kernel_rfl
def ae6:al prog 223=some (QG 223):=by kernel_rfl
def ae5:al prog 224=some (QG 224):=by kernel_rfl
def ae4:al prog 225=some F225:=by kernel_rfl
def ae3:al prog 226=some W5:=by kernel_rfl
def ae2:al prog 227=some Np:=by kernel_rfl
def ae1:al prog 228=some xD:=by kernel_rfl
def ae0:al prog 229=some W4:=by kernel_rfl
def aeZ:al prog 230=some W3:=by kernel_rfl
def aeY:al prog 231=some (QG 231):=by kernel_rfl
def aeX:al prog 232=some (QG 232):=by kernel_rfl
def aeW:al prog 233=some W2:=by kernel_rfl
def aeV:al prog 234=some W1:=by kernel_rfl
def aeU:al prog 235=some W0:=by kernel_rfl
def aeT:al prog 236=some WZ:=by kernel_rfl
def QN{α:Type}{p:α->Prop}:∀x:α,none=some x->p x:=λ_ h=>by cases h
def QX{α:Type}{p:α->Prop}{a:α}(h:p a):∀x:α,some a=some x->p x:=λ_ e=>by cases e;exact h
def NW:fnT.All (λf fn=>al prog f=some fn) (λi=>i):=⟨QN,⟨QN,⟨(QX k3),⟨(QX k7),⟨(QX k15),⟨(QX k31),⟨(QX k63),⟨(QX agE),aq,aq⟩,⟨(QX afC),aq,aq⟩⟩,⟨(QX k95),⟨(QX af8),aq,aq⟩,⟨(QX ae6),aq,aq⟩⟩⟩,⟨(QX k47),⟨(QX k79),⟨(QX ago),aq,aq⟩,⟨(QX afm),aq,aq⟩⟩,⟨(QX agU),⟨(QX afS),aq,aq⟩,aq⟩⟩⟩,⟨(QX k23),⟨(QX k39),⟨(QX k71),⟨(QX agw),aq,aq⟩,⟨(QX afu),aq,aq⟩⟩,⟨(QX ag2),⟨(QX af0),aq,aq⟩,⟨(QX aeY),aq,aq⟩⟩⟩,⟨(QX k55),⟨(QX k87),⟨(QX agf),aq,aq⟩,⟨(QX afe),aq,aq⟩⟩,⟨(QX agM),⟨(QX afK),aq,aq⟩,aq⟩⟩⟩⟩,⟨(QX k11),⟨(QX k19),⟨(QX k35),⟨(QX k67),⟨(QX agA),aq,aq⟩,⟨(QX afy),aq,aq⟩⟩,⟨(QX k99),⟨(QX af4),aq,aq⟩,⟨(QX ae2),aq,aq⟩⟩⟩,⟨(QX k51),⟨(QX k83),⟨(QX agk),aq,aq⟩,⟨(QX afi),aq,aq⟩⟩,⟨(QX agQ),⟨(QX afO),aq,aq⟩,aq⟩⟩⟩,⟨(QX k27),⟨(QX k43),⟨(QX k75),⟨(QX ags),aq,aq⟩,⟨(QX afq),aq,aq⟩⟩,⟨(QX agY),⟨(QX afW),aq,aq⟩,⟨(QX aeU),aq,aq⟩⟩⟩,⟨(QX k59),⟨(QX k91),⟨(QX agc),aq,aq⟩,⟨(QX afa),aq,aq⟩⟩,⟨(QX agI),⟨(QX afG),aq,aq⟩,aq⟩⟩⟩⟩⟩,⟨(QX k5),⟨(QX k9),⟨(QX k17),⟨(QX k33),⟨(QX k65),⟨(QX agC),aq,aq⟩,⟨(QX afA),aq,aq⟩⟩,⟨(QX k97),⟨(QX af6),aq,aq⟩,⟨(QX ae4),aq,aq⟩⟩⟩,⟨(QX k49),⟨(QX k81),⟨(QX agm),aq,aq⟩,⟨(QX afk),aq,aq⟩⟩,⟨(QX agS),⟨(QX afQ),aq,aq⟩,aq⟩⟩⟩,⟨(QX k25),⟨(QX k41),⟨(QX k73),⟨(QX agu),aq,aq⟩,⟨(QX afs),aq,aq⟩⟩,⟨(QX ag0),⟨(QX afY),aq,aq⟩,⟨(QX aeW),aq,aq⟩⟩⟩,⟨(QX k57),⟨(QX k89),⟨(QX agd),aq,aq⟩,⟨(QX afc),aq,aq⟩⟩,⟨(QX agK),⟨(QX afI),aq,aq⟩,aq⟩⟩⟩⟩,⟨(QX k13),⟨(QX k21),⟨(QX k37),⟨(QX k69),⟨(QX agy),aq,aq⟩,⟨(QX afw),aq,aq⟩⟩,⟨(QX ag4),⟨(QX af2),aq,aq⟩,⟨(QX ae0),aq,aq⟩⟩⟩,⟨(QX k53),⟨(QX k85),⟨(QX agi),aq,aq⟩,⟨(QX afg),aq,aq⟩⟩,⟨(QX agO),⟨(QX afM),aq,aq⟩,aq⟩⟩⟩,⟨(QX k29),⟨(QX k45),⟨(QX k77),⟨(QX agq),aq,aq⟩,⟨(QX afo),aq,aq⟩⟩,⟨(QX agW),⟨(QX afU),aq,aq⟩,aq⟩⟩,⟨(QX k61),⟨(QX k93),⟨(QX aga),aq,aq⟩,⟨(QX ae8),aq,aq⟩⟩,⟨(QX agG),⟨(QX afE),aq,aq⟩,aq⟩⟩⟩⟩⟩⟩,⟨QN,⟨(QX k4),⟨(QX k8),⟨(QX k16),⟨(QX k32),⟨(QX k64),⟨(QX agD),aq,aq⟩,⟨(QX afB),aq,aq⟩⟩,⟨(QX k96),⟨(QX af7),aq,aq⟩,⟨(QX ae5),aq,aq⟩⟩⟩,⟨(QX k48),⟨(QX k80),⟨(QX agn),aq,aq⟩,⟨(QX afl),aq,aq⟩⟩,⟨(QX agT),⟨(QX afR),aq,aq⟩,aq⟩⟩⟩,⟨(QX k24),⟨(QX k40),⟨(QX k72),⟨(QX agv),aq,aq⟩,⟨(QX aft),aq,aq⟩⟩,⟨(QX ag1),⟨(QX afZ),aq,aq⟩,⟨(QX aeX),aq,aq⟩⟩⟩,⟨(QX k56),⟨(QX k88),⟨(QX age),aq,aq⟩,⟨(QX afd),aq,aq⟩⟩,⟨(QX agL),⟨(QX afJ),aq,aq⟩,aq⟩⟩⟩⟩,⟨(QX k12),⟨(QX k20),⟨(QX k36),⟨(QX k68),⟨(QX agz),aq,aq⟩,⟨(QX afx),aq,aq⟩⟩,⟨(QX ag5),⟨(QX af3),aq,aq⟩,⟨(QX ae1),aq,aq⟩⟩⟩,⟨(QX k52),⟨(QX k84),⟨(QX agj),aq,aq⟩,⟨(QX afh),aq,aq⟩⟩,⟨(QX agP),⟨(QX afN),aq,aq⟩,aq⟩⟩⟩,⟨(QX k28),⟨(QX k44),⟨(QX k76),⟨(QX agr),aq,aq⟩,⟨(QX afp),aq,aq⟩⟩,⟨(QX agX),⟨(QX afV),aq,aq⟩,⟨(QX aeT),aq,aq⟩⟩⟩,⟨(QX k60),⟨(QX k92),⟨(QX agb),aq,aq⟩,⟨(QX ae9),aq,aq⟩⟩,⟨(QX agH),⟨(QX afF),aq,aq⟩,aq⟩⟩⟩⟩⟩,⟨(QX k6),⟨(QX k10),⟨(QX k18),⟨(QX k34),⟨(QX k66),⟨(QX agB),aq,aq⟩,⟨(QX afz),aq,aq⟩⟩,⟨(QX k98),⟨(QX af5),aq,aq⟩,⟨(QX ae3),aq,aq⟩⟩⟩,⟨(QX k50),⟨(QX k82),⟨(QX agl),aq,aq⟩,⟨(QX afj),aq,aq⟩⟩,⟨(QX agR),⟨(QX afP),aq,aq⟩,aq⟩⟩⟩,⟨(QX k26),⟨(QX k42),⟨(QX k74),⟨(QX agt),aq,aq⟩,⟨(QX afr),aq,aq⟩⟩,⟨(QX agZ),⟨(QX afX),aq,aq⟩,⟨(QX aeV),aq,aq⟩⟩⟩,⟨(QX k58),⟨(QX k90),aq,⟨(QX afb),aq,aq⟩⟩,⟨(QX agJ),⟨(QX afH),aq,aq⟩,aq⟩⟩⟩⟩,⟨(QX k14),⟨(QX k22),⟨(QX k38),⟨(QX k70),⟨(QX agx),aq,aq⟩,⟨(QX afv),aq,aq⟩⟩,⟨(QX ag3),⟨(QX af1),aq,aq⟩,⟨(QX aeZ),aq,aq⟩⟩⟩,⟨(QX k54),⟨(QX k86),⟨(QX agh),aq,aq⟩,⟨(QX aff),aq,aq⟩⟩,⟨(QX agN),⟨(QX afL),aq,aq⟩,aq⟩⟩⟩,⟨(QX k30),⟨(QX k46),⟨(QX k78),⟨(QX agp),aq,aq⟩,⟨(QX afn),aq,aq⟩⟩,⟨(QX agV),⟨(QX afT),aq,aq⟩,aq⟩⟩,⟨(QX k62),⟨(QX k94),⟨(QX af9),aq,aq⟩,⟨(QX ae7),aq,aq⟩⟩,⟨(QX agF),⟨(QX afD),aq,aq⟩,aq⟩⟩⟩⟩⟩⟩⟩
end Go.Iso.Gen
end
