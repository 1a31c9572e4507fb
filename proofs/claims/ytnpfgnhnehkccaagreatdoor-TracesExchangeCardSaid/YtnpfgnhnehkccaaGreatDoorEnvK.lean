/-
  the code is that of the program.
-/
import Derived.Test.YtnpfgnhnehkccaaGreatDoorGen
import Derived.Test.YtnpfgnhnehkccaaGreatDoorIsoP5
set_option linter.defProp false
set_option linter.unusedSimpArgs false
set_option linter.unusedVariables false
set_option maxRecDepth 100000
set_option maxHeartbeats 4000000
section
namespace Go.Iso.Gen
open Go.Proofs Go.Proofs.Tryz
def k3:al prog 3=some F3:=by kernel_rfl
def k4:al prog 4=some F4:=by kernel_rfl
def k5:al prog 5=some F5:=by kernel_rfl
def k6:al prog 6=some F6:=by kernel_rfl
def k7:al prog 7=some F7:=by kernel_rfl
def k8:al prog 8=some F8:=by kernel_rfl
def k9:al prog 9=some F9:=by kernel_rfl
def k10:al prog 10=some F10:=by kernel_rfl
def k11:al prog 11=some F11:=by kernel_rfl
def k12:al prog 12=some F12:=by kernel_rfl
def k13:al prog 13=some (QG 13):=by kernel_rfl
def k14:al prog 14=some F14:=by kernel_rfl
def k15:al prog 15=some F15:=by kernel_rfl
def k16:al prog 16=some F16:=by kernel_rfl
def k17:al prog 17=some F17:=by kernel_rfl
def k18:al prog 18=some F18:=by kernel_rfl
def k19:al prog 19=some (QG 19):=by kernel_rfl
def k20:al prog 20=some F20:=by kernel_rfl
def k21:al prog 21=some TY:=by kernel_rfl
def k22:al prog 22=some F22:=by kernel_rfl
def k23:al prog 23=some F23:=by kernel_rfl
def k24:al prog 24=some F24:=by kernel_rfl
def k25:al prog 25=some F25:=by kernel_rfl
def k26:al prog 26=some F26:=by kernel_rfl
def k27:al prog 27=some F27:=by kernel_rfl
def k28:al prog 28=some F28:=by kernel_rfl
def k29:al prog 29=some F29:=by kernel_rfl
def k30:al prog 30=some F30:=by kernel_rfl
def k31:al prog 31=some F31:=by kernel_rfl
def k32:al prog 32=some F32:=by kernel_rfl
def k33:al prog 33=some F33:=by kernel_rfl
def k34:al prog 34=some F34:=by kernel_rfl
def k35:al prog 35=some F35:=by kernel_rfl
def k36:al prog 36=some F36:=by kernel_rfl
def k37:al prog 37=some F37:=by kernel_rfl
def k38:al prog 38=some F38:=by kernel_rfl
def k39:al prog 39=some F39:=by kernel_rfl
def k40:al prog 40=some (QG 40):=by kernel_rfl
def k41:al prog 41=some F41:=by kernel_rfl
def k42:al prog 42=some F42:=by kernel_rfl
def k43:al prog 43=some F43:=by kernel_rfl
def k44:al prog 44=some F44:=by kernel_rfl
def k45:al prog 45=some (QG 45):=by kernel_rfl
def k46:al prog 46=some (QG 46):=by kernel_rfl
def k47:al prog 47=some (QG 47):=by kernel_rfl
def k48:al prog 48=some (QG 48):=by kernel_rfl
def k49:al prog 49=some F49:=by kernel_rfl
def k50:al prog 50=some F50:=by kernel_rfl
def k51:al prog 51=some Yi:=by kernel_rfl
def k52:al prog 52=some F52:=by kernel_rfl
def k53:al prog 53=some F53:=by kernel_rfl
def k54:al prog 54=some F54:=by kernel_rfl
def k55:al prog 55=some F55:=by kernel_rfl
def k56:al prog 56=some F56:=by kernel_rfl
def k57:al prog 57=some F57:=by kernel_rfl
def k58:al prog 58=some F58:=by kernel_rfl
def k59:al prog 59=some (QG 59):=by kernel_rfl
def k60:al prog 60=some F60:=by kernel_rfl
def k61:al prog 61=some F61:=by kernel_rfl
def k62:al prog 62=some F62:=by kernel_rfl
def k63:al prog 63=some F63:=by kernel_rfl
def k64:al prog 64=some F64:=by kernel_rfl
def k65:al prog 65=some F65:=by kernel_rfl
def k66:al prog 66=some F66:=by kernel_rfl
def k67:al prog 67=some F67:=by kernel_rfl
def k68:al prog 68=some F68:=by kernel_rfl
def k69:al prog 69=some F69:=by kernel_rfl
def k70:al prog 70=some F70:=by kernel_rfl
def k71:al prog 71=some F71:=by kernel_rfl
def k72:al prog 72=some F72:=by kernel_rfl
def k73:al prog 73=some F73:=by kernel_rfl
def k74:al prog 74=some F74:=by kernel_rfl
def k75:al prog 75=some F75:=by kernel_rfl
def k76:al prog 76=some F76:=by kernel_rfl
def k77:al prog 77=some F77:=by kernel_rfl
def k78:al prog 78=some F78:=by kernel_rfl
def k79:al prog 79=some F79:=by kernel_rfl
def k80:al prog 80=some F80:=by kernel_rfl
def k81:al prog 81=some F81:=by kernel_rfl
def k82:al prog 82=some F82:=by kernel_rfl
def k83:al prog 83=some F83:=by kernel_rfl
def k84:al prog 84=some (QG 84):=by kernel_rfl
def k85:al prog 85=some (QG 85):=by kernel_rfl
def k86:al prog 86=some (QG 86):=by kernel_rfl
def k87:al prog 87=some (QG 87):=by kernel_rfl
def k88:al prog 88=some F88:=by kernel_rfl
def k89:al prog 89=some F89:=by kernel_rfl
def k90:al prog 90=some F90:=by kernel_rfl
def k91:al prog 91=some F91:=by kernel_rfl
def k92:al prog 92=some (QG 92):=by kernel_rfl
def k93:al prog 93=some (QG 93):=by kernel_rfl
def k94:al prog 94=some F94:=by kernel_rfl
def k95:al prog 95=some (QG 95):=by kernel_rfl
def k96:al prog 96=some F96:=by kernel_rfl
def k97:al prog 97=some F97:=by kernel_rfl
def k98:al prog 98=some F98:=by kernel_rfl
def k99:al prog 99=some F99:=by kernel_rfl
def agc:al prog 100=some TZ:=by kernel_rfl
def agb:al prog 101=some XF:=by kernel_rfl
def aga:al prog 102=some XE:=by kernel_rfl
def af9:al prog 103=some ab6:=by kernel_rfl
def af8:al prog 104=some ab5:=by kernel_rfl
def af7:al prog 105=some ab4:=by kernel_rfl
def af6:al prog 106=some ab3:=by kernel_rfl
def af5:al prog 107=some ab2:=by kernel_rfl
def af4:al prog 108=some XD:=by kernel_rfl
def af3:al prog 109=some XC:=by kernel_rfl
def af2:al prog 110=some XB:=by kernel_rfl
def af1:al prog 111=some XA:=by kernel_rfl
def af0:al prog 112=some Xz:=by kernel_rfl
def afZ:al prog 113=some Xy:=by kernel_rfl
def afY:al prog 114=some Xx:=by kernel_rfl
def afX:al prog 115=some Xw:=by kernel_rfl
def afW:al prog 116=some Xv:=by kernel_rfl
def afV:al prog 117=some Xu:=by kernel_rfl
def afU:al prog 118=some Xt:=by kernel_rfl
def afT:al prog 119=some Xs:=by kernel_rfl
def afS:al prog 120=some Xr:=by kernel_rfl
def afR:al prog 121=some Xq:=by kernel_rfl
def afQ:al prog 122=some Xp:=by kernel_rfl
def afP:al prog 123=some Xo:=by kernel_rfl
def afO:al prog 124=some Xn:=by kernel_rfl
def afN:al prog 125=some Mn:=by kernel_rfl
def afM:al prog 126=some Xm:=by kernel_rfl
def afL:al prog 127=some Xl:=by kernel_rfl
def afK:al prog 128=some Xk:=by kernel_rfl
def afJ:al prog 129=some Xj:=by kernel_rfl
def afI:al prog 130=some F130:=by kernel_rfl
def afH:al prog 131=some PG:=by kernel_rfl
def afG:al prog 132=some (QG 132):=by kernel_rfl
def afF:al prog 133=some (QG 133):=by kernel_rfl
def afE:al prog 134=some Xi:=by kernel_rfl
def afD:al prog 135=some Xh:=by kernel_rfl
def afC:al prog 136=some Xg:=by kernel_rfl
def afB:al prog 137=some (QG 137):=by kernel_rfl
def afA:al prog 138=some (QG 138):=by kernel_rfl
def afz:al prog 139=some (QG 139):=by kernel_rfl
def afy:al prog 140=some ab1:=by kernel_rfl
def afx:al prog 141=some ab0:=by kernel_rfl
def afw:al prog 142=some abZ:=by kernel_rfl
def afv:al prog 143=some abY:=by kernel_rfl
def afu:al prog 144=some abX:=by kernel_rfl
def aft:al prog 145=some abW:=by kernel_rfl
def afs:al prog 146=some Xf:=by kernel_rfl
def afr:al prog 147=some Xe:=by kernel_rfl
def afq:al prog 148=some Xd:=by kernel_rfl
def afp:al prog 149=some Xc:=by kernel_rfl
def afo:al prog 150=some Xb:=by kernel_rfl
def afn:al prog 151=some Xa:=by kernel_rfl
def afm:al prog 152=some W9:=by kernel_rfl
def afl:al prog 153=some W8:=by kernel_rfl
def afk:al prog 154=some Mm:=by kernel_rfl
def afj:al prog 155=some W7:=by kernel_rfl
def afi:al prog 156=some W6:=by kernel_rfl
def afh:al prog 157=some W5:=by kernel_rfl
def afg:al prog 158=some W4:=by kernel_rfl
def aff:al prog 159=some F159:=by kernel_rfl
def afe:al prog 160=some W3:=by kernel_rfl
def afd:al prog 161=some F161:=by kernel_rfl
def afc:al prog 162=some W2:=by kernel_rfl
def afb:al prog 163=some W1:=by kernel_rfl
def afa:al prog 164=some W0:=by kernel_rfl
def ae9:al prog 165=some WZ:=by kernel_rfl
def ae8:al prog 166=some WY:=by kernel_rfl
def ae7:al prog 167=some WX:=by kernel_rfl
def ae6:al prog 168=some (QG 168):=by kernel_rfl
def ae5:al prog 169=some (QG 169):=by kernel_rfl
def ae4:al prog 170=some (QG 170):=by kernel_rfl
def ae3:al prog 171=some (QG 171):=by kernel_rfl
def ae2:al prog 172=some (QG 172):=by kernel_rfl
def ae1:al prog 173=some (QG 173):=by kernel_rfl
def ae0:al prog 174=some (QG 174):=by kernel_rfl
def aeZ:al prog 175=some (QG 175):=by kernel_rfl
def aeY:al prog 176=some (QG 176):=by kernel_rfl
def aeX:al prog 177=some (QG 177):=by kernel_rfl
def aeW:al prog 178=some WW:=by kernel_rfl
def aeV:al prog 179=some (QG 179):=by kernel_rfl
def aeU:al prog 180=some (QG 180):=by kernel_rfl
def aeT:al prog 181=some (QG 181):=by kernel_rfl
def aeS:al prog 182=some (QG 182):=by kernel_rfl
def aeR:al prog 183=some (QG 183):=by kernel_rfl
def aeQ:al prog 184=some (QG 184):=by kernel_rfl
def aeP:al prog 185=some (QG 185):=by kernel_rfl
def aeO:al prog 186=some (QG 186):=by kernel_rfl
def aeN:al prog 187=some WV:=by kernel_rfl
def aeM:al prog 188=some WU:=by kernel_rfl
def aeL:al prog 189=some WT:=by kernel_rfl
def aeK:al prog 190=some WS:=by kernel_rfl
def aeJ:al prog 191=some WR:=by kernel_rfl
def aeI:al prog 192=some WQ:=by kernel_rfl
def aeH:al prog 193=some GZ:=by kernel_rfl
def aeG:al prog 194=some WP:=by kernel_rfl
def aeF:al prog 195=some WO:=by kernel_rfl
def aeE:al prog 196=some WN:=by kernel_rfl
def aeD:al prog 197=some WM:=by kernel_rfl
def aeC:al prog 198=some WL:=by kernel_rfl
def aeB:al prog 199=some WK:=by kernel_rfl
def aeA:al prog 200=some WJ:=by kernel_rfl
def aez:al prog 201=some WI:=by kernel_rfl
def aey:al prog 202=some F202:=by kernel_rfl
def aex:al prog 203=some (QG 203):=by kernel_rfl
def aew:al prog 204=some (QG 204):=by kernel_rfl
def aev:al prog 205=some (QG 205):=by kernel_rfl
def aeu:al prog 206=some (QG 206):=by kernel_rfl
def aet:al prog 207=some (QG 207):=by kernel_rfl
def aes:al prog 208=some (QG 208):=by kernel_rfl
def aer:al prog 209=some (QG 209):=by kernel_rfl
def aeq:al prog 210=some (QG 210):=by kernel_rfl
def aep:al prog 211=some F211:=by kernel_rfl
def aeo:al prog 212=some WH:=by kernel_rfl
def aen:al prog 213=some Ml:=by kernel_rfl
def aem:al prog 214=some vN:=by kernel_rfl
def ael:al prog 215=some WG:=by kernel_rfl
def aek:al prog 216=some WF:=by kernel_rfl
def aej:al prog 217=some (QG 217):=by kernel_rfl
def aei:al prog 218=some (QG 218):=by kernel_rfl
def aeh:al prog 219=some WE:=by kernel_rfl
def aeg:al prog 220=some WD:=by kernel_rfl
def aef:al prog 221=some WC:=by kernel_rfl
def aee:al prog 222=some WB:=by kernel_rfl
def QN{α:Type}{p:α->Prop}:∀x:α,none=some x->p x:=λ_ h=>by cases h
def QX{α:Type}{p:α->Prop}{a:α}(h:p a):∀x:α,some a=some x->p x:=λ_ e=>by cases e;exact h
def Nb:fnT.All (λf fn=>al prog f=some fn) (λi=>i):=⟨QN,⟨QN,⟨(QX k3),⟨(QX k7),⟨(QX k15),⟨(QX k31),⟨(QX k63),⟨(QX afL),aq,aq⟩,⟨(QX aeJ),aq,aq⟩⟩,⟨(QX k95),⟨(QX aff),aq,aq⟩,aq⟩⟩,⟨(QX k47),⟨(QX k79),⟨(QX afv),aq,aq⟩,⟨(QX aet),aq,aq⟩⟩,⟨(QX af1),⟨(QX aeZ),aq,aq⟩,aq⟩⟩⟩,⟨(QX k23),⟨(QX k39),⟨(QX k71),⟨(QX afD),aq,aq⟩,⟨(QX aeB),aq,aq⟩⟩,⟨(QX af9),⟨(QX ae7),aq,aq⟩,aq⟩⟩,⟨(QX k55),⟨(QX k87),⟨(QX afn),aq,aq⟩,⟨(QX ael),aq,aq⟩⟩,⟨(QX afT),⟨(QX aeR),aq,aq⟩,aq⟩⟩⟩⟩,⟨(QX k11),⟨(QX k19),⟨(QX k35),⟨(QX k67),⟨(QX afH),aq,aq⟩,⟨(QX aeF),aq,aq⟩⟩,⟨(QX k99),⟨(QX afb),aq,aq⟩,aq⟩⟩,⟨(QX k51),⟨(QX k83),⟨(QX afr),aq,aq⟩,⟨(QX aep),aq,aq⟩⟩,⟨(QX afX),⟨(QX aeV),aq,aq⟩,aq⟩⟩⟩,⟨(QX k27),⟨(QX k43),⟨(QX k75),⟨(QX afz),aq,aq⟩,⟨(QX aex),aq,aq⟩⟩,⟨(QX af5),⟨(QX ae3),aq,aq⟩,aq⟩⟩,⟨(QX k59),⟨(QX k91),⟨(QX afj),aq,aq⟩,⟨(QX aeh),aq,aq⟩⟩,⟨(QX afP),⟨(QX aeN),aq,aq⟩,aq⟩⟩⟩⟩⟩,⟨(QX k5),⟨(QX k9),⟨(QX k17),⟨(QX k33),⟨(QX k65),⟨(QX afJ),aq,aq⟩,⟨(QX aeH),aq,aq⟩⟩,⟨(QX k97),⟨(QX afd),aq,aq⟩,aq⟩⟩,⟨(QX k49),⟨(QX k81),⟨(QX aft),aq,aq⟩,⟨(QX aer),aq,aq⟩⟩,⟨(QX afZ),⟨(QX aeX),aq,aq⟩,aq⟩⟩⟩,⟨(QX k25),⟨(QX k41),⟨(QX k73),⟨(QX afB),aq,aq⟩,⟨(QX aez),aq,aq⟩⟩,⟨(QX af7),⟨(QX ae5),aq,aq⟩,aq⟩⟩,⟨(QX k57),⟨(QX k89),⟨(QX afl),aq,aq⟩,⟨(QX aej),aq,aq⟩⟩,⟨(QX afR),⟨(QX aeP),aq,aq⟩,aq⟩⟩⟩⟩,⟨(QX k13),⟨(QX k21),⟨(QX k37),⟨(QX k69),⟨(QX afF),aq,aq⟩,⟨(QX aeD),aq,aq⟩⟩,⟨(QX agb),⟨(QX ae9),aq,aq⟩,aq⟩⟩,⟨(QX k53),⟨(QX k85),⟨(QX afp),aq,aq⟩,⟨(QX aen),aq,aq⟩⟩,⟨(QX afV),⟨(QX aeT),aq,aq⟩,aq⟩⟩⟩,⟨(QX k29),⟨(QX k45),⟨(QX k77),⟨(QX afx),aq,aq⟩,⟨(QX aev),aq,aq⟩⟩,⟨(QX af3),⟨(QX ae1),aq,aq⟩,aq⟩⟩,⟨(QX k61),⟨(QX k93),⟨(QX afh),aq,aq⟩,⟨(QX aef),aq,aq⟩⟩,⟨(QX afN),⟨(QX aeL),aq,aq⟩,aq⟩⟩⟩⟩⟩⟩,⟨QN,⟨(QX k4),⟨(QX k8),⟨(QX k16),⟨(QX k32),⟨(QX k64),⟨(QX afK),aq,aq⟩,⟨(QX aeI),aq,aq⟩⟩,⟨(QX k96),⟨(QX afe),aq,aq⟩,aq⟩⟩,⟨(QX k48),⟨(QX k80),⟨(QX afu),aq,aq⟩,⟨(QX aes),aq,aq⟩⟩,⟨(QX af0),⟨(QX aeY),aq,aq⟩,aq⟩⟩⟩,⟨(QX k24),⟨(QX k40),⟨(QX k72),⟨(QX afC),aq,aq⟩,⟨(QX aeA),aq,aq⟩⟩,⟨(QX af8),⟨(QX ae6),aq,aq⟩,aq⟩⟩,⟨(QX k56),⟨(QX k88),⟨(QX afm),aq,aq⟩,⟨(QX aek),aq,aq⟩⟩,⟨(QX afS),⟨(QX aeQ),aq,aq⟩,aq⟩⟩⟩⟩,⟨(QX k12),⟨(QX k20),⟨(QX k36),⟨(QX k68),⟨(QX afG),aq,aq⟩,⟨(QX aeE),aq,aq⟩⟩,⟨(QX agc),⟨(QX afa),aq,aq⟩,aq⟩⟩,⟨(QX k52),⟨(QX k84),⟨(QX afq),aq,aq⟩,⟨(QX aeo),aq,aq⟩⟩,⟨(QX afW),⟨(QX aeU),aq,aq⟩,aq⟩⟩⟩,⟨(QX k28),⟨(QX k44),⟨(QX k76),⟨(QX afy),aq,aq⟩,⟨(QX aew),aq,aq⟩⟩,⟨(QX af4),⟨(QX ae2),aq,aq⟩,aq⟩⟩,⟨(QX k60),⟨(QX k92),⟨(QX afi),aq,aq⟩,⟨(QX aeg),aq,aq⟩⟩,⟨(QX afO),⟨(QX aeM),aq,aq⟩,aq⟩⟩⟩⟩⟩,⟨(QX k6),⟨(QX k10),⟨(QX k18),⟨(QX k34),⟨(QX k66),⟨(QX afI),aq,aq⟩,⟨(QX aeG),aq,aq⟩⟩,⟨(QX k98),⟨(QX afc),aq,aq⟩,aq⟩⟩,⟨(QX k50),⟨(QX k82),⟨(QX afs),aq,aq⟩,⟨(QX aeq),aq,aq⟩⟩,⟨(QX afY),⟨(QX aeW),aq,aq⟩,aq⟩⟩⟩,⟨(QX k26),⟨(QX k42),⟨(QX k74),⟨(QX afA),aq,aq⟩,⟨(QX aey),aq,aq⟩⟩,⟨(QX af6),⟨(QX ae4),aq,aq⟩,aq⟩⟩,⟨(QX k58),⟨(QX k90),⟨(QX afk),aq,aq⟩,⟨(QX aei),aq,aq⟩⟩,⟨(QX afQ),⟨(QX aeO),aq,aq⟩,aq⟩⟩⟩⟩,⟨(QX k14),⟨(QX k22),⟨(QX k38),⟨(QX k70),⟨(QX afE),aq,aq⟩,⟨(QX aeC),aq,aq⟩⟩,⟨(QX aga),⟨(QX ae8),aq,aq⟩,aq⟩⟩,⟨(QX k54),⟨(QX k86),⟨(QX afo),aq,aq⟩,⟨(QX aem),aq,aq⟩⟩,⟨(QX afU),⟨(QX aeS),aq,aq⟩,aq⟩⟩⟩,⟨(QX k30),⟨(QX k46),⟨(QX k78),⟨(QX afw),aq,aq⟩,⟨(QX aeu),aq,aq⟩⟩,⟨(QX af2),⟨(QX ae0),aq,aq⟩,aq⟩⟩,⟨(QX k62),⟨(QX k94),⟨(QX afg),aq,aq⟩,⟨(QX aee),aq,aq⟩⟩,⟨(QX afM),⟨(QX aeK),aq,aq⟩,aq⟩⟩⟩⟩⟩⟩⟩
def ZS:EnvOk prog En:=⟨λf fn h=>pi fnT (λi=>i) f fn Nb h,λf s h=>by cases h⟩
def isT:Out->Heap->Bool:=λo _=>match o with|.val v=>(match v with|.bool b=>b|_=>false)|_=>false
def BB{o:Out}{H:Heap}(h:isT o H=true):o=.val (.bool true):=by cases o with|ex e fr=>cases h|val v=>cases v<;>first|(cases h;done)|(rename_i b;cases b<;>first|rfl|(cases h;done))
end Go.Iso.Gen
end
