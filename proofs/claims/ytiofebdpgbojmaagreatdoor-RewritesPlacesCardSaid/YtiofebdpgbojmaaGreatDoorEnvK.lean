/-
  the code is that of the program.
-/
import Derived.Test.YtiofebdpgbojmaaGreatDoorGen
import Derived.Test.YtiofebdpgbojmaaGreatDoorIsoP5
set_option linter.defProp false
set_option linter.unusedSimpArgs false
set_option linter.unusedVariables false
set_option maxRecDepth 100000
set_option maxHeartbeats 4000000
section
namespace Go.Iso.Gen
open Go.Proofs Go.Proofs.Tryz
def k3:am prog 3=some F3:=by kernel_rfl
def k4:am prog 4=some F4:=by kernel_rfl
def k5:am prog 5=some F5:=by kernel_rfl
def k6:am prog 6=some F6:=by kernel_rfl
def k7:am prog 7=some F7:=by kernel_rfl
def k8:am prog 8=some F8:=by kernel_rfl
def k9:am prog 9=some F9:=by kernel_rfl
def k10:am prog 10=some F10:=by kernel_rfl
def k11:am prog 11=some F11:=by kernel_rfl
def k12:am prog 12=some F12:=by kernel_rfl
def k13:am prog 13=some F13:=by kernel_rfl
def k14:am prog 14=some F14:=by kernel_rfl
def k15:am prog 15=some F15:=by kernel_rfl
def k16:am prog 16=some (QG 16):=by kernel_rfl
def k17:am prog 17=some F17:=by kernel_rfl
def k18:am prog 18=some F18:=by kernel_rfl
def k19:am prog 19=some F19:=by kernel_rfl
def k20:am prog 20=some F20:=by kernel_rfl
def k21:am prog 21=some F21:=by kernel_rfl
def k22:am prog 22=some F22:=by kernel_rfl
def k23:am prog 23=some F23:=by kernel_rfl
def k24:am prog 24=some F24:=by kernel_rfl
def k25:am prog 25=some (QG 25):=by kernel_rfl
def k26:am prog 26=some F26:=by kernel_rfl
def k27:am prog 27=some F27:=by kernel_rfl
def k28:am prog 28=some F28:=by kernel_rfl
def k29:am prog 29=some F29:=by kernel_rfl
def k30:am prog 30=some F30:=by kernel_rfl
def k31:am prog 31=some WV:=by kernel_rfl
def k32:am prog 32=some F32:=by kernel_rfl
def k33:am prog 33=some F33:=by kernel_rfl
def k34:am prog 34=some F34:=by kernel_rfl
def k35:am prog 35=some F35:=by kernel_rfl
def k36:am prog 36=some F36:=by kernel_rfl
def k37:am prog 37=some F37:=by kernel_rfl
def k38:am prog 38=some F38:=by kernel_rfl
def k39:am prog 39=some F39:=by kernel_rfl
def k40:am prog 40=some F40:=by kernel_rfl
def k41:am prog 41=some F41:=by kernel_rfl
def k42:am prog 42=some F42:=by kernel_rfl
def k43:am prog 43=some F43:=by kernel_rfl
def k44:am prog 44=some F44:=by kernel_rfl
def k45:am prog 45=some F45:=by kernel_rfl
def k46:am prog 46=some F46:=by kernel_rfl
def k47:am prog 47=some F47:=by kernel_rfl
def k48:am prog 48=some F48:=by kernel_rfl
def k49:am prog 49=some F49:=by kernel_rfl
def k50:am prog 50=some F50:=by kernel_rfl
def k51:am prog 51=some F51:=by kernel_rfl
def k52:am prog 52=some (QG 52):=by kernel_rfl
def k53:am prog 53=some (QG 53):=by kernel_rfl
def k54:am prog 54=some (QG 54):=by kernel_rfl
def k55:am prog 55=some (QG 55):=by kernel_rfl
def k56:am prog 56=some F56:=by kernel_rfl
def k57:am prog 57=some F57:=by kernel_rfl
def k58:am prog 58=some F58:=by kernel_rfl
def k59:am prog 59=some F59:=by kernel_rfl
def k60:am prog 60=some F60:=by kernel_rfl
def k61:am prog 61=some F61:=by kernel_rfl
def k62:am prog 62=some Qk:=by kernel_rfl
def k63:am prog 63=some F63:=by kernel_rfl
def k64:am prog 64=some F64:=by kernel_rfl
def k65:am prog 65=some F65:=by kernel_rfl
def k66:am prog 66=some F66:=by kernel_rfl
def k67:am prog 67=some F67:=by kernel_rfl
def k68:am prog 68=some F68:=by kernel_rfl
def k69:am prog 69=some F69:=by kernel_rfl
def k70:am prog 70=some F70:=by kernel_rfl
def k71:am prog 71=some F71:=by kernel_rfl
def k72:am prog 72=some F72:=by kernel_rfl
def k73:am prog 73=some F73:=by kernel_rfl
def k74:am prog 74=some F74:=by kernel_rfl
def k75:am prog 75=some F75:=by kernel_rfl
def k76:am prog 76=some F76:=by kernel_rfl
def k77:am prog 77=some F77:=by kernel_rfl
def k78:am prog 78=some F78:=by kernel_rfl
def k79:am prog 79=some F79:=by kernel_rfl
def k80:am prog 80=some F80:=by kernel_rfl
def k81:am prog 81=some F81:=by kernel_rfl
def k82:am prog 82=some F82:=by kernel_rfl
def k83:am prog 83=some F83:=by kernel_rfl
def k84:am prog 84=some F84:=by kernel_rfl
def k85:am prog 85=some F85:=by kernel_rfl
def k86:am prog 86=some F86:=by kernel_rfl
def k87:am prog 87=some F87:=by kernel_rfl
def k88:am prog 88=some F88:=by kernel_rfl
def k89:am prog 89=some F89:=by kernel_rfl
def k90:am prog 90=some F90:=by kernel_rfl
def k91:am prog 91=some (QG 91):=by kernel_rfl
def k92:am prog 92=some F92:=by kernel_rfl
def k93:am prog 93=some F93:=by kernel_rfl
def k94:am prog 94=some F94:=by kernel_rfl
def k95:am prog 95=some (QG 95):=by kernel_rfl
def k96:am prog 96=some F96:=by kernel_rfl
def k97:am prog 97=some F97:=by kernel_rfl
def k98:am prog 98=some F98:=by kernel_rfl
def k99:am prog 99=some F99:=by kernel_rfl
def ajR:am prog 100=some afC:=by kernel_rfl
def ajQ:am prog 101=some afB:=by kernel_rfl
def ajP:am prog 102=some afA:=by kernel_rfl
def ajO:am prog 103=some (QG 103):=by kernel_rfl
def ajN:am prog 104=some (QG 104):=by kernel_rfl
def ajM:am prog 105=some afz:=by kernel_rfl
def ajL:am prog 106=some (QG 106):=by kernel_rfl
def ajK:am prog 107=some (QG 107):=by kernel_rfl
def ajJ:am prog 108=some afy:=by kernel_rfl
def ajI:am prog 109=some afx:=by kernel_rfl
def ajH:am prog 110=some afw:=by kernel_rfl
def ajG:am prog 111=some afv:=by kernel_rfl
def ajF:am prog 112=some afu:=by kernel_rfl
def ajE:am prog 113=some aft:=by kernel_rfl
def ajD:am prog 114=some aaE:=by kernel_rfl
def ajC:am prog 115=some aaD:=by kernel_rfl
def ajB:am prog 116=some aaC:=by kernel_rfl
def ajA:am prog 117=some WX:=by kernel_rfl
def ajz:am prog 118=some aaB:=by kernel_rfl
def ajy:am prog 119=some WW:=by kernel_rfl
def ajx:am prog 120=some (QG 120):=by kernel_rfl
def ajw:am prog 121=some (QG 121):=by kernel_rfl
def ajv:am prog 122=some aaz:=by kernel_rfl
def aju:am prog 123=some aay:=by kernel_rfl
def ajt:am prog 124=some aax:=by kernel_rfl
def ajs:am prog 125=some aaw:=by kernel_rfl
def ajr:am prog 126=some aav:=by kernel_rfl
def ajq:am prog 127=some aau:=by kernel_rfl
def ajp:am prog 128=some aat:=by kernel_rfl
def ajo:am prog 129=some aas:=by kernel_rfl
def ajn:am prog 130=some aar:=by kernel_rfl
def ajm:am prog 131=some aaq:=by kernel_rfl
def ajl:am prog 132=some aap:=by kernel_rfl
def ajk:am prog 133=some aao:=by kernel_rfl
def ajj:am prog 134=some aan:=by kernel_rfl
def aji:am prog 135=some aam:=by kernel_rfl
def ajh:am prog 136=some aal:=by kernel_rfl
def ajg:am prog 137=some aak:=by kernel_rfl
def ajf:am prog 138=some OX:=by kernel_rfl
def aje:am prog 139=some aaj:=by kernel_rfl
def ajd:am prog 140=some aai:=by kernel_rfl
def ajc:am prog 141=some aah:=by kernel_rfl
def ajb:am prog 142=some aag:=by kernel_rfl
def aja:am prog 143=some F143:=by kernel_rfl
def ai9:am prog 144=some So:=by kernel_rfl
def ai8:am prog 145=some (QG 145):=by kernel_rfl
def ai7:am prog 146=some (QG 146):=by kernel_rfl
def ai6:am prog 147=some aaf:=by kernel_rfl
def ai5:am prog 148=some aae:=by kernel_rfl
def ai4:am prog 149=some aad:=by kernel_rfl
def ai3:am prog 150=some (QG 150):=by kernel_rfl
def ai2:am prog 151=some afr:=by kernel_rfl
def ai1:am prog 152=some afq:=by kernel_rfl
def ai0:am prog 153=some (QG 153):=by kernel_rfl
def aiZ:am prog 155=some (QG 155):=by kernel_rfl
def aiY:am prog 156=some Mn:=by kernel_rfl
def aiX:am prog 157=some aac:=by kernel_rfl
def aiW:am prog 158=some aab:=by kernel_rfl
def aiV:am prog 159=some aaa:=by kernel_rfl
def aiU:am prog 160=some Z9:=by kernel_rfl
def aiT:am prog 161=some Z8:=by kernel_rfl
def aiS:am prog 162=some Z7:=by kernel_rfl
def aiR:am prog 163=some Z6:=by kernel_rfl
def aiQ:am prog 164=some Z5:=by kernel_rfl
def aiP:am prog 165=some OW:=by kernel_rfl
def aiO:am prog 166=some Z4:=by kernel_rfl
def aiN:am prog 167=some Z3:=by kernel_rfl
def aiM:am prog 168=some Z2:=by kernel_rfl
def aiL:am prog 169=some Z1:=by kernel_rfl
def aiK:am prog 170=some F170:=by kernel_rfl
def aiJ:am prog 171=some Z0:=by kernel_rfl
def aiI:am prog 172=some F172:=by kernel_rfl
def aiH:am prog 173=some ZZ:=by kernel_rfl
def aiG:am prog 174=some ZY:=by kernel_rfl
def aiF:am prog 175=some ZX:=by kernel_rfl
def aiE:am prog 176=some ZW:=by kernel_rfl
def aiD:am prog 177=some ZV:=by kernel_rfl
def aiC:am prog 178=some ZU:=by kernel_rfl
def aiB:am prog 179=some (QG 179):=by kernel_rfl
def aiA:am prog 180=some (QG 180):=by kernel_rfl
def aiz:am prog 181=some (QG 181):=by kernel_rfl
def aiy:am prog 182=some (QG 182):=by kernel_rfl
def aix:am prog 183=some (QG 183):=by kernel_rfl
def aiw:am prog 184=some (QG 184):=by kernel_rfl
def aiv:am prog 185=some (QG 185):=by kernel_rfl
def aiu:am prog 186=some (QG 186):=by kernel_rfl
def ait:am prog 187=some (QG 187):=by kernel_rfl
def ais:am prog 188=some (QG 188):=by kernel_rfl
def air:am prog 189=some ZT:=by kernel_rfl
def aiq:am prog 190=some (QG 190):=by kernel_rfl
def aip:am prog 191=some (QG 191):=by kernel_rfl
def aio:am prog 192=some (QG 192):=by kernel_rfl
def ain:am prog 193=some (QG 193):=by kernel_rfl
def aim:am prog 194=some (QG 194):=by kernel_rfl
def ail:am prog 195=some (QG 195):=by kernel_rfl
def aik:am prog 196=some (QG 196):=by kernel_rfl
def aij:am prog 197=some (QG 197):=by kernel_rfl
def aii:am prog 198=some afp:=by kernel_rfl
def aih:am prog 199=some (QG 199):=by kernel_rfl
def aig:am prog 200=some ZS:=by kernel_rfl
def aif:am prog 201=some ZR:=by kernel_rfl
def aie:am prog 202=some ZQ:=by kernel_rfl
def aid:am prog 203=some ZP:=by kernel_rfl
def aic:am prog 204=some ZO:=by kernel_rfl
def aib:am prog 205=some ZN:=by kernel_rfl
def aia:am prog 206=some JM:=by kernel_rfl
def ah9:am prog 207=some ZM:=by kernel_rfl
def ah8:am prog 208=some ZL:=by kernel_rfl
def ah7:am prog 209=some ZK:=by kernel_rfl
def ah6:am prog 210=some ZJ:=by kernel_rfl
def ah5:am prog 211=some ZI:=by kernel_rfl
def ah4:am prog 212=some ZH:=by kernel_rfl
def ah3:am prog 213=some ZG:=by kernel_rfl
def ah2:am prog 214=some ZF:=by kernel_rfl
def ah1:am prog 215=some F215:=by kernel_rfl
def ah0:am prog 216=some (QG 216):=by kernel_rfl
def ahZ:am prog 217=some (QG 217):=by kernel_rfl
def ahY:am prog 218=some (QG 218):=by kernel_rfl
def ahX:am prog 219=some (QG 219):=by kernel_rfl
def ahW:am prog 220=some (QG 220):=by kernel_rfl
def ahV:am prog 221=some (QG 221):=by kernel_rfl
def ahU:am prog 222=some (QG 222):=by kernel_rfl
def ahT:am prog 223=some (QG 223):=by kernel_rfl
def ahS:am prog 224=some (QG 224):=by kernel_rfl
def ahR:am prog 225=some F225:=by kernel_rfl
def ahQ:am prog 226=some ZE:=by kernel_rfl
def ahP:am prog 227=some OV:=by kernel_rfl
def ahO:am prog 228=some yx:=by kernel_rfl
def ahN:am prog 229=some ZD:=by kernel_rfl
def ahM:am prog 230=some ZC:=by kernel_rfl
def ahL:am prog 231=some (QG 231):=by kernel_rfl
def ahK:am prog 232=some (QG 232):=by kernel_rfl
def ahJ:am prog 233=some ZB:=by kernel_rfl
def ahI:am prog 234=some ZA:=by kernel_rfl
def ahH:am prog 235=some Zz:=by kernel_rfl
def ahG:am prog 236=some Zy:=by kernel_rfl
def QN{α:Type}{p:α->Prop}:∀x:α,none=some x->p x:=λ_ h=>by cases h
def QX{α:Type}{p:α->Prop}{a:α}(h:p a):∀x:α,some a=some x->p x:=λ_ e=>by cases e;exact h
def PJ:fnT.All (λf fn=>am prog f=some fn) (λi=>i):=⟨QN,⟨QN,⟨(QX k3),⟨(QX k7),⟨(QX k15),⟨(QX k31),⟨(QX k63),⟨(QX ajq),ar,ar⟩,⟨(QX aip),ar,ar⟩⟩,⟨(QX k95),⟨(QX aiV),ar,ar⟩,⟨(QX ahT),ar,ar⟩⟩⟩,⟨(QX k47),⟨(QX k79),⟨(QX aja),ar,ar⟩,⟨(QX ah9),ar,ar⟩⟩,⟨(QX ajG),⟨(QX aiF),ar,ar⟩,ar⟩⟩⟩,⟨(QX k23),⟨(QX k39),⟨(QX k71),⟨(QX aji),ar,ar⟩,⟨(QX aih),ar,ar⟩⟩,⟨(QX ajO),⟨(QX aiN),ar,ar⟩,⟨(QX ahL),ar,ar⟩⟩⟩,⟨(QX k55),⟨(QX k87),⟨(QX ai2),ar,ar⟩,⟨(QX ah1),ar,ar⟩⟩,⟨(QX ajy),⟨(QX aix),ar,ar⟩,ar⟩⟩⟩⟩,⟨(QX k11),⟨(QX k19),⟨(QX k35),⟨(QX k67),⟨(QX ajm),ar,ar⟩,⟨(QX ail),ar,ar⟩⟩,⟨(QX k99),⟨(QX aiR),ar,ar⟩,⟨(QX ahP),ar,ar⟩⟩⟩,⟨(QX k51),⟨(QX k83),⟨(QX ai6),ar,ar⟩,⟨(QX ah5),ar,ar⟩⟩,⟨(QX ajC),⟨(QX aiB),ar,ar⟩,ar⟩⟩⟩,⟨(QX k27),⟨(QX k43),⟨(QX k75),⟨(QX aje),ar,ar⟩,⟨(QX aid),ar,ar⟩⟩,⟨(QX ajK),⟨(QX aiJ),ar,ar⟩,⟨(QX ahH),ar,ar⟩⟩⟩,⟨(QX k59),⟨(QX k91),⟨(QX aiZ),ar,ar⟩,⟨(QX ahX),ar,ar⟩⟩,⟨(QX aju),⟨(QX ait),ar,ar⟩,ar⟩⟩⟩⟩⟩,⟨(QX k5),⟨(QX k9),⟨(QX k17),⟨(QX k33),⟨(QX k65),⟨(QX ajo),ar,ar⟩,⟨(QX ain),ar,ar⟩⟩,⟨(QX k97),⟨(QX aiT),ar,ar⟩,⟨(QX ahR),ar,ar⟩⟩⟩,⟨(QX k49),⟨(QX k81),⟨(QX ai8),ar,ar⟩,⟨(QX ah7),ar,ar⟩⟩,⟨(QX ajE),⟨(QX aiD),ar,ar⟩,ar⟩⟩⟩,⟨(QX k25),⟨(QX k41),⟨(QX k73),⟨(QX ajg),ar,ar⟩,⟨(QX aif),ar,ar⟩⟩,⟨(QX ajM),⟨(QX aiL),ar,ar⟩,⟨(QX ahJ),ar,ar⟩⟩⟩,⟨(QX k57),⟨(QX k89),⟨(QX ai0),ar,ar⟩,⟨(QX ahZ),ar,ar⟩⟩,⟨(QX ajw),⟨(QX aiv),ar,ar⟩,ar⟩⟩⟩⟩,⟨(QX k13),⟨(QX k21),⟨(QX k37),⟨(QX k69),⟨(QX ajk),ar,ar⟩,⟨(QX aij),ar,ar⟩⟩,⟨(QX ajQ),⟨(QX aiP),ar,ar⟩,⟨(QX ahN),ar,ar⟩⟩⟩,⟨(QX k53),⟨(QX k85),⟨(QX ai4),ar,ar⟩,⟨(QX ah3),ar,ar⟩⟩,⟨(QX ajA),⟨(QX aiz),ar,ar⟩,ar⟩⟩⟩,⟨(QX k29),⟨(QX k45),⟨(QX k77),⟨(QX ajc),ar,ar⟩,⟨(QX aib),ar,ar⟩⟩,⟨(QX ajI),⟨(QX aiH),ar,ar⟩,ar⟩⟩,⟨(QX k61),⟨(QX k93),⟨(QX aiX),ar,ar⟩,⟨(QX ahV),ar,ar⟩⟩,⟨(QX ajs),⟨(QX air),ar,ar⟩,ar⟩⟩⟩⟩⟩⟩,⟨QN,⟨(QX k4),⟨(QX k8),⟨(QX k16),⟨(QX k32),⟨(QX k64),⟨(QX ajp),ar,ar⟩,⟨(QX aio),ar,ar⟩⟩,⟨(QX k96),⟨(QX aiU),ar,ar⟩,⟨(QX ahS),ar,ar⟩⟩⟩,⟨(QX k48),⟨(QX k80),⟨(QX ai9),ar,ar⟩,⟨(QX ah8),ar,ar⟩⟩,⟨(QX ajF),⟨(QX aiE),ar,ar⟩,ar⟩⟩⟩,⟨(QX k24),⟨(QX k40),⟨(QX k72),⟨(QX ajh),ar,ar⟩,⟨(QX aig),ar,ar⟩⟩,⟨(QX ajN),⟨(QX aiM),ar,ar⟩,⟨(QX ahK),ar,ar⟩⟩⟩,⟨(QX k56),⟨(QX k88),⟨(QX ai1),ar,ar⟩,⟨(QX ah0),ar,ar⟩⟩,⟨(QX ajx),⟨(QX aiw),ar,ar⟩,ar⟩⟩⟩⟩,⟨(QX k12),⟨(QX k20),⟨(QX k36),⟨(QX k68),⟨(QX ajl),ar,ar⟩,⟨(QX aik),ar,ar⟩⟩,⟨(QX ajR),⟨(QX aiQ),ar,ar⟩,⟨(QX ahO),ar,ar⟩⟩⟩,⟨(QX k52),⟨(QX k84),⟨(QX ai5),ar,ar⟩,⟨(QX ah4),ar,ar⟩⟩,⟨(QX ajB),⟨(QX aiA),ar,ar⟩,ar⟩⟩⟩,⟨(QX k28),⟨(QX k44),⟨(QX k76),⟨(QX ajd),ar,ar⟩,⟨(QX aic),ar,ar⟩⟩,⟨(QX ajJ),⟨(QX aiI),ar,ar⟩,⟨(QX ahG),ar,ar⟩⟩⟩,⟨(QX k60),⟨(QX k92),⟨(QX aiY),ar,ar⟩,⟨(QX ahW),ar,ar⟩⟩,⟨(QX ajt),⟨(QX ais),ar,ar⟩,ar⟩⟩⟩⟩⟩,⟨(QX k6),⟨(QX k10),⟨(QX k18),⟨(QX k34),⟨(QX k66),⟨(QX ajn),ar,ar⟩,⟨(QX aim),ar,ar⟩⟩,⟨(QX k98),⟨(QX aiS),ar,ar⟩,⟨(QX ahQ),ar,ar⟩⟩⟩,⟨(QX k50),⟨(QX k82),⟨(QX ai7),ar,ar⟩,⟨(QX ah6),ar,ar⟩⟩,⟨(QX ajD),⟨(QX aiC),ar,ar⟩,ar⟩⟩⟩,⟨(QX k26),⟨(QX k42),⟨(QX k74),⟨(QX ajf),ar,ar⟩,⟨(QX aie),ar,ar⟩⟩,⟨(QX ajL),⟨(QX aiK),ar,ar⟩,⟨(QX ahI),ar,ar⟩⟩⟩,⟨(QX k58),⟨(QX k90),ar,⟨(QX ahY),ar,ar⟩⟩,⟨(QX ajv),⟨(QX aiu),ar,ar⟩,ar⟩⟩⟩⟩,⟨(QX k14),⟨(QX k22),⟨(QX k38),⟨(QX k70),⟨(QX ajj),ar,ar⟩,⟨(QX aii),ar,ar⟩⟩,⟨(QX ajP),⟨(QX aiO),ar,ar⟩,⟨(QX ahM),ar,ar⟩⟩⟩,⟨(QX k54),⟨(QX k86),⟨(QX ai3),ar,ar⟩,⟨(QX ah2),ar,ar⟩⟩,⟨(QX ajz),⟨(QX aiy),ar,ar⟩,ar⟩⟩⟩,⟨(QX k30),⟨(QX k46),⟨(QX k78),⟨(QX ajb),ar,ar⟩,⟨(QX aia),ar,ar⟩⟩,⟨(QX ajH),⟨(QX aiG),ar,ar⟩,ar⟩⟩,⟨(QX k62),⟨(QX k94),⟨(QX aiW),ar,ar⟩,⟨(QX ahU),ar,ar⟩⟩,⟨(QX ajr),⟨(QX aiq),ar,ar⟩,ar⟩⟩⟩⟩⟩⟩⟩
def ake:EnvOk prog En:=⟨λf fn h=>qX fnT (λi=>i) f fn PJ h,λf s h=>by cases h⟩
def isT:Out->Heap->Bool:=λo _=>match o with|.val v=>(match v with|.bool b=>b|_=>false)|_=>false
def Vv{o:Out}{H:Heap}(h:isT o H=true):o=.val (.bool true):=by cases o with|ex e fr=>cases h|val v=>cases v<;>first|(cases h;done)|(rename_i b;cases b<;>first|rfl|(cases h;done))
end Go.Iso.Gen
end
