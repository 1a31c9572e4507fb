/-
  the code is that of the program.
-/
import Derived.Test.YtojcplbhmllaoaaGreatDoorGen
import Derived.Test.YtojcplbhmllaoaaGreatDoorIsoP5
set_option linter.defProp false
set_option linter.unusedSimpArgs false
set_option linter.unusedVariables false
set_option maxRecDepth 100000
set_option maxHeartbeats 4000000
section
namespace Go.Iso.Gen
open Go.Proofs Go.Proofs.Tryz
def k3:am prog 3=some F3:=by kernel_rfl
def k4:am prog 4=some F4:=by kernel_rfl
def k5:am prog 5=some F5:=by kernel_rfl
def k6:am prog 6=some F6:=by kernel_rfl
def k7:am prog 7=some F7:=by kernel_rfl
def k8:am prog 8=some F8:=by kernel_rfl
def k9:am prog 9=some F9:=by kernel_rfl
def k10:am prog 10=some F10:=by kernel_rfl
def k11:am prog 11=some F11:=by kernel_rfl
def k12:am prog 12=some F12:=by kernel_rfl
def k13:am prog 13=some F13:=by kernel_rfl
def k14:am prog 14=some F14:=by kernel_rfl
def k15:am prog 15=some F15:=by kernel_rfl
def k16:am prog 16=some F16:=by kernel_rfl
def k17:am prog 17=some F17:=by kernel_rfl
def k18:am prog 18=some F18:=by kernel_rfl
def k19:am prog 19=some F19:=by kernel_rfl
def k20:am prog 20=some F20:=by kernel_rfl
def k21:am prog 21=some F21:=by kernel_rfl
def k22:am prog 22=some F22:=by kernel_rfl
def k23:am prog 23=some F23:=by kernel_rfl
def k24:am prog 24=some F24:=by kernel_rfl
def k25:am prog 25=some ZT:=by kernel_rfl
def k26:am prog 26=some F26:=by kernel_rfl
def k27:am prog 27=some F27:=by kernel_rfl
def k28:am prog 28=some F28:=by kernel_rfl
def k29:am prog 29=some F29:=by kernel_rfl
def k30:am prog 30=some F30:=by kernel_rfl
def k31:am prog 31=some F31:=by kernel_rfl
def k32:am prog 32=some F32:=by kernel_rfl
def k33:am prog 33=some F33:=by kernel_rfl
def k34:am prog 34=some F34:=by kernel_rfl
def k35:am prog 35=some F35:=by kernel_rfl
def k36:am prog 36=some F36:=by kernel_rfl
def k37:am prog 37=some F37:=by kernel_rfl
def k38:am prog 38=some F38:=by kernel_rfl
def k39:am prog 39=some F39:=by kernel_rfl
def k40:am prog 40=some F40:=by kernel_rfl
def k41:am prog 41=some F41:=by kernel_rfl
def k42:am prog 42=some F42:=by kernel_rfl
def k43:am prog 43=some F43:=by kernel_rfl
def k44:am prog 44=some F44:=by kernel_rfl
def k45:am prog 45=some F45:=by kernel_rfl
def k46:am prog 46=some F46:=by kernel_rfl
def k47:am prog 47=some F47:=by kernel_rfl
def k48:am prog 48=some F48:=by kernel_rfl
def k49:am prog 49=some F49:=by kernel_rfl
def k50:am prog 50=some F50:=by kernel_rfl
def k51:am prog 51=some F51:=by kernel_rfl
def k52:am prog 52=some F52:=by kernel_rfl
def k53:am prog 53=some F53:=by kernel_rfl
def k54:am prog 54=some F54:=by kernel_rfl
def k55:am prog 55=some F55:=by kernel_rfl
def k56:am prog 56=some F56:=by kernel_rfl
def k57:am prog 57=some F57:=by kernel_rfl
def k58:am prog 58=some F58:=by kernel_rfl
def k59:am prog 59=some F59:=by kernel_rfl
def k60:am prog 60=some F60:=by kernel_rfl
def k61:am prog 61=some F61:=by kernel_rfl
def k62:am prog 62=some F62:=by kernel_rfl
def k63:am prog 63=some F63:=by kernel_rfl
def k64:am prog 64=some F64:=by kernel_rfl
def k65:am prog 65=some F65:=by kernel_rfl
def k66:am prog 66=some F66:=by kernel_rfl
def k67:am prog 67=some F67:=by kernel_rfl
def k68:am prog 68=some F68:=by kernel_rfl
def k69:am prog 69=some F69:=by kernel_rfl
def k70:am prog 70=some F70:=by kernel_rfl
def k71:am prog 71=some F71:=by kernel_rfl
def k72:am prog 72=some F72:=by kernel_rfl
def k73:am prog 73=some F73:=by kernel_rfl
def k74:am prog 74=some F74:=by kernel_rfl
def k75:am prog 75=some F75:=by kernel_rfl
def k76:am prog 76=some F76:=by kernel_rfl
def k77:am prog 77=some F77:=by kernel_rfl
def k78:am prog 78=some F78:=by kernel_rfl
def k79:am prog 79=some F79:=by kernel_rfl
def k80:am prog 80=some F80:=by kernel_rfl
def k81:am prog 81=some F81:=by kernel_rfl
def k82:am prog 82=some F82:=by kernel_rfl
def k83:am prog 83=some F83:=by kernel_rfl
def k84:am prog 84=some F84:=by kernel_rfl
def k85:am prog 85=some F85:=by kernel_rfl
def k86:am prog 86=some F86:=by kernel_rfl
def k87:am prog 87=some F87:=by kernel_rfl
def k88:am prog 88=some F88:=by kernel_rfl
def k89:am prog 89=some F89:=by kernel_rfl
def k90:am prog 90=some F90:=by kernel_rfl
def k91:am prog 91=some F91:=by kernel_rfl
def k92:am prog 92=some F92:=by kernel_rfl
def k93:am prog 93=some F93:=by kernel_rfl
def k94:am prog 94=some (QG 94):=by kernel_rfl
def k95:am prog 95=some (QG 95):=by kernel_rfl
def k96:am prog 96=some F96:=by kernel_rfl
def k97:am prog 97=some F97:=by kernel_rfl
def k98:am prog 98=some F98:=by kernel_rfl
def k99:am prog 99=some (QG 99):=by kernel_rfl
def ahp:am prog 100=some Za:=by kernel_rfl
def aho:am prog 101=some Y9:=by kernel_rfl
def ahn:am prog 102=some Y8:=by kernel_rfl
def ahm:am prog 103=some Y7:=by kernel_rfl
def ahl:am prog 104=some Y6:=by kernel_rfl
def ahk:am prog 105=some Y5:=by kernel_rfl
def ahj:am prog 106=some Y4:=by kernel_rfl
def ahi:am prog 107=some Y3:=by kernel_rfl
def ahh:am prog 108=some Y2:=by kernel_rfl
def ahg:am prog 109=some Y0:=by kernel_rfl
def ahf:am prog 110=some N9:=by kernel_rfl
def ahe:am prog 111=some YZ:=by kernel_rfl
def ahd:am prog 112=some YY:=by kernel_rfl
def ahc:am prog 113=some YX:=by kernel_rfl
def ahb:am prog 114=some F114:=by kernel_rfl
def aha:am prog 115=some YW:=by kernel_rfl
def ag9:am prog 116=some F116:=by kernel_rfl
def ag8:am prog 117=some YV:=by kernel_rfl
def ag7:am prog 118=some YU:=by kernel_rfl
def ag6:am prog 119=some YT:=by kernel_rfl
def ag5:am prog 120=some YS:=by kernel_rfl
def ag4:am prog 121=some YR:=by kernel_rfl
def ag3:am prog 122=some YQ:=by kernel_rfl
def ag2:am prog 123=some YP:=by kernel_rfl
def ag1:am prog 124=some (QG 124):=by kernel_rfl
def ag0:am prog 125=some (QG 125):=by kernel_rfl
def agZ:am prog 126=some (QG 126):=by kernel_rfl
def agY:am prog 127=some (QG 127):=by kernel_rfl
def agX:am prog 128=some (QG 128):=by kernel_rfl
def agW:am prog 129=some (QG 129):=by kernel_rfl
def agV:am prog 130=some (QG 130):=by kernel_rfl
def agU:am prog 131=some (QG 131):=by kernel_rfl
def agT:am prog 132=some (QG 132):=by kernel_rfl
def agS:am prog 133=some (QG 133):=by kernel_rfl
def agR:am prog 134=some YO:=by kernel_rfl
def agQ:am prog 135=some YN:=by kernel_rfl
def agP:am prog 136=some (QG 136):=by kernel_rfl
def agO:am prog 137=some (QG 137):=by kernel_rfl
def agN:am prog 138=some (QG 138):=by kernel_rfl
def agM:am prog 139=some (QG 139):=by kernel_rfl
def agL:am prog 140=some (QG 140):=by kernel_rfl
def agK:am prog 141=some (QG 141):=by kernel_rfl
def agJ:am prog 142=some (QG 142):=by kernel_rfl
def agI:am prog 143=some (QG 143):=by kernel_rfl
def agH:am prog 144=some YM:=by kernel_rfl
def agG:am prog 145=some YL:=by kernel_rfl
def agF:am prog 146=some YK:=by kernel_rfl
def agE:am prog 147=some YJ:=by kernel_rfl
def agD:am prog 148=some YI:=by kernel_rfl
def agC:am prog 149=some YH:=by kernel_rfl
def agB:am prog 150=some Iq:=by kernel_rfl
def agA:am prog 151=some YG:=by kernel_rfl
def agz:am prog 152=some YF:=by kernel_rfl
def agy:am prog 153=some YE:=by kernel_rfl
def agx:am prog 154=some YD:=by kernel_rfl
def agw:am prog 155=some YC:=by kernel_rfl
def agv:am prog 156=some YB:=by kernel_rfl
def agu:am prog 157=some YA:=by kernel_rfl
def agt:am prog 158=some Yz:=by kernel_rfl
def ags:am prog 159=some F159:=by kernel_rfl
def agr:am prog 160=some (QG 160):=by kernel_rfl
def agq:am prog 161=some (QG 161):=by kernel_rfl
def agp:am prog 162=some (QG 162):=by kernel_rfl
def ago:am prog 163=some (QG 163):=by kernel_rfl
def agn:am prog 164=some (QG 164):=by kernel_rfl
def agm:am prog 165=some (QG 165):=by kernel_rfl
def agl:am prog 166=some (QG 166):=by kernel_rfl
def agk:am prog 167=some (QG 167):=by kernel_rfl
def agj:am prog 168=some F168:=by kernel_rfl
def agi:am prog 169=some Yy:=by kernel_rfl
def agh:am prog 170=some N7:=by kernel_rfl
def agf:am prog 171=some we:=by kernel_rfl
def age:am prog 172=some Yx:=by kernel_rfl
def agd:am prog 173=some Yw:=by kernel_rfl
def agc:am prog 174=some (QG 174):=by kernel_rfl
def agb:am prog 175=some (QG 175):=by kernel_rfl
def aga:am prog 176=some Yu:=by kernel_rfl
def af9:am prog 177=some Yt:=by kernel_rfl
def af8:am prog 178=some Ys:=by kernel_rfl
def af7:am prog 179=some Yr:=by kernel_rfl
def QN{α:Type}{p:α->Prop}:∀x:α,none=some x->p x:=λ_ h=>by cases h
def QX{α:Type}{p:α->Prop}{a:α}(h:p a):∀x:α,some a=some x->p x:=λ_ e=>by cases e;exact h
def OO:fnT.All (λf fn=>am prog f=some fn) (λi=>i):=⟨QN,⟨QN,⟨(QX k3),⟨(QX k7),⟨(QX k15),⟨(QX k31),⟨(QX k63),⟨(QX agY),ar,ar⟩,ar⟩,⟨(QX k95),⟨(QX ags),ar,ar⟩,ar⟩⟩,⟨(QX k47),⟨(QX k79),⟨(QX agI),ar,ar⟩,ar⟩,⟨(QX ahe),⟨(QX agb),ar,ar⟩,ar⟩⟩⟩,⟨(QX k23),⟨(QX k39),⟨(QX k71),⟨(QX agQ),ar,ar⟩,ar⟩,⟨(QX ahm),⟨(QX agk),ar,ar⟩,ar⟩⟩,⟨(QX k55),⟨(QX k87),⟨(QX agA),ar,ar⟩,ar⟩,⟨(QX ag6),ar,ar⟩⟩⟩⟩,⟨(QX k11),⟨(QX k19),⟨(QX k35),⟨(QX k67),⟨(QX agU),ar,ar⟩,ar⟩,⟨(QX k99),⟨(QX ago),ar,ar⟩,ar⟩⟩,⟨(QX k51),⟨(QX k83),⟨(QX agE),ar,ar⟩,ar⟩,⟨(QX aha),⟨(QX af7),ar,ar⟩,ar⟩⟩⟩,⟨(QX k27),⟨(QX k43),⟨(QX k75),⟨(QX agM),ar,ar⟩,ar⟩,⟨(QX ahi),⟨(QX agf),ar,ar⟩,ar⟩⟩,⟨(QX k59),⟨(QX k91),⟨(QX agw),ar,ar⟩,ar⟩,⟨(QX ag2),ar,ar⟩⟩⟩⟩⟩,⟨(QX k5),⟨(QX k9),⟨(QX k17),⟨(QX k33),⟨(QX k65),⟨(QX agW),ar,ar⟩,ar⟩,⟨(QX k97),⟨(QX agq),ar,ar⟩,ar⟩⟩,⟨(QX k49),⟨(QX k81),⟨(QX agG),ar,ar⟩,ar⟩,⟨(QX ahc),⟨(QX af9),ar,ar⟩,ar⟩⟩⟩,⟨(QX k25),⟨(QX k41),⟨(QX k73),⟨(QX agO),ar,ar⟩,ar⟩,⟨(QX ahk),⟨(QX agi),ar,ar⟩,ar⟩⟩,⟨(QX k57),⟨(QX k89),⟨(QX agy),ar,ar⟩,ar⟩,⟨(QX ag4),ar,ar⟩⟩⟩⟩,⟨(QX k13),⟨(QX k21),⟨(QX k37),⟨(QX k69),⟨(QX agS),ar,ar⟩,ar⟩,⟨(QX aho),⟨(QX agm),ar,ar⟩,ar⟩⟩,⟨(QX k53),⟨(QX k85),⟨(QX agC),ar,ar⟩,ar⟩,⟨(QX ag8),ar,ar⟩⟩⟩,⟨(QX k29),⟨(QX k45),⟨(QX k77),⟨(QX agK),ar,ar⟩,ar⟩,⟨(QX ahg),⟨(QX agd),ar,ar⟩,ar⟩⟩,⟨(QX k61),⟨(QX k93),⟨(QX agu),ar,ar⟩,ar⟩,⟨(QX ag0),ar,ar⟩⟩⟩⟩⟩⟩,⟨QN,⟨(QX k4),⟨(QX k8),⟨(QX k16),⟨(QX k32),⟨(QX k64),⟨(QX agX),ar,ar⟩,ar⟩,⟨(QX k96),⟨(QX agr),ar,ar⟩,ar⟩⟩,⟨(QX k48),⟨(QX k80),⟨(QX agH),ar,ar⟩,ar⟩,⟨(QX ahd),⟨(QX aga),ar,ar⟩,ar⟩⟩⟩,⟨(QX k24),⟨(QX k40),⟨(QX k72),⟨(QX agP),ar,ar⟩,ar⟩,⟨(QX ahl),⟨(QX agj),ar,ar⟩,ar⟩⟩,⟨(QX k56),⟨(QX k88),⟨(QX agz),ar,ar⟩,ar⟩,⟨(QX ag5),ar,ar⟩⟩⟩⟩,⟨(QX k12),⟨(QX k20),⟨(QX k36),⟨(QX k68),⟨(QX agT),ar,ar⟩,ar⟩,⟨(QX ahp),⟨(QX agn),ar,ar⟩,ar⟩⟩,⟨(QX k52),⟨(QX k84),⟨(QX agD),ar,ar⟩,ar⟩,⟨(QX ag9),ar,ar⟩⟩⟩,⟨(QX k28),⟨(QX k44),⟨(QX k76),⟨(QX agL),ar,ar⟩,ar⟩,⟨(QX ahh),⟨(QX age),ar,ar⟩,ar⟩⟩,⟨(QX k60),⟨(QX k92),⟨(QX agv),ar,ar⟩,ar⟩,⟨(QX ag1),ar,ar⟩⟩⟩⟩⟩,⟨(QX k6),⟨(QX k10),⟨(QX k18),⟨(QX k34),⟨(QX k66),⟨(QX agV),ar,ar⟩,ar⟩,⟨(QX k98),⟨(QX agp),ar,ar⟩,ar⟩⟩,⟨(QX k50),⟨(QX k82),⟨(QX agF),ar,ar⟩,ar⟩,⟨(QX ahb),⟨(QX af8),ar,ar⟩,ar⟩⟩⟩,⟨(QX k26),⟨(QX k42),⟨(QX k74),⟨(QX agN),ar,ar⟩,ar⟩,⟨(QX ahj),⟨(QX agh),ar,ar⟩,ar⟩⟩,⟨(QX k58),⟨(QX k90),⟨(QX agx),ar,ar⟩,ar⟩,⟨(QX ag3),ar,ar⟩⟩⟩⟩,⟨(QX k14),⟨(QX k22),⟨(QX k38),⟨(QX k70),⟨(QX agR),ar,ar⟩,ar⟩,⟨(QX ahn),⟨(QX agl),ar,ar⟩,ar⟩⟩,⟨(QX k54),⟨(QX k86),⟨(QX agB),ar,ar⟩,ar⟩,⟨(QX ag7),ar,ar⟩⟩⟩,⟨(QX k30),⟨(QX k46),⟨(QX k78),⟨(QX agJ),ar,ar⟩,ar⟩,⟨(QX ahf),⟨(QX agc),ar,ar⟩,ar⟩⟩,⟨(QX k62),⟨(QX k94),⟨(QX agt),ar,ar⟩,ar⟩,⟨(QX agZ),ar,ar⟩⟩⟩⟩⟩⟩⟩
def ahL:EnvOk prog En:=⟨λf fn h=>pK fnT (λi=>i) f fn OO h,λf s h=>by cases h⟩
def isT:Out->Heap->Bool:=λo _=>match o with|.val v=>(match v with|.bool b=>b|_=>false)|_=>false
def Up{o:Out}{H:Heap}(h:isT o H=true):o=.val (.bool true):=by cases o with|ex e fr=>cases h|val v=>cases v<;>first|(cases h;done)|(rename_i b;cases b<;>first|rfl|(cases h;done))
end Go.Iso.Gen
end
