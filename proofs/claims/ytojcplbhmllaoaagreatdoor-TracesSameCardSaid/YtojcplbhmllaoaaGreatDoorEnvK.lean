/-
  the code is that of the program.
-/
import Derived.Test.YtojcplbhmllaoaaGreatDoorGen
import Derived.Test.YtojcplbhmllaoaaGreatDoorIsoP5
set_option linter.defProp false
set_option linter.unusedSimpArgs false
set_option linter.unusedVariables false
set_option maxRecDepth 100000
set_option maxHeartbeats 4000000
section
namespace Go.Iso.Gen
open Go.Proofs Go.Proofs.Tryz
def k3:al prog 3=some F3:=by kernel_rfl
def k4:al prog 4=some F4:=by kernel_rfl
def k5:al prog 5=some F5:=by kernel_rfl
def k6:al prog 6=some F6:=by kernel_rfl
def k7:al prog 7=some F7:=by kernel_rfl
def k8:al prog 8=some F8:=by kernel_rfl
def k9:al prog 9=some F9:=by kernel_rfl
def k10:al prog 10=some F10:=by kernel_rfl
def k11:al prog 11=some F11:=by kernel_rfl
def k12:al prog 12=some F12:=by kernel_rfl
def k13:al prog 13=some F13:=by kernel_rfl
def k14:al prog 14=some F14:=by kernel_rfl
def k15:al prog 15=some F15:=by kernel_rfl
def k16:al prog 16=some F16:=by kernel_rfl
def k17:al prog 17=some F17:=by kernel_rfl
def k18:al prog 18=some F18:=by kernel_rfl
def k19:al prog 19=some F19:=by kernel_rfl
def k20:al prog 20=some F20:=by kernel_rfl
def k21:al prog 21=some F21:=by kernel_rfl
def k22:al prog 22=some F22:=by kernel_rfl
def k23:al prog 23=some F23:=by kernel_rfl
def k24:al prog 24=some F24:=by kernel_rfl
def k25:al prog 25=some Zf:=by kernel_rfl
def k26:al prog 26=some F26:=by kernel_rfl
def k27:al prog 27=some F27:=by kernel_rfl
def k28:al prog 28=some F28:=by kernel_rfl
def k29:al prog 29=some F29:=by kernel_rfl
def k30:al prog 30=some F30:=by kernel_rfl
def k31:al prog 31=some F31:=by kernel_rfl
def k32:al prog 32=some F32:=by kernel_rfl
def k33:al prog 33=some F33:=by kernel_rfl
def k34:al prog 34=some F34:=by kernel_rfl
def k35:al prog 35=some F35:=by kernel_rfl
def k36:al prog 36=some F36:=by kernel_rfl
def k37:al prog 37=some F37:=by kernel_rfl
def k38:al prog 38=some F38:=by kernel_rfl
def k39:al prog 39=some F39:=by kernel_rfl
def k40:al prog 40=some F40:=by kernel_rfl
def k41:al prog 41=some F41:=by kernel_rfl
def k42:al prog 42=some F42:=by kernel_rfl
def k43:al prog 43=some F43:=by kernel_rfl
def k44:al prog 44=some F44:=by kernel_rfl
def k45:al prog 45=some F45:=by kernel_rfl
def k46:al prog 46=some F46:=by kernel_rfl
def k47:al prog 47=some F47:=by kernel_rfl
def k48:al prog 48=some F48:=by kernel_rfl
def k49:al prog 49=some F49:=by kernel_rfl
def k50:al prog 50=some F50:=by kernel_rfl
def k51:al prog 51=some F51:=by kernel_rfl
def k52:al prog 52=some F52:=by kernel_rfl
def k53:al prog 53=some F53:=by kernel_rfl
def k54:al prog 54=some F54:=by kernel_rfl
def k55:al prog 55=some F55:=by kernel_rfl
def k56:al prog 56=some F56:=by kernel_rfl
def k57:al prog 57=some F57:=by kernel_rfl
def k58:al prog 58=some F58:=by kernel_rfl
def k59:al prog 59=some F59:=by kernel_rfl
def k60:al prog 60=some F60:=by kernel_rfl
def k61:al prog 61=some F61:=by kernel_rfl
def k62:al prog 62=some F62:=by kernel_rfl
def k63:al prog 63=some F63:=by kernel_rfl
def k64:al prog 64=some F64:=by kernel_rfl
def k65:al prog 65=some F65:=by kernel_rfl
def k66:al prog 66=some F66:=by kernel_rfl
def k67:al prog 67=some F67:=by kernel_rfl
def k68:al prog 68=some F68:=by kernel_rfl
def k69:al prog 69=some F69:=by kernel_rfl
def k70:al prog 70=some F70:=by kernel_rfl
def k71:al prog 71=some F71:=by kernel_rfl
def k72:al prog 72=some F72:=by kernel_rfl
def k73:al prog 73=some F73:=by kernel_rfl
def k74:al prog 74=some F74:=by kernel_rfl
def k75:al prog 75=some F75:=by kernel_rfl
def k76:al prog 76=some F76:=by kernel_rfl
def k77:al prog 77=some F77:=by kernel_rfl
def k78:al prog 78=some F78:=by kernel_rfl
def k79:al prog 79=some F79:=by kernel_rfl
def k80:al prog 80=some F80:=by kernel_rfl
def k81:al prog 81=some F81:=by kernel_rfl
def k82:al prog 82=some F82:=by kernel_rfl
def k83:al prog 83=some F83:=by kernel_rfl
def k84:al prog 84=some F84:=by kernel_rfl
def k85:al prog 85=some F85:=by kernel_rfl
def k86:al prog 86=some F86:=by kernel_rfl
def k87:al prog 87=some F87:=by kernel_rfl
def k88:al prog 88=some F88:=by kernel_rfl
def k89:al prog 89=some F89:=by kernel_rfl
def k90:al prog 90=some F90:=by kernel_rfl
def k91:al prog 91=some F91:=by kernel_rfl
def k92:al prog 92=some F92:=by kernel_rfl
def k93:al prog 93=some F93:=by kernel_rfl
def k94:al prog 94=some (QG 94):=by kernel_rfl
def k95:al prog 95=some (QG 95):=by kernel_rfl
def k96:al prog 96=some F96:=by kernel_rfl
def k97:al prog 97=some F97:=by kernel_rfl
def k98:al prog 98=some F98:=by kernel_rfl
def k99:al prog 99=some (QG 99):=by kernel_rfl
def agr:al prog 100=some Yw:=by kernel_rfl
def agq:al prog 101=some Yu:=by kernel_rfl
def agp:al prog 102=some Yt:=by kernel_rfl
def ago:al prog 103=some Ys:=by kernel_rfl
def agn:al prog 104=some Yr:=by kernel_rfl
def agm:al prog 105=some Yq:=by kernel_rfl
def agl:al prog 106=some Yp:=by kernel_rfl
def agk:al prog 107=some Yo:=by kernel_rfl
def agj:al prog 108=some Ym:=by kernel_rfl
def agi:al prog 109=some Yl:=by kernel_rfl
def agh:al prog 110=some NK:=by kernel_rfl
def agf:al prog 111=some Yk:=by kernel_rfl
def age:al prog 112=some Yj:=by kernel_rfl
def agd:al prog 113=some Yi:=by kernel_rfl
def agc:al prog 114=some F114:=by kernel_rfl
def agb:al prog 115=some Yh:=by kernel_rfl
def aga:al prog 116=some F116:=by kernel_rfl
def af9:al prog 117=some Yg:=by kernel_rfl
def af8:al prog 118=some Yf:=by kernel_rfl
def af7:al prog 119=some Ye:=by kernel_rfl
def af6:al prog 120=some Yd:=by kernel_rfl
def af5:al prog 121=some Yc:=by kernel_rfl
def af4:al prog 122=some Yb:=by kernel_rfl
def af3:al prog 123=some Ya:=by kernel_rfl
def af2:al prog 124=some (QG 124):=by kernel_rfl
def af1:al prog 125=some (QG 125):=by kernel_rfl
def af0:al prog 126=some (QG 126):=by kernel_rfl
def afZ:al prog 127=some (QG 127):=by kernel_rfl
def afY:al prog 128=some (QG 128):=by kernel_rfl
def afX:al prog 129=some (QG 129):=by kernel_rfl
def afW:al prog 130=some (QG 130):=by kernel_rfl
def afV:al prog 131=some (QG 131):=by kernel_rfl
def afU:al prog 132=some (QG 132):=by kernel_rfl
def afT:al prog 133=some (QG 133):=by kernel_rfl
def afS:al prog 134=some X9:=by kernel_rfl
def afR:al prog 135=some X8:=by kernel_rfl
def afQ:al prog 136=some (QG 136):=by kernel_rfl
def afP:al prog 137=some (QG 137):=by kernel_rfl
def afO:al prog 138=some (QG 138):=by kernel_rfl
def afN:al prog 139=some (QG 139):=by kernel_rfl
def afM:al prog 140=some (QG 140):=by kernel_rfl
def afL:al prog 141=some (QG 141):=by kernel_rfl
def afK:al prog 142=some (QG 142):=by kernel_rfl
def afJ:al prog 143=some (QG 143):=by kernel_rfl
def afI:al prog 144=some X7:=by kernel_rfl
def afH:al prog 145=some X6:=by kernel_rfl
def afG:al prog 146=some X5:=by kernel_rfl
def afF:al prog 147=some X4:=by kernel_rfl
def afE:al prog 148=some X3:=by kernel_rfl
def afD:al prog 149=some X2:=by kernel_rfl
def afC:al prog 150=some Ik:=by kernel_rfl
def afB:al prog 151=some X1:=by kernel_rfl
def afA:al prog 152=some X0:=by kernel_rfl
def afz:al prog 153=some XZ:=by kernel_rfl
def afy:al prog 154=some XY:=by kernel_rfl
def afx:al prog 155=some XX:=by kernel_rfl
def afw:al prog 156=some XW:=by kernel_rfl
def afv:al prog 157=some XV:=by kernel_rfl
def afu:al prog 158=some XU:=by kernel_rfl
def aft:al prog 159=some F159:=by kernel_rfl
def afs:al prog 160=some (QG 160):=by kernel_rfl
def afr:al prog 161=some (QG 161):=by kernel_rfl
def afq:al prog 162=some (QG 162):=by kernel_rfl
def afp:al prog 163=some (QG 163):=by kernel_rfl
def afo:al prog 164=some (QG 164):=by kernel_rfl
def afn:al prog 165=some (QG 165):=by kernel_rfl
def afm:al prog 166=some (QG 166):=by kernel_rfl
def afl:al prog 167=some (QG 167):=by kernel_rfl
def afk:al prog 168=some F168:=by kernel_rfl
def afj:al prog 169=some XT:=by kernel_rfl
def afi:al prog 170=some NJ:=by kernel_rfl
def afh:al prog 171=some wG:=by kernel_rfl
def afg:al prog 172=some XS:=by kernel_rfl
def aff:al prog 173=some XR:=by kernel_rfl
def afe:al prog 174=some (QG 174):=by kernel_rfl
def afd:al prog 175=some (QG 175):=by kernel_rfl
def afc:al prog 176=some XQ:=by kernel_rfl
def afb:al prog 177=some XP:=by kernel_rfl
def afa:al prog 178=some XO:=by kernel_rfl
def ae9:al prog 179=some XN:=by kernel_rfl
def QN{α:Type}{p:α->Prop}:∀x:α,none=some x->p x:=λ_ h=>by cases h
def QX{α:Type}{p:α->Prop}{a:α}(h:p a):∀x:α,some a=some x->p x:=λ_ e=>by cases e;exact h
def Oo:fnT.All (λf fn=>al prog f=some fn) (λi=>i):=⟨QN,⟨QN,⟨(QX k3),⟨(QX k7),⟨(QX k15),⟨(QX k31),⟨(QX k63),⟨(QX afZ),ar,ar⟩,ar⟩,⟨(QX k95),⟨(QX aft),ar,ar⟩,ar⟩⟩,⟨(QX k47),⟨(QX k79),⟨(QX afJ),ar,ar⟩,ar⟩,⟨(QX agf),⟨(QX afd),ar,ar⟩,ar⟩⟩⟩,⟨(QX k23),⟨(QX k39),⟨(QX k71),⟨(QX afR),ar,ar⟩,ar⟩,⟨(QX ago),⟨(QX afl),ar,ar⟩,ar⟩⟩,⟨(QX k55),⟨(QX k87),⟨(QX afB),ar,ar⟩,ar⟩,⟨(QX af7),ar,ar⟩⟩⟩⟩,⟨(QX k11),⟨(QX k19),⟨(QX k35),⟨(QX k67),⟨(QX afV),ar,ar⟩,ar⟩,⟨(QX k99),⟨(QX afp),ar,ar⟩,ar⟩⟩,⟨(QX k51),⟨(QX k83),⟨(QX afF),ar,ar⟩,ar⟩,⟨(QX agb),⟨(QX ae9),ar,ar⟩,ar⟩⟩⟩,⟨(QX k27),⟨(QX k43),⟨(QX k75),⟨(QX afN),ar,ar⟩,ar⟩,⟨(QX agk),⟨(QX afh),ar,ar⟩,ar⟩⟩,⟨(QX k59),⟨(QX k91),⟨(QX afx),ar,ar⟩,ar⟩,⟨(QX af3),ar,ar⟩⟩⟩⟩⟩,⟨(QX k5),⟨(QX k9),⟨(QX k17),⟨(QX k33),⟨(QX k65),⟨(QX afX),ar,ar⟩,ar⟩,⟨(QX k97),⟨(QX afr),ar,ar⟩,ar⟩⟩,⟨(QX k49),⟨(QX k81),⟨(QX afH),ar,ar⟩,ar⟩,⟨(QX agd),⟨(QX afb),ar,ar⟩,ar⟩⟩⟩,⟨(QX k25),⟨(QX k41),⟨(QX k73),⟨(QX afP),ar,ar⟩,ar⟩,⟨(QX agm),⟨(QX afj),ar,ar⟩,ar⟩⟩,⟨(QX k57),⟨(QX k89),⟨(QX afz),ar,ar⟩,ar⟩,⟨(QX af5),ar,ar⟩⟩⟩⟩,⟨(QX k13),⟨(QX k21),⟨(QX k37),⟨(QX k69),⟨(QX afT),ar,ar⟩,ar⟩,⟨(QX agq),⟨(QX afn),ar,ar⟩,ar⟩⟩,⟨(QX k53),⟨(QX k85),⟨(QX afD),ar,ar⟩,ar⟩,⟨(QX af9),ar,ar⟩⟩⟩,⟨(QX k29),⟨(QX k45),⟨(QX k77),⟨(QX afL),ar,ar⟩,ar⟩,⟨(QX agi),⟨(QX aff),ar,ar⟩,ar⟩⟩,⟨(QX k61),⟨(QX k93),⟨(QX afv),ar,ar⟩,ar⟩,⟨(QX af1),ar,ar⟩⟩⟩⟩⟩⟩,⟨QN,⟨(QX k4),⟨(QX k8),⟨(QX k16),⟨(QX k32),⟨(QX k64),⟨(QX afY),ar,ar⟩,ar⟩,⟨(QX k96),⟨(QX afs),ar,ar⟩,ar⟩⟩,⟨(QX k48),⟨(QX k80),⟨(QX afI),ar,ar⟩,ar⟩,⟨(QX age),⟨(QX afc),ar,ar⟩,ar⟩⟩⟩,⟨(QX k24),⟨(QX k40),⟨(QX k72),⟨(QX afQ),ar,ar⟩,ar⟩,⟨(QX agn),⟨(QX afk),ar,ar⟩,ar⟩⟩,⟨(QX k56),⟨(QX k88),⟨(QX afA),ar,ar⟩,ar⟩,⟨(QX af6),ar,ar⟩⟩⟩⟩,⟨(QX k12),⟨(QX k20),⟨(QX k36),⟨(QX k68),⟨(QX afU),ar,ar⟩,ar⟩,⟨(QX agr),⟨(QX afo),ar,ar⟩,ar⟩⟩,⟨(QX k52),⟨(QX k84),⟨(QX afE),ar,ar⟩,ar⟩,⟨(QX aga),ar,ar⟩⟩⟩,⟨(QX k28),⟨(QX k44),⟨(QX k76),⟨(QX afM),ar,ar⟩,ar⟩,⟨(QX agj),⟨(QX afg),ar,ar⟩,ar⟩⟩,⟨(QX k60),⟨(QX k92),⟨(QX afw),ar,ar⟩,ar⟩,⟨(QX af2),ar,ar⟩⟩⟩⟩⟩,⟨(QX k6),⟨(QX k10),⟨(QX k18),⟨(QX k34),⟨(QX k66),⟨(QX afW),ar,ar⟩,ar⟩,⟨(QX k98),⟨(QX afq),ar,ar⟩,ar⟩⟩,⟨(QX k50),⟨(QX k82),⟨(QX afG),ar,ar⟩,ar⟩,⟨(QX agc),⟨(QX afa),ar,ar⟩,ar⟩⟩⟩,⟨(QX k26),⟨(QX k42),⟨(QX k74),⟨(QX afO),ar,ar⟩,ar⟩,⟨(QX agl),⟨(QX afi),ar,ar⟩,ar⟩⟩,⟨(QX k58),⟨(QX k90),⟨(QX afy),ar,ar⟩,ar⟩,⟨(QX af4),ar,ar⟩⟩⟩⟩,⟨(QX k14),⟨(QX k22),⟨(QX k38),⟨(QX k70),⟨(QX afS),ar,ar⟩,ar⟩,⟨(QX agp),⟨(QX afm),ar,ar⟩,ar⟩⟩,⟨(QX k54),⟨(QX k86),⟨(QX afC),ar,ar⟩,ar⟩,⟨(QX af8),ar,ar⟩⟩⟩,⟨(QX k30),⟨(QX k46),⟨(QX k78),⟨(QX afK),ar,ar⟩,ar⟩,⟨(QX agh),⟨(QX afe),ar,ar⟩,ar⟩⟩,⟨(QX k62),⟨(QX k94),⟨(QX afu),ar,ar⟩,ar⟩,⟨(QX af0),ar,ar⟩⟩⟩⟩⟩⟩⟩
def agO:EnvOk prog En:=⟨λf fn h=>pN fnT (λi=>i) f fn Oo h,λf s h=>by cases h⟩
def isT:Out->Heap->Bool:=λo _=>match o with|.val v=>(match v with|.bool b=>b|_=>false)|_=>false
def TO{o:Out}{H:Heap}(h:isT o H=true):o=.val (.bool true):=by cases o with|ex e fr=>cases h|val v=>cases v<;>first|(cases h;done)|(rename_i b;cases b<;>first|rfl|(cases h;done))
end Go.Iso.Gen
end
