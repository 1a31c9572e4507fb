/-
  the code is that of the program.
-/
import Derived.Test.YtibkoahppjkakaaGreatDoorGen
import Derived.Test.YtibkoahppjkakaaGreatDoorIsoP5
set_option linter.defProp false
set_option linter.unusedSimpArgs false
set_option linter.unusedVariables false
set_option maxRecDepth 100000
set_option maxHeartbeats 4000000
section
namespace Go.Iso.Gen
open Go.Proofs Go.Proofs.Tryz
def k3:al prog 3=some F3:=by kernel_rfl
def k4:al prog 4=some F4:=by kernel_rfl
def k5:al prog 5=some F5:=by kernel_rfl
def k6:al prog 6=some F6:=by kernel_rfl
def k7:al prog 7=some F7:=by kernel_rfl
def k8:al prog 8=some F8:=by kernel_rfl
def k9:al prog 9=some F9:=by kernel_rfl
def k10:al prog 10=some F10:=by kernel_rfl
def k11:al prog 11=some F11:=by kernel_rfl
def k12:al prog 12=some HG:=by kernel_rfl
def k13:al prog 13=some F13:=by kernel_rfl
def k14:al prog 14=some F14:=by kernel_rfl
def k15:al prog 15=some F15:=by kernel_rfl
def k16:al prog 16=some F16:=by kernel_rfl
def k17:al prog 17=some F17:=by kernel_rfl
def k18:al prog 18=some F18:=by kernel_rfl
def k19:al prog 19=some F19:=by kernel_rfl
def k20:al prog 20=some F20:=by kernel_rfl
def k21:al prog 21=some (QG 21):=by kernel_rfl
def k22:al prog 22=some F22:=by kernel_rfl
def k23:al prog 23=some F23:=by kernel_rfl
def k24:al prog 24=some F24:=by kernel_rfl
def k25:al prog 25=some Yi:=by kernel_rfl
def k26:al prog 26=some F26:=by kernel_rfl
def k27:al prog 27=some F27:=by kernel_rfl
def k28:al prog 28=some F28:=by kernel_rfl
def k29:al prog 29=some F29:=by kernel_rfl
def k30:al prog 30=some F30:=by kernel_rfl
def k31:al prog 31=some F31:=by kernel_rfl
def k32:al prog 32=some F32:=by kernel_rfl
def k33:al prog 33=some F33:=by kernel_rfl
def k34:al prog 34=some Uq:=by kernel_rfl
def k35:al prog 35=some F35:=by kernel_rfl
def k36:al prog 36=some F36:=by kernel_rfl
def k37:al prog 37=some F37:=by kernel_rfl
def k38:al prog 38=some F38:=by kernel_rfl
def k39:al prog 39=some F39:=by kernel_rfl
def k40:al prog 40=some F40:=by kernel_rfl
def k41:al prog 41=some F41:=by kernel_rfl
def k42:al prog 42=some F42:=by kernel_rfl
def k43:al prog 43=some F43:=by kernel_rfl
def k44:al prog 44=some F44:=by kernel_rfl
def k45:al prog 45=some F45:=by kernel_rfl
def k46:al prog 46=some F46:=by kernel_rfl
def k47:al prog 47=some F47:=by kernel_rfl
def k48:al prog 48=some F48:=by kernel_rfl
def k49:al prog 49=some (QG 49):=by kernel_rfl
def k50:al prog 50=some (QG 50):=by kernel_rfl
def k51:al prog 51=some (QG 51):=by kernel_rfl
def k52:al prog 52=some (QG 52):=by kernel_rfl
def k53:al prog 53=some (QG 53):=by kernel_rfl
def k54:al prog 54=some (QG 54):=by kernel_rfl
def k55:al prog 55=some (QG 55):=by kernel_rfl
def k56:al prog 56=some (QG 56):=by kernel_rfl
def k57:al prog 57=some F57:=by kernel_rfl
def k58:al prog 58=some F58:=by kernel_rfl
def k59:al prog 59=some F59:=by kernel_rfl
def k60:al prog 60=some F60:=by kernel_rfl
def k61:al prog 61=some F61:=by kernel_rfl
def k62:al prog 62=some F62:=by kernel_rfl
def k63:al prog 63=some F63:=by kernel_rfl
def k64:al prog 64=some F64:=by kernel_rfl
def k65:al prog 65=some F65:=by kernel_rfl
def k66:al prog 66=some F66:=by kernel_rfl
def k67:al prog 67=some F67:=by kernel_rfl
def k68:al prog 68=some F68:=by kernel_rfl
def k69:al prog 69=some F69:=by kernel_rfl
def k70:al prog 70=some F70:=by kernel_rfl
def k71:al prog 71=some F71:=by kernel_rfl
def k72:al prog 72=some F72:=by kernel_rfl
def k73:al prog 73=some F73:=by kernel_rfl
def k74:al prog 74=some F74:=by kernel_rfl
def k75:al prog 75=some F75:=by kernel_rfl
def k76:al prog 76=some F76:=by kernel_rfl
def k77:al prog 77=some F77:=by kernel_rfl
def k78:al prog 78=some F78:=by kernel_rfl
def k79:al prog 79=some F79:=by kernel_rfl
def k80:al prog 80=some F80:=by kernel_rfl
def k81:al prog 81=some F81:=by kernel_rfl
def k82:al prog 82=some F82:=by kernel_rfl
def k83:al prog 83=some TY:=by kernel_rfl
def k84:al prog 84=some F84:=by kernel_rfl
def k85:al prog 85=some (QG 85):=by kernel_rfl
def k86:al prog 86=some (QG 86):=by kernel_rfl
def k87:al prog 87=some (QG 87):=by kernel_rfl
def k88:al prog 88=some (QG 88):=by kernel_rfl
def k89:al prog 89=some (QG 89):=by kernel_rfl
def k90:al prog 90=some (QG 90):=by kernel_rfl
def k91:al prog 91=some F91:=by kernel_rfl
def k92:al prog 92=some F92:=by kernel_rfl
def k93:al prog 93=some F93:=by kernel_rfl
def k94:al prog 94=some F94:=by kernel_rfl
def k95:al prog 95=some F95:=by kernel_rfl
def k96:al prog 96=some F96:=by kernel_rfl
def k97:al prog 97=some F97:=by kernel_rfl
def k98:al prog 98=some F98:=by kernel_rfl
def k99:al prog 99=some F99:=by kernel_rfl
def afE:al prog 100=some Xx:=by kernel_rfl
def afD:al prog 101=some Xw:=by kernel_rfl
def afC:al prog 102=some Xv:=by kernel_rfl
def afB:al prog 103=some Xu:=by kernel_rfl
def afA:al prog 104=some Xt:=by kernel_rfl
def afz:al prog 105=some Xs:=by kernel_rfl
def afy:al prog 106=some Mx:=by kernel_rfl
def afx:al prog 107=some Xr:=by kernel_rfl
def afw:al prog 108=some Xq:=by kernel_rfl
def afv:al prog 109=some Xp:=by kernel_rfl
def afu:al prog 110=some Xo:=by kernel_rfl
def aft:al prog 111=some Xn:=by kernel_rfl
def afs:al prog 112=some Xm:=by kernel_rfl
def afr:al prog 113=some F113:=by kernel_rfl
def afq:al prog 114=some PJ:=by kernel_rfl
def afp:al prog 115=some (QG 115):=by kernel_rfl
def afo:al prog 116=some (QG 116):=by kernel_rfl
def afn:al prog 117=some Xl:=by kernel_rfl
def afm:al prog 118=some Xk:=by kernel_rfl
def afl:al prog 119=some Xj:=by kernel_rfl
def afk:al prog 120=some (QG 120):=by kernel_rfl
def afj:al prog 121=some (QG 121):=by kernel_rfl
def afi:al prog 122=some (QG 122):=by kernel_rfl
def afh:al prog 123=some (QG 123):=by kernel_rfl
def afg:al prog 124=some Xi:=by kernel_rfl
def aff:al prog 125=some Xh:=by kernel_rfl
def afe:al prog 126=some Xg:=by kernel_rfl
def afd:al prog 127=some Xf:=by kernel_rfl
def afc:al prog 128=some Xe:=by kernel_rfl
def afb:al prog 129=some Xd:=by kernel_rfl
def afa:al prog 130=some Xc:=by kernel_rfl
def ae9:al prog 131=some Xb:=by kernel_rfl
def ae8:al prog 132=some Mw:=by kernel_rfl
def ae7:al prog 133=some Xa:=by kernel_rfl
def ae6:al prog 134=some W9:=by kernel_rfl
def ae5:al prog 135=some W8:=by kernel_rfl
def ae4:al prog 136=some W7:=by kernel_rfl
def ae3:al prog 137=some W6:=by kernel_rfl
def ae2:al prog 138=some F138:=by kernel_rfl
def ae1:al prog 139=some W5:=by kernel_rfl
def ae0:al prog 140=some F140:=by kernel_rfl
def aeZ:al prog 141=some W4:=by kernel_rfl
def aeY:al prog 142=some W3:=by kernel_rfl
def aeX:al prog 143=some W2:=by kernel_rfl
def aeW:al prog 144=some W1:=by kernel_rfl
def aeV:al prog 145=some W0:=by kernel_rfl
def aeU:al prog 146=some WZ:=by kernel_rfl
def aeT:al prog 147=some WY:=by kernel_rfl
def aeS:al prog 148=some (QG 148):=by kernel_rfl
def aeR:al prog 149=some (QG 149):=by kernel_rfl
def aeQ:al prog 150=some (QG 150):=by kernel_rfl
def aeP:al prog 151=some (QG 151):=by kernel_rfl
def aeO:al prog 152=some (QG 152):=by kernel_rfl
def aeN:al prog 153=some (QG 153):=by kernel_rfl
def aeM:al prog 154=some (QG 154):=by kernel_rfl
def aeL:al prog 155=some (QG 155):=by kernel_rfl
def aeK:al prog 156=some (QG 156):=by kernel_rfl
def aeJ:al prog 157=some (QG 157):=by kernel_rfl
def aeI:al prog 158=some WX:=by kernel_rfl
def aeH:al prog 159=some WW:=by kernel_rfl
def aeG:al prog 160=some (QG 160):=by kernel_rfl
def aeF:al prog 161=some (QG 161):=by kernel_rfl
def aeE:al prog 162=some (QG 162):=by kernel_rfl
def aeD:al prog 163=some (QG 163):=by kernel_rfl
def aeC:al prog 164=some (QG 164):=by kernel_rfl
def aeB:al prog 165=some (QG 165):=by kernel_rfl
def aeA:al prog 166=some (QG 166):=by kernel_rfl
def aez:al prog 167=some (QG 167):=by kernel_rfl
def aey:al prog 168=some WV:=by kernel_rfl
def aex:al prog 169=some WU:=by kernel_rfl
def aew:al prog 170=some WT:=by kernel_rfl
def aev:al prog 171=some WS:=by kernel_rfl
def aeu:al prog 172=some WR:=by kernel_rfl
def aet:al prog 173=some WQ:=by kernel_rfl
def aes:al prog 174=some HE:=by kernel_rfl
def aer:al prog 175=some WP:=by kernel_rfl
def aeq:al prog 176=some WO:=by kernel_rfl
def aep:al prog 177=some WN:=by kernel_rfl
def aeo:al prog 178=some WM:=by kernel_rfl
def aen:al prog 179=some WL:=by kernel_rfl
def aem:al prog 180=some WK:=by kernel_rfl
def ael:al prog 181=some WJ:=by kernel_rfl
def aek:al prog 182=some WI:=by kernel_rfl
def aej:al prog 183=some F183:=by kernel_rfl
def aei:al prog 184=some (QG 184):=by kernel_rfl
def aeh:al prog 185=some (QG 185):=by kernel_rfl
def aeg:al prog 186=some (QG 186):=by kernel_rfl
def aef:al prog 187=some (QG 187):=by kernel_rfl
def aee:al prog 188=some (QG 188):=by kernel_rfl
def aed:al prog 189=some (QG 189):=by kernel_rfl
def aec:al prog 190=some (QG 190):=by kernel_rfl
def aeb:al prog 191=some (QG 191):=by kernel_rfl
def aea:al prog 192=some F192:=by kernel_rfl
def ad9:al prog 193=some WH:=by kernel_rfl
def ad8:al prog 194=some Mv:=by kernel_rfl
def ad7:al prog 195=some vF:=by kernel_rfl
def ad6:al prog 196=some WG:=by kernel_rfl
def ad5:al prog 197=some WF:=by kernel_rfl
def ad4:al prog 198=some (QG 198):=by kernel_rfl
def ad3:al prog 199=some (QG 199):=by kernel_rfl
def ad2:al prog 200=some WE:=by kernel_rfl
def ad1:al prog 201=some WD:=by kernel_rfl
def ad0:al prog 202=some WC:=by kernel_rfl
def adZ:al prog 203=some WB:=by kernel_rfl
def QN{α:Type}{p:α->Prop}:∀x:α,none=some x->p x:=λ_ h=>by cases h
def QX{α:Type}{p:α->Prop}{a:α}(h:p a):∀x:α,some a=some x->p x:=λ_ e=>by cases e;exact h
def Nb:fnT.All (λf fn=>al prog f=some fn) (λi=>i):=⟨QN,⟨QN,⟨(QX k3),⟨(QX k7),⟨(QX k15),⟨(QX k31),⟨(QX k63),⟨(QX afd),aq,aq⟩,⟨(QX aeb),aq,aq⟩⟩,⟨(QX k95),⟨(QX aeH),aq,aq⟩,aq⟩⟩,⟨(QX k47),⟨(QX k79),⟨(QX aeX),aq,aq⟩,aq⟩,⟨(QX aft),⟨(QX aer),aq,aq⟩,aq⟩⟩⟩,⟨(QX k23),⟨(QX k39),⟨(QX k71),⟨(QX ae5),aq,aq⟩,⟨(QX ad3),aq,aq⟩⟩,⟨(QX afB),⟨(QX aez),aq,aq⟩,aq⟩⟩,⟨(QX k55),⟨(QX k87),⟨(QX aeP),aq,aq⟩,aq⟩,⟨(QX afl),⟨(QX aej),aq,aq⟩,aq⟩⟩⟩⟩,⟨(QX k11),⟨(QX k19),⟨(QX k35),⟨(QX k67),⟨(QX ae9),aq,aq⟩,⟨(QX ad7),aq,aq⟩⟩,⟨(QX k99),⟨(QX aeD),aq,aq⟩,aq⟩⟩,⟨(QX k51),⟨(QX k83),⟨(QX aeT),aq,aq⟩,aq⟩,⟨(QX afp),⟨(QX aen),aq,aq⟩,aq⟩⟩⟩,⟨(QX k27),⟨(QX k43),⟨(QX k75),⟨(QX ae1),aq,aq⟩,⟨(QX adZ),aq,aq⟩⟩,⟨(QX afx),⟨(QX aev),aq,aq⟩,aq⟩⟩,⟨(QX k59),⟨(QX k91),⟨(QX aeL),aq,aq⟩,aq⟩,⟨(QX afh),⟨(QX aef),aq,aq⟩,aq⟩⟩⟩⟩⟩,⟨(QX k5),⟨(QX k9),⟨(QX k17),⟨(QX k33),⟨(QX k65),⟨(QX afb),aq,aq⟩,⟨(QX ad9),aq,aq⟩⟩,⟨(QX k97),⟨(QX aeF),aq,aq⟩,aq⟩⟩,⟨(QX k49),⟨(QX k81),⟨(QX aeV),aq,aq⟩,aq⟩,⟨(QX afr),⟨(QX aep),aq,aq⟩,aq⟩⟩⟩,⟨(QX k25),⟨(QX k41),⟨(QX k73),⟨(QX ae3),aq,aq⟩,⟨(QX ad1),aq,aq⟩⟩,⟨(QX afz),⟨(QX aex),aq,aq⟩,aq⟩⟩,⟨(QX k57),⟨(QX k89),⟨(QX aeN),aq,aq⟩,aq⟩,⟨(QX afj),⟨(QX aeh),aq,aq⟩,aq⟩⟩⟩⟩,⟨(QX k13),⟨(QX k21),⟨(QX k37),⟨(QX k69),⟨(QX ae7),aq,aq⟩,⟨(QX ad5),aq,aq⟩⟩,⟨(QX afD),⟨(QX aeB),aq,aq⟩,aq⟩⟩,⟨(QX k53),⟨(QX k85),⟨(QX aeR),aq,aq⟩,aq⟩,⟨(QX afn),⟨(QX ael),aq,aq⟩,aq⟩⟩⟩,⟨(QX k29),⟨(QX k45),⟨(QX k77),⟨(QX aeZ),aq,aq⟩,aq⟩,⟨(QX afv),⟨(QX aet),aq,aq⟩,aq⟩⟩,⟨(QX k61),⟨(QX k93),⟨(QX aeJ),aq,aq⟩,aq⟩,⟨(QX aff),⟨(QX aed),aq,aq⟩,aq⟩⟩⟩⟩⟩⟩,⟨QN,⟨(QX k4),⟨(QX k8),⟨(QX k16),⟨(QX k32),⟨(QX k64),⟨(QX afc),aq,aq⟩,⟨(QX aea),aq,aq⟩⟩,⟨(QX k96),⟨(QX aeG),aq,aq⟩,aq⟩⟩,⟨(QX k48),⟨(QX k80),⟨(QX aeW),aq,aq⟩,aq⟩,⟨(QX afs),⟨(QX aeq),aq,aq⟩,aq⟩⟩⟩,⟨(QX k24),⟨(QX k40),⟨(QX k72),⟨(QX ae4),aq,aq⟩,⟨(QX ad2),aq,aq⟩⟩,⟨(QX afA),⟨(QX aey),aq,aq⟩,aq⟩⟩,⟨(QX k56),⟨(QX k88),⟨(QX aeO),aq,aq⟩,aq⟩,⟨(QX afk),⟨(QX aei),aq,aq⟩,aq⟩⟩⟩⟩,⟨(QX k12),⟨(QX k20),⟨(QX k36),⟨(QX k68),⟨(QX ae8),aq,aq⟩,⟨(QX ad6),aq,aq⟩⟩,⟨(QX afE),⟨(QX aeC),aq,aq⟩,aq⟩⟩,⟨(QX k52),⟨(QX k84),⟨(QX aeS),aq,aq⟩,aq⟩,⟨(QX afo),⟨(QX aem),aq,aq⟩,aq⟩⟩⟩,⟨(QX k28),⟨(QX k44),⟨(QX k76),⟨(QX ae0),aq,aq⟩,aq⟩,⟨(QX afw),⟨(QX aeu),aq,aq⟩,aq⟩⟩,⟨(QX k60),⟨(QX k92),⟨(QX aeK),aq,aq⟩,aq⟩,⟨(QX afg),⟨(QX aee),aq,aq⟩,aq⟩⟩⟩⟩⟩,⟨(QX k6),⟨(QX k10),⟨(QX k18),⟨(QX k34),⟨(QX k66),⟨(QX afa),aq,aq⟩,⟨(QX ad8),aq,aq⟩⟩,⟨(QX k98),⟨(QX aeE),aq,aq⟩,aq⟩⟩,⟨(QX k50),⟨(QX k82),⟨(QX aeU),aq,aq⟩,aq⟩,⟨(QX afq),⟨(QX aeo),aq,aq⟩,aq⟩⟩⟩,⟨(QX k26),⟨(QX k42),⟨(QX k74),⟨(QX ae2),aq,aq⟩,⟨(QX ad0),aq,aq⟩⟩,⟨(QX afy),⟨(QX aew),aq,aq⟩,aq⟩⟩,⟨(QX k58),⟨(QX k90),⟨(QX aeM),aq,aq⟩,aq⟩,⟨(QX afi),⟨(QX aeg),aq,aq⟩,aq⟩⟩⟩⟩,⟨(QX k14),⟨(QX k22),⟨(QX k38),⟨(QX k70),⟨(QX ae6),aq,aq⟩,⟨(QX ad4),aq,aq⟩⟩,⟨(QX afC),⟨(QX aeA),aq,aq⟩,aq⟩⟩,⟨(QX k54),⟨(QX k86),⟨(QX aeQ),aq,aq⟩,aq⟩,⟨(QX afm),⟨(QX aek),aq,aq⟩,aq⟩⟩⟩,⟨(QX k30),⟨(QX k46),⟨(QX k78),⟨(QX aeY),aq,aq⟩,aq⟩,⟨(QX afu),⟨(QX aes),aq,aq⟩,aq⟩⟩,⟨(QX k62),⟨(QX k94),⟨(QX aeI),aq,aq⟩,aq⟩,⟨(QX afe),⟨(QX aec),aq,aq⟩,aq⟩⟩⟩⟩⟩⟩⟩
def abt:EnvOk prog En:=⟨λf fn h=>pg fnT (λi=>i) f fn Nb h,λf s h=>by cases h⟩
def isT:Out->Heap->Bool:=λo _=>match o with|.val v=>(match v with|.bool b=>b|_=>false)|_=>false
def Ji{o:Out}{H:Heap}(h:isT o H=true):o=.val (.bool true):=by cases o with|ex e fr=>cases h|val v=>cases v<;>first|(cases h;done)|(rename_i b;cases b<;>first|rfl|(cases h;done))
end Go.Iso.Gen
end
