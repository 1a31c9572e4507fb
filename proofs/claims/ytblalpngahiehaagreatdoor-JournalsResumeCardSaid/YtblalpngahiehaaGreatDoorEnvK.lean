/-
  the code is that of the program.
-/
import Derived.Test.YtblalpngahiehaaGreatDoorGen
import Derived.Test.YtblalpngahiehaaGreatDoorIsoP5
set_option maxRecDepth 100000
set_option maxHeartbeats 4000000
namespace Go.Iso.Gen
open Go.Proofs.Tryz
theorem k3:al prog 3=some F3:=by kernel_rfl
theorem k4:al prog 4=some F4:=by kernel_rfl
theorem k5:al prog 5=some F5:=by kernel_rfl
theorem k6:al prog 6=some F6:=by kernel_rfl
theorem k7:al prog 7=some (QG 7):=by kernel_rfl
theorem k8:al prog 8=some F8:=by kernel_rfl
theorem k9:al prog 9=some F9:=by kernel_rfl
theorem k10:al prog 10=some GL:=by kernel_rfl
theorem k11:al prog 11=some F11:=by kernel_rfl
theorem k12:al prog 12=some F12:=by kernel_rfl
theorem k13:al prog 13=some F13:=by kernel_rfl
theorem k14:al prog 14=some F14:=by kernel_rfl
theorem k15:al prog 15=some F15:=by kernel_rfl
theorem k16:al prog 16=some F16:=by kernel_rfl
theorem k17:al prog 17=some F17:=by kernel_rfl
theorem k18:al prog 18=some F18:=by kernel_rfl
theorem k19:al prog 19=some F19:=by kernel_rfl
theorem k20:al prog 20=some F20:=by kernel_rfl
theorem k21:al prog 21=some F21:=by kernel_rfl
theorem k22:al prog 22=some TB:=by kernel_rfl
theorem k23:al prog 23=some F23:=by kernel_rfl
theorem k24:al prog 24=some F24:=by kernel_rfl
theorem k25:al prog 25=some F25:=by kernel_rfl
theorem k26:al prog 26=some F26:=by kernel_rfl
theorem k27:al prog 27=some F27:=by kernel_rfl
theorem k28:al prog 28=some Zz:=by kernel_rfl
theorem k29:al prog 29=some F29:=by kernel_rfl
theorem k30:al prog 30=some F30:=by kernel_rfl
theorem k31:al prog 31=some F31:=by kernel_rfl
theorem k32:al prog 32=some F32:=by kernel_rfl
theorem k33:al prog 33=some F33:=by kernel_rfl
theorem k34:al prog 34=some F34:=by kernel_rfl
theorem k35:al prog 35=some F35:=by kernel_rfl
theorem k36:al prog 36=some F36:=by kernel_rfl
theorem k37:al prog 37=some F37:=by kernel_rfl
theorem k38:al prog 38=some F38:=by kernel_rfl
theorem k39:al prog 39=some F39:=by kernel_rfl
theorem k40:al prog 40=some F40:=by kernel_rfl
theorem k41:al prog 41=some F41:=by kernel_rfl
theorem k42:al prog 42=some F42:=by kernel_rfl
theorem k43:al prog 43=some F43:=by kernel_rfl
theorem k44:al prog 44=some F44:=by kernel_rfl
theorem k45:al prog 45=some F45:=by kernel_rfl
theorem k46:al prog 46=some F46:=by kernel_rfl
theorem k47:al prog 47=some F47:=by kernel_rfl
theorem k48:al prog 48=some Tc:=by kernel_rfl
theorem k49:al prog 49=some F49:=by kernel_rfl
theorem k50:al prog 50=some F50:=by kernel_rfl
theorem k51:al prog 51=some F51:=by kernel_rfl
theorem k52:al prog 52=some F52:=by kernel_rfl
theorem k53:al prog 53=some F53:=by kernel_rfl
theorem k54:al prog 54=some F54:=by kernel_rfl
theorem k55:al prog 55=some F55:=by kernel_rfl
theorem k56:al prog 56=some F56:=by kernel_rfl
theorem k57:al prog 57=some F57:=by kernel_rfl
theorem k58:al prog 58=some F58:=by kernel_rfl
theorem k59:al prog 59=some F59:=by kernel_rfl
theorem k60:al prog 60=some F60:=by kernel_rfl
theorem k61:al prog 61=some F61:=by kernel_rfl
theorem k62:al prog 62=some F62:=by kernel_rfl
theorem k63:al prog 63=some F63:=by kernel_rfl
theorem k64:al prog 64=some F64:=by kernel_rfl
theorem k65:al prog 65=some F65:=by kernel_rfl
theorem k66:al prog 66=some F66:=by kernel_rfl
theorem k67:al prog 67=some F67:=by kernel_rfl
theorem k68:al prog 68=some F68:=by kernel_rfl
theorem k69:al prog 69=some F69:=by kernel_rfl
theorem k70:al prog 70=some F70:=by kernel_rfl
theorem k71:al prog 71=some F71:=by kernel_rfl
theorem k72:al prog 72=some F72:=by kernel_rfl
theorem k73:al prog 73=some F73:=by kernel_rfl
theorem k74:al prog 74=some F74:=by kernel_rfl
theorem k75:al prog 75=some F75:=by kernel_rfl
theorem k76:al prog 76=some F76:=by kernel_rfl
theorem k77:al prog 77=some F77:=by kernel_rfl
theorem k78:al prog 78=some F78:=by kernel_rfl
theorem k79:al prog 79=some F79:=by kernel_rfl
theorem k80:al prog 80=some F80:=by kernel_rfl
theorem k81:al prog 81=some F81:=by kernel_rfl
theorem k82:al prog 82=some F82:=by kernel_rfl
theorem k83:al prog 83=some F83:=by kernel_rfl
theorem k84:al prog 84=some F84:=by kernel_rfl
theorem k85:al prog 85=some F85:=by kernel_rfl
theorem k86:al prog 86=some F86:=by kernel_rfl
theorem k87:al prog 87=some F87:=by kernel_rfl
theorem k88:al prog 88=some F88:=by kernel_rfl
theorem k89:al prog 89=some F89:=by kernel_rfl
theorem k90:al prog 90=some F90:=by kernel_rfl
theorem k91:al prog 91=some Zc:=by kernel_rfl
theorem k92:al prog 92=some F92:=by kernel_rfl
theorem k93:al prog 93=some F93:=by kernel_rfl
theorem k94:al prog 94=some F94:=by kernel_rfl
theorem k95:al prog 95=some F95:=by kernel_rfl
theorem k96:al prog 96=some F96:=by kernel_rfl
theorem k97:al prog 97=some F97:=by kernel_rfl
theorem k98:al prog 98=some F98:=by kernel_rfl
theorem k99:al prog 99=some Zy:=by kernel_rfl
theorem aer:al prog 100=some Ww:=by kernel_rfl
theorem aeq:al prog 101=some (QG 101):=by kernel_rfl
theorem aep:al prog 102=some (QG 102):=by kernel_rfl
theorem aeo:al prog 103=some Wv:=by kernel_rfl
theorem aen:al prog 104=some Wu:=by kernel_rfl
theorem aem:al prog 105=some Wt:=by kernel_rfl
theorem ael:al prog 106=some (QG 106):=by kernel_rfl
theorem aek:al prog 107=some Ws:=by kernel_rfl
theorem aej:al prog 108=some Wr:=by kernel_rfl
theorem aei:al prog 109=some Wq:=by kernel_rfl
theorem aeh:al prog 110=some Wp:=by kernel_rfl
theorem aeg:al prog 111=some Wo:=by kernel_rfl
theorem aef:al prog 112=some Wn:=by kernel_rfl
theorem aee:al prog 113=some Wm:=by kernel_rfl
theorem aed:al prog 114=some Wl:=by kernel_rfl
theorem aec:al prog 115=some LG:=by kernel_rfl
theorem aeb:al prog 116=some Wk:=by kernel_rfl
theorem aea:al prog 117=some Wj:=by kernel_rfl
theorem ad9:al prog 118=some Wi:=by kernel_rfl
theorem ad8:al prog 119=some F119:=by kernel_rfl
theorem ad7:al prog 120=some Wh:=by kernel_rfl
theorem ad6:al prog 121=some F121:=by kernel_rfl
theorem ad5:al prog 122=some Wg:=by kernel_rfl
theorem ad4:al prog 123=some Wf:=by kernel_rfl
theorem ad3:al prog 124=some We:=by kernel_rfl
theorem ad2:al prog 125=some Wd:=by kernel_rfl
theorem ad1:al prog 126=some Wb:=by kernel_rfl
theorem ad0:al prog 127=some Wa:=by kernel_rfl
theorem adZ:al prog 128=some V9:=by kernel_rfl
theorem adY:al prog 129=some V8:=by kernel_rfl
theorem adX:al prog 130=some V7:=by kernel_rfl
theorem adW:al prog 131=some (QG 131):=by kernel_rfl
theorem adV:al prog 132=some (QG 132):=by kernel_rfl
theorem adU:al prog 133=some (QG 133):=by kernel_rfl
theorem adT:al prog 134=some (QG 134):=by kernel_rfl
theorem adS:al prog 135=some (QG 135):=by kernel_rfl
theorem adR:al prog 136=some (QG 136):=by kernel_rfl
theorem adQ:al prog 137=some (QG 137):=by kernel_rfl
theorem adP:al prog 138=some (QG 138):=by kernel_rfl
theorem adO:al prog 139=some (QG 139):=by kernel_rfl
theorem adN:al prog 140=some (QG 140):=by kernel_rfl
theorem adM:al prog 141=some V6:=by kernel_rfl
theorem adL:al prog 142=some V5:=by kernel_rfl
theorem adK:al prog 143=some (QG 143):=by kernel_rfl
theorem adJ:al prog 144=some (QG 144):=by kernel_rfl
theorem adI:al prog 145=some (QG 145):=by kernel_rfl
theorem adH:al prog 146=some (QG 146):=by kernel_rfl
theorem adG:al prog 147=some (QG 147):=by kernel_rfl
theorem adF:al prog 148=some (QG 148):=by kernel_rfl
theorem adE:al prog 149=some (QG 149):=by kernel_rfl
theorem adD:al prog 150=some (QG 150):=by kernel_rfl
theorem adC:al prog 151=some V4:=by kernel_rfl
theorem adB:al prog 152=some V3:=by kernel_rfl
theorem adA:al prog 153=some V2:=by kernel_rfl
theorem adz:al prog 154=some V1:=by kernel_rfl
theorem ady:al prog 155=some V0:=by kernel_rfl
theorem adx:al prog 156=some VZ:=by kernel_rfl
theorem adw:al prog 157=some GK:=by kernel_rfl
theorem adv:al prog 158=some VY:=by kernel_rfl
theorem adu:al prog 159=some VX:=by kernel_rfl
theorem adt:al prog 160=some VW:=by kernel_rfl
theorem ads:al prog 161=some VV:=by kernel_rfl
theorem adr:al prog 162=some VU:=by kernel_rfl
theorem adq:al prog 163=some VT:=by kernel_rfl
theorem adp:al prog 164=some VS:=by kernel_rfl
theorem ado:al prog 165=some VQ:=by kernel_rfl
theorem adn:al prog 166=some F166:=by kernel_rfl
theorem adm:al prog 167=some (QG 167):=by kernel_rfl
theorem adl:al prog 168=some (QG 168):=by kernel_rfl
theorem adk:al prog 169=some (QG 169):=by kernel_rfl
theorem adj:al prog 170=some (QG 170):=by kernel_rfl
theorem adi:al prog 171=some (QG 171):=by kernel_rfl
theorem adh:al prog 172=some (QG 172):=by kernel_rfl
theorem adg:al prog 173=some (QG 173):=by kernel_rfl
theorem adf:al prog 174=some (QG 174):=by kernel_rfl
theorem ade:al prog 175=some F175:=by kernel_rfl
theorem adc:al prog 176=some VP:=by kernel_rfl
theorem adb:al prog 177=some LF:=by kernel_rfl
theorem ada:al prog 178=some wh:=by kernel_rfl
theorem ac9:al prog 179=some VO:=by kernel_rfl
theorem ac8:al prog 180=some (QG 180):=by kernel_rfl
theorem ac7:al prog 181=some (QG 181):=by kernel_rfl
theorem ac6:al prog 182=some VN:=by kernel_rfl
theorem ac5:al prog 183=some VM:=by kernel_rfl
theorem ac4:al prog 184=some VL:=by kernel_rfl
theorem ac3:al prog 185=some VK:=by kernel_rfl
theorem QN{α:Type}{p:α->Prop}:∀x:α,none=some x->p x:=λ_ h=>by cases h
theorem QX{α:Type}{p:α->Prop}{a:α}(h:p a):∀x:α,some a=some x->p x:=λ_ e=>by cases e;exact h
theorem Ml:fnT.All (λf fn=>al prog f=some fn) (λi=>i):=⟨QN,⟨QN,⟨(QX k3),⟨(QX k7),⟨(QX k15),⟨(QX k31),⟨(QX k63),⟨(QX ad0),aq,aq⟩,aq⟩,⟨(QX k95),⟨(QX adu),aq,aq⟩,aq⟩⟩,⟨(QX k47),⟨(QX k79),⟨(QX adK),aq,aq⟩,aq⟩,⟨(QX aeg),⟨(QX ade),aq,aq⟩,aq⟩⟩⟩,⟨(QX k23),⟨(QX k39),⟨(QX k71),⟨(QX adS),aq,aq⟩,aq⟩,⟨(QX aeo),⟨(QX adm),aq,aq⟩,aq⟩⟩,⟨(QX k55),⟨(QX k87),⟨(QX adC),aq,aq⟩,aq⟩,⟨(QX ad8),⟨(QX ac5),aq,aq⟩,aq⟩⟩⟩⟩,⟨(QX k11),⟨(QX k19),⟨(QX k35),⟨(QX k67),⟨(QX adW),aq,aq⟩,aq⟩,⟨(QX k99),⟨(QX adq),aq,aq⟩,aq⟩⟩,⟨(QX k51),⟨(QX k83),⟨(QX adG),aq,aq⟩,aq⟩,⟨(QX aec),⟨(QX ac9),aq,aq⟩,aq⟩⟩⟩,⟨(QX k27),⟨(QX k43),⟨(QX k75),⟨(QX adO),aq,aq⟩,aq⟩,⟨(QX aek),⟨(QX adi),aq,aq⟩,aq⟩⟩,⟨(QX k59),⟨(QX k91),⟨(QX ady),aq,aq⟩,aq⟩,⟨(QX ad4),aq,aq⟩⟩⟩⟩⟩,⟨(QX k5),⟨(QX k9),⟨(QX k17),⟨(QX k33),⟨(QX k65),⟨(QX adY),aq,aq⟩,aq⟩,⟨(QX k97),⟨(QX ads),aq,aq⟩,aq⟩⟩,⟨(QX k49),⟨(QX k81),⟨(QX adI),aq,aq⟩,aq⟩,⟨(QX aee),⟨(QX adb),aq,aq⟩,aq⟩⟩⟩,⟨(QX k25),⟨(QX k41),⟨(QX k73),⟨(QX adQ),aq,aq⟩,aq⟩,⟨(QX aem),⟨(QX adk),aq,aq⟩,aq⟩⟩,⟨(QX k57),⟨(QX k89),⟨(QX adA),aq,aq⟩,aq⟩,⟨(QX ad6),⟨(QX ac3),aq,aq⟩,aq⟩⟩⟩⟩,⟨(QX k13),⟨(QX k21),⟨(QX k37),⟨(QX k69),⟨(QX adU),aq,aq⟩,aq⟩,⟨(QX aeq),⟨(QX ado),aq,aq⟩,aq⟩⟩,⟨(QX k53),⟨(QX k85),⟨(QX adE),aq,aq⟩,aq⟩,⟨(QX aea),⟨(QX ac7),aq,aq⟩,aq⟩⟩⟩,⟨(QX k29),⟨(QX k45),⟨(QX k77),⟨(QX adM),aq,aq⟩,aq⟩,⟨(QX aei),⟨(QX adg),aq,aq⟩,aq⟩⟩,⟨(QX k61),⟨(QX k93),⟨(QX adw),aq,aq⟩,aq⟩,⟨(QX ad2),aq,aq⟩⟩⟩⟩⟩⟩,⟨QN,⟨(QX k4),⟨(QX k8),⟨(QX k16),⟨(QX k32),⟨(QX k64),⟨(QX adZ),aq,aq⟩,aq⟩,⟨(QX k96),⟨(QX adt),aq,aq⟩,aq⟩⟩,⟨(QX k48),⟨(QX k80),⟨(QX adJ),aq,aq⟩,aq⟩,⟨(QX aef),⟨(QX adc),aq,aq⟩,aq⟩⟩⟩,⟨(QX k24),⟨(QX k40),⟨(QX k72),⟨(QX adR),aq,aq⟩,aq⟩,⟨(QX aen),⟨(QX adl),aq,aq⟩,aq⟩⟩,⟨(QX k56),⟨(QX k88),⟨(QX adB),aq,aq⟩,aq⟩,⟨(QX ad7),⟨(QX ac4),aq,aq⟩,aq⟩⟩⟩⟩,⟨(QX k12),⟨(QX k20),⟨(QX k36),⟨(QX k68),⟨(QX adV),aq,aq⟩,aq⟩,⟨(QX aer),⟨(QX adp),aq,aq⟩,aq⟩⟩,⟨(QX k52),⟨(QX k84),⟨(QX adF),aq,aq⟩,aq⟩,⟨(QX aeb),⟨(QX ac8),aq,aq⟩,aq⟩⟩⟩,⟨(QX k28),⟨(QX k44),⟨(QX k76),⟨(QX adN),aq,aq⟩,aq⟩,⟨(QX aej),⟨(QX adh),aq,aq⟩,aq⟩⟩,⟨(QX k60),⟨(QX k92),⟨(QX adx),aq,aq⟩,aq⟩,⟨(QX ad3),aq,aq⟩⟩⟩⟩⟩,⟨(QX k6),⟨(QX k10),⟨(QX k18),⟨(QX k34),⟨(QX k66),⟨(QX adX),aq,aq⟩,aq⟩,⟨(QX k98),⟨(QX adr),aq,aq⟩,aq⟩⟩,⟨(QX k50),⟨(QX k82),⟨(QX adH),aq,aq⟩,aq⟩,⟨(QX aed),⟨(QX ada),aq,aq⟩,aq⟩⟩⟩,⟨(QX k26),⟨(QX k42),⟨(QX k74),⟨(QX adP),aq,aq⟩,aq⟩,⟨(QX ael),⟨(QX adj),aq,aq⟩,aq⟩⟩,⟨(QX k58),⟨(QX k90),⟨(QX adz),aq,aq⟩,aq⟩,⟨(QX ad5),aq,aq⟩⟩⟩⟩,⟨(QX k14),⟨(QX k22),⟨(QX k38),⟨(QX k70),⟨(QX adT),aq,aq⟩,aq⟩,⟨(QX aep),⟨(QX adn),aq,aq⟩,aq⟩⟩,⟨(QX k54),⟨(QX k86),⟨(QX adD),aq,aq⟩,aq⟩,⟨(QX ad9),⟨(QX ac6),aq,aq⟩,aq⟩⟩⟩,⟨(QX k30),⟨(QX k46),⟨(QX k78),⟨(QX adL),aq,aq⟩,aq⟩,⟨(QX aeh),⟨(QX adf),aq,aq⟩,aq⟩⟩,⟨(QX k62),⟨(QX k94),⟨(QX adv),aq,aq⟩,aq⟩,⟨(QX ad1),aq,aq⟩⟩⟩⟩⟩⟩⟩
theorem aeJ:EnvOk prog En:=⟨λf fn h=>pS fnT (λi=>i) f fn Ml h,λf s h=>by cases h⟩
def isT:Out->Heap->Bool:=λo _=>match o with|.val v=>(match v with|.bool b=>b|_=>false)|_=>false
theorem RJ{o:Out}{H:Heap}(h:isT o H=true):o=.val (.bool true):=by cases o with|ex e fr=>cases h|val v=>cases v<;>first|(cases h;done)|(rename_i b;cases b<;>first|rfl|(cases h;done))
end Go.Iso.Gen
