/-
  the code is that of the program.
-/
import Derived.Test.YtblalpngahiehaaGreatDoorGen
import Derived.Test.YtblalpngahiehaaGreatDoorIsoP5
set_option linter.unusedSimpArgs false
set_option linter.unusedVariables false
set_option maxRecDepth 100000
set_option maxHeartbeats 4000000
section
namespace Go.Iso.Gen
open Go.Proofs
theorem k3:al Tryz.prog 3=some F3:=by kernel_rfl
theorem k4:al Tryz.prog 4=some F4:=by kernel_rfl
theorem k5:al Tryz.prog 5=some F5:=by kernel_rfl
theorem k6:al Tryz.prog 6=some F6:=by kernel_rfl
theorem k7:al Tryz.prog 7=some (QG 7):=by kernel_rfl
theorem k8:al Tryz.prog 8=some F8:=by kernel_rfl
theorem k9:al Tryz.prog 9=some F9:=by kernel_rfl
theorem k10:al Tryz.prog 10=some F10:=by kernel_rfl
theorem k11:al Tryz.prog 11=some F11:=by kernel_rfl
theorem k12:al Tryz.prog 12=some F12:=by kernel_rfl
theorem k13:al Tryz.prog 13=some F13:=by kernel_rfl
theorem k14:al Tryz.prog 14=some F14:=by kernel_rfl
theorem k15:al Tryz.prog 15=some F15:=by kernel_rfl
theorem k16:al Tryz.prog 16=some F16:=by kernel_rfl
theorem k17:al Tryz.prog 17=some F17:=by kernel_rfl
theorem k18:al Tryz.prog 18=some F18:=by kernel_rfl
theorem k19:al Tryz.prog 19=some F19:=by kernel_rfl
theorem k20:al Tryz.prog 20=some F20:=by kernel_rfl
theorem k21:al Tryz.prog 21=some F21:=by kernel_rfl
theorem k22:al Tryz.prog 22=some SW:=by kernel_rfl
theorem k23:al Tryz.prog 23=some F23:=by kernel_rfl
theorem k24:al Tryz.prog 24=some F24:=by kernel_rfl
theorem k25:al Tryz.prog 25=some F25:=by kernel_rfl
theorem k26:al Tryz.prog 26=some F26:=by kernel_rfl
theorem k27:al Tryz.prog 27=some F27:=by kernel_rfl
theorem k28:al Tryz.prog 28=some F28:=by kernel_rfl
theorem k29:al Tryz.prog 29=some F29:=by kernel_rfl
theorem k30:al Tryz.prog 30=some F30:=by kernel_rfl
theorem k31:al Tryz.prog 31=some F31:=by kernel_rfl
theorem k32:al Tryz.prog 32=some F32:=by kernel_rfl
theorem k33:al Tryz.prog 33=some F33:=by kernel_rfl
theorem k34:al Tryz.prog 34=some F34:=by kernel_rfl
theorem k35:al Tryz.prog 35=some F35:=by kernel_rfl
theorem k36:al Tryz.prog 36=some F36:=by kernel_rfl
theorem k37:al Tryz.prog 37=some F37:=by kernel_rfl
theorem k38:al Tryz.prog 38=some F38:=by kernel_rfl
theorem k39:al Tryz.prog 39=some F39:=by kernel_rfl
theorem k40:al Tryz.prog 40=some F40:=by kernel_rfl
theorem k41:al Tryz.prog 41=some F41:=by kernel_rfl
theorem k42:al Tryz.prog 42=some F42:=by kernel_rfl
theorem k43:al Tryz.prog 43=some F43:=by kernel_rfl
theorem k44:al Tryz.prog 44=some F44:=by kernel_rfl
theorem k45:al Tryz.prog 45=some F45:=by kernel_rfl
theorem k46:al Tryz.prog 46=some F46:=by kernel_rfl
theorem k47:al Tryz.prog 47=some F47:=by kernel_rfl
theorem k48:al Tryz.prog 48=some Sy:=by kernel_rfl
theorem k49:al Tryz.prog 49=some F49:=by kernel_rfl
theorem k50:al Tryz.prog 50=some F50:=by kernel_rfl
theorem k51:al Tryz.prog 51=some F51:=by kernel_rfl
theorem k52:al Tryz.prog 52=some F52:=by kernel_rfl
theorem k53:al Tryz.prog 53=some F53:=by kernel_rfl
theorem k54:al Tryz.prog 54=some F54:=by kernel_rfl
theorem k55:al Tryz.prog 55=some F55:=by kernel_rfl
theorem k56:al Tryz.prog 56=some F56:=by kernel_rfl
theorem k57:al Tryz.prog 57=some F57:=by kernel_rfl
theorem k58:al Tryz.prog 58=some F58:=by kernel_rfl
theorem k59:al Tryz.prog 59=some F59:=by kernel_rfl
theorem k60:al Tryz.prog 60=some F60:=by kernel_rfl
theorem k61:al Tryz.prog 61=some F61:=by kernel_rfl
theorem k62:al Tryz.prog 62=some F62:=by kernel_rfl
theorem k63:al Tryz.prog 63=some F63:=by kernel_rfl
theorem k64:al Tryz.prog 64=some F64:=by kernel_rfl
theorem k65:al Tryz.prog 65=some F65:=by kernel_rfl
theorem k66:al Tryz.prog 66=some F66:=by kernel_rfl
theorem k67:al Tryz.prog 67=some F67:=by kernel_rfl
theorem k68:al Tryz.prog 68=some F68:=by kernel_rfl
theorem k69:al Tryz.prog 69=some F69:=by kernel_rfl
theorem k70:al Tryz.prog 70=some F70:=by kernel_rfl
theorem k71:al Tryz.prog 71=some F71:=by kernel_rfl
theorem k72:al Tryz.prog 72=some YH:=by kernel_rfl
theorem k73:al Tryz.prog 73=some F73:=by kernel_rfl
theorem k74:al Tryz.prog 74=some F74:=by kernel_rfl
theorem k75:al Tryz.prog 75=some F75:=by kernel_rfl
theorem k76:al Tryz.prog 76=some F76:=by kernel_rfl
theorem k77:al Tryz.prog 77=some F77:=by kernel_rfl
theorem k78:al Tryz.prog 78=some F78:=by kernel_rfl
theorem k79:al Tryz.prog 79=some F79:=by kernel_rfl
theorem k80:al Tryz.prog 80=some F80:=by kernel_rfl
theorem k81:al Tryz.prog 81=some F81:=by kernel_rfl
theorem k82:al Tryz.prog 82=some F82:=by kernel_rfl
theorem k83:al Tryz.prog 83=some F83:=by kernel_rfl
theorem k84:al Tryz.prog 84=some F84:=by kernel_rfl
theorem k85:al Tryz.prog 85=some F85:=by kernel_rfl
theorem k86:al Tryz.prog 86=some F86:=by kernel_rfl
theorem k87:al Tryz.prog 87=some F87:=by kernel_rfl
theorem k88:al Tryz.prog 88=some F88:=by kernel_rfl
theorem k89:al Tryz.prog 89=some F89:=by kernel_rfl
theorem k90:al Tryz.prog 90=some F90:=by kernel_rfl
theorem k91:al Tryz.prog 91=some YG:=by kernel_rfl
theorem k92:al Tryz.prog 92=some F92:=by kernel_rfl
theorem k93:al Tryz.prog 93=some F93:=by kernel_rfl
theorem k94:al Tryz.prog 94=some F94:=by kernel_rfl
theorem k95:al Tryz.prog 95=some F95:=by kernel_rfl
theorem k96:al Tryz.prog 96=some F96:=by kernel_rfl
theorem k97:al Tryz.prog 97=some F97:=by kernel_rfl
theorem k98:al Tryz.prog 98=some F98:=by kernel_rfl
theorem k99:al Tryz.prog 99=some Y4:=by kernel_rfl
theorem ad7:al Tryz.prog 100=some VY:=by kernel_rfl
theorem ad6:al Tryz.prog 101=some (QG 101):=by kernel_rfl
theorem ad5:al Tryz.prog 102=some (QG 102):=by kernel_rfl
theorem ad4:al Tryz.prog 103=some VX:=by kernel_rfl
theorem ad3:al Tryz.prog 104=some VW:=by kernel_rfl
theorem ad2:al Tryz.prog 105=some VV:=by kernel_rfl
theorem ad1:al Tryz.prog 106=some (QG 106):=by kernel_rfl
theorem ad0:al Tryz.prog 107=some VU:=by kernel_rfl
theorem adZ:al Tryz.prog 108=some VT:=by kernel_rfl
theorem adY:al Tryz.prog 109=some VS:=by kernel_rfl
theorem adX:al Tryz.prog 110=some VQ:=by kernel_rfl
theorem adW:al Tryz.prog 111=some VP:=by kernel_rfl
theorem adV:al Tryz.prog 112=some VO:=by kernel_rfl
theorem adU:al Tryz.prog 113=some VN:=by kernel_rfl
theorem adT:al Tryz.prog 114=some VM:=by kernel_rfl
theorem adS:al Tryz.prog 115=some K5:=by kernel_rfl
theorem adR:al Tryz.prog 116=some VL:=by kernel_rfl
theorem adQ:al Tryz.prog 117=some VK:=by kernel_rfl
theorem adP:al Tryz.prog 118=some VJ:=by kernel_rfl
theorem adO:al Tryz.prog 119=some F119:=by kernel_rfl
theorem adN:al Tryz.prog 120=some VI:=by kernel_rfl
theorem adM:al Tryz.prog 121=some F121:=by kernel_rfl
theorem adL:al Tryz.prog 122=some VH:=by kernel_rfl
theorem adK:al Tryz.prog 123=some VG:=by kernel_rfl
theorem adJ:al Tryz.prog 124=some VF:=by kernel_rfl
theorem adI:al Tryz.prog 125=some VE:=by kernel_rfl
theorem adH:al Tryz.prog 126=some VD:=by kernel_rfl
theorem adG:al Tryz.prog 127=some VC:=by kernel_rfl
theorem adF:al Tryz.prog 128=some VB:=by kernel_rfl
theorem adE:al Tryz.prog 129=some VA:=by kernel_rfl
theorem adD:al Tryz.prog 130=some Vz:=by kernel_rfl
theorem adC:al Tryz.prog 131=some (QG 131):=by kernel_rfl
theorem adB:al Tryz.prog 132=some (QG 132):=by kernel_rfl
theorem adA:al Tryz.prog 133=some (QG 133):=by kernel_rfl
theorem adz:al Tryz.prog 134=some (QG 134):=by kernel_rfl
theorem ady:al Tryz.prog 135=some (QG 135):=by kernel_rfl
theorem adx:al Tryz.prog 136=some (QG 136):=by kernel_rfl
theorem adw:al Tryz.prog 137=some (QG 137):=by kernel_rfl
theorem adv:al Tryz.prog 138=some (QG 138):=by kernel_rfl
theorem adu:al Tryz.prog 139=some (QG 139):=by kernel_rfl
theorem adt:al Tryz.prog 140=some (QG 140):=by kernel_rfl
theorem ads:al Tryz.prog 141=some Vy:=by kernel_rfl
theorem adr:al Tryz.prog 142=some Vx:=by kernel_rfl
theorem adq:al Tryz.prog 143=some (QG 143):=by kernel_rfl
theorem adp:al Tryz.prog 144=some (QG 144):=by kernel_rfl
theorem ado:al Tryz.prog 145=some (QG 145):=by kernel_rfl
theorem adn:al Tryz.prog 146=some (QG 146):=by kernel_rfl
theorem adm:al Tryz.prog 147=some (QG 147):=by kernel_rfl
theorem adl:al Tryz.prog 148=some (QG 148):=by kernel_rfl
theorem adk:al Tryz.prog 149=some (QG 149):=by kernel_rfl
theorem adj:al Tryz.prog 150=some (QG 150):=by kernel_rfl
theorem adi:al Tryz.prog 151=some Vw:=by kernel_rfl
theorem adh:al Tryz.prog 152=some Vv:=by kernel_rfl
theorem adg:al Tryz.prog 153=some Vu:=by kernel_rfl
theorem adf:al Tryz.prog 154=some Vt:=by kernel_rfl
theorem ade:al Tryz.prog 155=some Vs:=by kernel_rfl
theorem adc:al Tryz.prog 156=some Vr:=by kernel_rfl
theorem adb:al Tryz.prog 157=some Gg:=by kernel_rfl
theorem ada:al Tryz.prog 158=some Vq:=by kernel_rfl
theorem ac9:al Tryz.prog 159=some Vp:=by kernel_rfl
theorem ac8:al Tryz.prog 160=some Vo:=by kernel_rfl
theorem ac7:al Tryz.prog 161=some Vn:=by kernel_rfl
theorem ac6:al Tryz.prog 162=some Vm:=by kernel_rfl
theorem ac5:al Tryz.prog 163=some Vl:=by kernel_rfl
theorem ac4:al Tryz.prog 164=some Vk:=by kernel_rfl
theorem ac3:al Tryz.prog 165=some Vj:=by kernel_rfl
theorem ac2:al Tryz.prog 166=some F166:=by kernel_rfl
theorem ac1:al Tryz.prog 167=some (QG 167):=by kernel_rfl
theorem ac0:al Tryz.prog 168=some (QG 168):=by kernel_rfl
theorem acZ:al Tryz.prog 169=some (QG 169):=by kernel_rfl
theorem acY:al Tryz.prog 170=some (QG 170):=by kernel_rfl
theorem acX:al Tryz.prog 171=some (QG 171):=by kernel_rfl
theorem acW:al Tryz.prog 172=some (QG 172):=by kernel_rfl
theorem acV:al Tryz.prog 173=some (QG 173):=by kernel_rfl
theorem acU:al Tryz.prog 174=some (QG 174):=by kernel_rfl
theorem acT:al Tryz.prog 175=some F175:=by kernel_rfl
theorem acS:al Tryz.prog 176=some Vi:=by kernel_rfl
theorem acR:al Tryz.prog 177=some K4:=by kernel_rfl
theorem acQ:al Tryz.prog 178=some vD:=by kernel_rfl
theorem acP:al Tryz.prog 179=some Vh:=by kernel_rfl
theorem acO:al Tryz.prog 180=some (QG 180):=by kernel_rfl
theorem acN:al Tryz.prog 181=some (QG 181):=by kernel_rfl
theorem acM:al Tryz.prog 182=some Vg:=by kernel_rfl
theorem acL:al Tryz.prog 183=some Vf:=by kernel_rfl
theorem acK:al Tryz.prog 184=some Ve:=by kernel_rfl
theorem acJ:al Tryz.prog 185=some Vd:=by kernel_rfl
theorem QN{α:Type}{p:α->Prop}:∀x:α,none=some x->p x:=λ_ h=>by cases h
theorem QX{α:Type}{p:α->Prop}{a:α}(h:p a):∀x:α,some a=some x->p x:=λ_ e=>by cases e;exact h
theorem LI:fnT.All (λf fn=>al Tryz.prog f=some fn) (λi=>i):=⟨QN,⟨QN,⟨(QX k3),⟨(QX k7),⟨(QX k15),⟨(QX k31),⟨(QX k63),⟨(QX adG),aq,aq⟩,aq⟩,⟨(QX k95),⟨(QX ac9),aq,aq⟩,aq⟩⟩,⟨(QX k47),⟨(QX k79),⟨(QX adq),aq,aq⟩,aq⟩,⟨(QX adW),⟨(QX acT),aq,aq⟩,aq⟩⟩⟩,⟨(QX k23),⟨(QX k39),⟨(QX k71),⟨(QX ady),aq,aq⟩,aq⟩,⟨(QX ad4),⟨(QX ac1),aq,aq⟩,aq⟩⟩,⟨(QX k55),⟨(QX k87),⟨(QX adi),aq,aq⟩,aq⟩,⟨(QX adO),⟨(QX acL),aq,aq⟩,aq⟩⟩⟩⟩,⟨(QX k11),⟨(QX k19),⟨(QX k35),⟨(QX k67),⟨(QX adC),aq,aq⟩,aq⟩,⟨(QX k99),⟨(QX ac5),aq,aq⟩,aq⟩⟩,⟨(QX k51),⟨(QX k83),⟨(QX adm),aq,aq⟩,aq⟩,⟨(QX adS),⟨(QX acP),aq,aq⟩,aq⟩⟩⟩,⟨(QX k27),⟨(QX k43),⟨(QX k75),⟨(QX adu),aq,aq⟩,aq⟩,⟨(QX ad0),⟨(QX acX),aq,aq⟩,aq⟩⟩,⟨(QX k59),⟨(QX k91),⟨(QX ade),aq,aq⟩,aq⟩,⟨(QX adK),aq,aq⟩⟩⟩⟩⟩,⟨(QX k5),⟨(QX k9),⟨(QX k17),⟨(QX k33),⟨(QX k65),⟨(QX adE),aq,aq⟩,aq⟩,⟨(QX k97),⟨(QX ac7),aq,aq⟩,aq⟩⟩,⟨(QX k49),⟨(QX k81),⟨(QX ado),aq,aq⟩,aq⟩,⟨(QX adU),⟨(QX acR),aq,aq⟩,aq⟩⟩⟩,⟨(QX k25),⟨(QX k41),⟨(QX k73),⟨(QX adw),aq,aq⟩,aq⟩,⟨(QX ad2),⟨(QX acZ),aq,aq⟩,aq⟩⟩,⟨(QX k57),⟨(QX k89),⟨(QX adg),aq,aq⟩,aq⟩,⟨(QX adM),⟨(QX acJ),aq,aq⟩,aq⟩⟩⟩⟩,⟨(QX k13),⟨(QX k21),⟨(QX k37),⟨(QX k69),⟨(QX adA),aq,aq⟩,aq⟩,⟨(QX ad6),⟨(QX ac3),aq,aq⟩,aq⟩⟩,⟨(QX k53),⟨(QX k85),⟨(QX adk),aq,aq⟩,aq⟩,⟨(QX adQ),⟨(QX acN),aq,aq⟩,aq⟩⟩⟩,⟨(QX k29),⟨(QX k45),⟨(QX k77),⟨(QX ads),aq,aq⟩,aq⟩,⟨(QX adY),⟨(QX acV),aq,aq⟩,aq⟩⟩,⟨(QX k61),⟨(QX k93),⟨(QX adb),aq,aq⟩,aq⟩,⟨(QX adI),aq,aq⟩⟩⟩⟩⟩⟩,⟨QN,⟨(QX k4),⟨(QX k8),⟨(QX k16),⟨(QX k32),⟨(QX k64),⟨(QX adF),aq,aq⟩,aq⟩,⟨(QX k96),⟨(QX ac8),aq,aq⟩,aq⟩⟩,⟨(QX k48),⟨(QX k80),⟨(QX adp),aq,aq⟩,aq⟩,⟨(QX adV),⟨(QX acS),aq,aq⟩,aq⟩⟩⟩,⟨(QX k24),⟨(QX k40),⟨(QX k72),⟨(QX adx),aq,aq⟩,aq⟩,⟨(QX ad3),⟨(QX ac0),aq,aq⟩,aq⟩⟩,⟨(QX k56),⟨(QX k88),⟨(QX adh),aq,aq⟩,aq⟩,⟨(QX adN),⟨(QX acK),aq,aq⟩,aq⟩⟩⟩⟩,⟨(QX k12),⟨(QX k20),⟨(QX k36),⟨(QX k68),⟨(QX adB),aq,aq⟩,aq⟩,⟨(QX ad7),⟨(QX ac4),aq,aq⟩,aq⟩⟩,⟨(QX k52),⟨(QX k84),⟨(QX adl),aq,aq⟩,aq⟩,⟨(QX adR),⟨(QX acO),aq,aq⟩,aq⟩⟩⟩,⟨(QX k28),⟨(QX k44),⟨(QX k76),⟨(QX adt),aq,aq⟩,aq⟩,⟨(QX adZ),⟨(QX acW),aq,aq⟩,aq⟩⟩,⟨(QX k60),⟨(QX k92),⟨(QX adc),aq,aq⟩,aq⟩,⟨(QX adJ),aq,aq⟩⟩⟩⟩⟩,⟨(QX k6),⟨(QX k10),⟨(QX k18),⟨(QX k34),⟨(QX k66),⟨(QX adD),aq,aq⟩,aq⟩,⟨(QX k98),⟨(QX ac6),aq,aq⟩,aq⟩⟩,⟨(QX k50),⟨(QX k82),⟨(QX adn),aq,aq⟩,aq⟩,⟨(QX adT),⟨(QX acQ),aq,aq⟩,aq⟩⟩⟩,⟨(QX k26),⟨(QX k42),⟨(QX k74),⟨(QX adv),aq,aq⟩,aq⟩,⟨(QX ad1),⟨(QX acY),aq,aq⟩,aq⟩⟩,⟨(QX k58),⟨(QX k90),⟨(QX adf),aq,aq⟩,aq⟩,⟨(QX adL),aq,aq⟩⟩⟩⟩,⟨(QX k14),⟨(QX k22),⟨(QX k38),⟨(QX k70),⟨(QX adz),aq,aq⟩,aq⟩,⟨(QX ad5),⟨(QX ac2),aq,aq⟩,aq⟩⟩,⟨(QX k54),⟨(QX k86),⟨(QX adj),aq,aq⟩,aq⟩,⟨(QX adP),⟨(QX acM),aq,aq⟩,aq⟩⟩⟩,⟨(QX k30),⟨(QX k46),⟨(QX k78),⟨(QX adr),aq,aq⟩,aq⟩,⟨(QX adX),⟨(QX acU),aq,aq⟩,aq⟩⟩,⟨(QX k62),⟨(QX k94),⟨(QX ada),aq,aq⟩,aq⟩,⟨(QX adH),aq,aq⟩⟩⟩⟩⟩⟩⟩
theorem aeq:EnvOk Tryz.prog En:=⟨λf fn h=>pF fnT (λi=>i) f fn LI h,λf s h=>by cases h⟩
def isT:Out->Heap->Bool:=λo _=>match o with|.val v=>(match v with|.bool b=>b|_=>false)|_=>false
theorem Rg{o:Out}{H:Heap}(h:isT o H=true):o=.val (.bool true):=by cases o with|ex e fr=>cases h|val v=>cases v<;>first|(cases h;done)|(rename_i b;cases b<;>first|rfl|(cases h;done))
end Go.Iso.Gen
end
