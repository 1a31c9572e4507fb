/-
  the code is that of the program.
-/
import Derived.Test.YtkhgaoeaednggaaGreatDoorGen
import Derived.Test.YtkhgaoeaednggaaGreatDoorIsoP5
set_option linter.unusedSimpArgs false
set_option linter.unusedVariables false
set_option maxRecDepth 100000
set_option maxHeartbeats 4000000
section
namespace Go.Iso.Gen
open Go.Proofs
theorem k3:al Tryz.prog 3=some F3:=by kernel_rfl
theorem k4:al Tryz.prog 4=some F4:=by kernel_rfl
theorem k5:al Tryz.prog 5=some F5:=by kernel_rfl
theorem k6:al Tryz.prog 6=some F6:=by kernel_rfl
theorem k7:al Tryz.prog 7=some F7:=by kernel_rfl
theorem k8:al Tryz.prog 8=some F8:=by kernel_rfl
theorem k9:al Tryz.prog 9=some F9:=by kernel_rfl
theorem k10:al Tryz.prog 10=some F10:=by kernel_rfl
theorem k11:al Tryz.prog 11=some YV:=by kernel_rfl
theorem k12:al Tryz.prog 12=some YU:=by kernel_rfl
theorem k13:al Tryz.prog 13=some F13:=by kernel_rfl
theorem k14:al Tryz.prog 14=some (QG 14):=by kernel_rfl
theorem k15:al Tryz.prog 15=some F15:=by kernel_rfl
theorem k16:al Tryz.prog 16=some F16:=by kernel_rfl
theorem k17:al Tryz.prog 17=some F17:=by kernel_rfl
theorem k18:al Tryz.prog 18=some F18:=by kernel_rfl
theorem k19:al Tryz.prog 19=some F19:=by kernel_rfl
theorem k20:al Tryz.prog 20=some F20:=by kernel_rfl
theorem k21:al Tryz.prog 21=some F21:=by kernel_rfl
theorem k22:al Tryz.prog 22=some F22:=by kernel_rfl
theorem k23:al Tryz.prog 23=some (QG 23):=by kernel_rfl
theorem k24:al Tryz.prog 24=some (QG 24):=by kernel_rfl
theorem k25:al Tryz.prog 25=some (QG 25):=by kernel_rfl
theorem k26:al Tryz.prog 26=some Vf:=by kernel_rfl
theorem k27:al Tryz.prog 27=some (QG 27):=by kernel_rfl
theorem k28:al Tryz.prog 28=some F28:=by kernel_rfl
theorem k29:al Tryz.prog 29=some F29:=by kernel_rfl
theorem k30:al Tryz.prog 30=some F30:=by kernel_rfl
theorem k31:al Tryz.prog 31=some F31:=by kernel_rfl
theorem k32:al Tryz.prog 32=some F32:=by kernel_rfl
theorem k33:al Tryz.prog 33=some F33:=by kernel_rfl
theorem k34:al Tryz.prog 34=some F34:=by kernel_rfl
theorem k35:al Tryz.prog 35=some F35:=by kernel_rfl
theorem k36:al Tryz.prog 36=some F36:=by kernel_rfl
theorem k37:al Tryz.prog 37=some F37:=by kernel_rfl
theorem Zt:al Tryz.prog 38=some F38:=by kernel_rfl
theorem k39:al Tryz.prog 39=some F39:=by kernel_rfl
theorem k40:al Tryz.prog 40=some F40:=by kernel_rfl
theorem k41:al Tryz.prog 41=some F41:=by kernel_rfl
theorem k42:al Tryz.prog 42=some F42:=by kernel_rfl
theorem k43:al Tryz.prog 43=some F43:=by kernel_rfl
theorem k44:al Tryz.prog 44=some Z9:=by kernel_rfl
theorem k45:al Tryz.prog 45=some Z8:=by kernel_rfl
theorem k46:al Tryz.prog 46=some Z7:=by kernel_rfl
theorem k47:al Tryz.prog 47=some F47:=by kernel_rfl
theorem k48:al Tryz.prog 48=some Z6:=by kernel_rfl
theorem k49:al Tryz.prog 49=some Z5:=by kernel_rfl
theorem k50:al Tryz.prog 50=some Z4:=by kernel_rfl
theorem k51:al Tryz.prog 51=some F51:=by kernel_rfl
theorem k52:al Tryz.prog 52=some Z3:=by kernel_rfl
theorem k53:al Tryz.prog 53=some Z2:=by kernel_rfl
theorem k54:al Tryz.prog 54=some (QG 54):=by kernel_rfl
theorem k55:al Tryz.prog 55=some (QG 55):=by kernel_rfl
theorem k56:al Tryz.prog 56=some F56:=by kernel_rfl
theorem k57:al Tryz.prog 57=some (QG 57):=by kernel_rfl
theorem k58:al Tryz.prog 58=some F58:=by kernel_rfl
theorem k59:al Tryz.prog 59=some (QG 59):=by kernel_rfl
theorem k60:al Tryz.prog 60=some F60:=by kernel_rfl
theorem k61:al Tryz.prog 61=some (QG 61):=by kernel_rfl
theorem k62:al Tryz.prog 62=some F62:=by kernel_rfl
theorem k63:al Tryz.prog 63=some Z1:=by kernel_rfl
theorem k64:al Tryz.prog 64=some Z0:=by kernel_rfl
theorem k65:al Tryz.prog 65=some ZZ:=by kernel_rfl
theorem k66:al Tryz.prog 66=some ZY:=by kernel_rfl
theorem k67:al Tryz.prog 67=some ZX:=by kernel_rfl
theorem k68:al Tryz.prog 68=some ZW:=by kernel_rfl
theorem k69:al Tryz.prog 69=some ZV:=by kernel_rfl
theorem k70:al Tryz.prog 70=some ZU:=by kernel_rfl
theorem k71:al Tryz.prog 71=some ZT:=by kernel_rfl
theorem k72:al Tryz.prog 72=some ZS:=by kernel_rfl
theorem k73:al Tryz.prog 73=some ZR:=by kernel_rfl
theorem k74:al Tryz.prog 74=some ZQ:=by kernel_rfl
theorem k75:al Tryz.prog 75=some ZP:=by kernel_rfl
theorem k76:al Tryz.prog 76=some ZO:=by kernel_rfl
theorem k77:al Tryz.prog 77=some Xm:=by kernel_rfl
theorem k78:al Tryz.prog 78=some ZN:=by kernel_rfl
theorem k79:al Tryz.prog 79=some ZM:=by kernel_rfl
theorem k80:al Tryz.prog 80=some ZL:=by kernel_rfl
theorem k81:al Tryz.prog 81=some ZK:=by kernel_rfl
theorem k82:al Tryz.prog 82=some ZJ:=by kernel_rfl
theorem k83:al Tryz.prog 83=some ZI:=by kernel_rfl
theorem k84:al Tryz.prog 84=some F84:=by kernel_rfl
theorem k85:al Tryz.prog 85=some XE:=by kernel_rfl
theorem k86:al Tryz.prog 86=some ZH:=by kernel_rfl
theorem k87:al Tryz.prog 87=some (QG 87):=by kernel_rfl
theorem k88:al Tryz.prog 88=some (QG 88):=by kernel_rfl
theorem k89:al Tryz.prog 89=some ZG:=by kernel_rfl
theorem k90:al Tryz.prog 90=some ZF:=by kernel_rfl
theorem k91:al Tryz.prog 91=some ZE:=by kernel_rfl
theorem k92:al Tryz.prog 92=some (QG 92):=by kernel_rfl
theorem k93:al Tryz.prog 93=some (QG 93):=by kernel_rfl
theorem k94:al Tryz.prog 94=some (QG 94):=by kernel_rfl
theorem k95:al Tryz.prog 95=some F95:=by kernel_rfl
theorem k96:al Tryz.prog 96=some F96:=by kernel_rfl
theorem k97:al Tryz.prog 97=some F97:=by kernel_rfl
theorem k98:al Tryz.prog 98=some F98:=by kernel_rfl
theorem k99:al Tryz.prog 99=some F99:=by kernel_rfl
theorem aco:al Tryz.prog 100=some UG:=by kernel_rfl
theorem acn:al Tryz.prog 101=some UF:=by kernel_rfl
theorem acm:al Tryz.prog 102=some UE:=by kernel_rfl
theorem acl:al Tryz.prog 103=some UD:=by kernel_rfl
theorem ack:al Tryz.prog 104=some UC:=by kernel_rfl
theorem acj:al Tryz.prog 105=some UB:=by kernel_rfl
theorem aci:al Tryz.prog 106=some UA:=by kernel_rfl
theorem ach:al Tryz.prog 107=some Uz:=by kernel_rfl
theorem acg:al Tryz.prog 108=some J3:=by kernel_rfl
theorem acf:al Tryz.prog 109=some Uy:=by kernel_rfl
theorem ace:al Tryz.prog 110=some Ux:=by kernel_rfl
theorem acd:al Tryz.prog 111=some Uw:=by kernel_rfl
theorem acb:al Tryz.prog 112=some F112:=by kernel_rfl
theorem aca:al Tryz.prog 113=some Uv:=by kernel_rfl
theorem ab9:al Tryz.prog 114=some F114:=by kernel_rfl
theorem ab8:al Tryz.prog 115=some Uu:=by kernel_rfl
theorem ab7:al Tryz.prog 116=some Ut:=by kernel_rfl
theorem ab6:al Tryz.prog 117=some Us:=by kernel_rfl
theorem ab5:al Tryz.prog 118=some Ur:=by kernel_rfl
theorem ab4:al Tryz.prog 119=some Uq:=by kernel_rfl
theorem ab3:al Tryz.prog 120=some Up:=by kernel_rfl
theorem ab2:al Tryz.prog 121=some Uo:=by kernel_rfl
theorem ab1:al Tryz.prog 122=some Um:=by kernel_rfl
theorem ab0:al Tryz.prog 123=some Ul:=by kernel_rfl
theorem abZ:al Tryz.prog 124=some (QG 124):=by kernel_rfl
theorem abY:al Tryz.prog 125=some (QG 125):=by kernel_rfl
theorem abX:al Tryz.prog 126=some (QG 126):=by kernel_rfl
theorem abW:al Tryz.prog 127=some (QG 127):=by kernel_rfl
theorem abV:al Tryz.prog 128=some (QG 128):=by kernel_rfl
theorem abU:al Tryz.prog 129=some (QG 129):=by kernel_rfl
theorem abT:al Tryz.prog 130=some (QG 130):=by kernel_rfl
theorem abS:al Tryz.prog 131=some (QG 131):=by kernel_rfl
theorem abR:al Tryz.prog 132=some (QG 132):=by kernel_rfl
theorem abQ:al Tryz.prog 133=some (QG 133):=by kernel_rfl
theorem abP:al Tryz.prog 134=some Uk:=by kernel_rfl
theorem abO:al Tryz.prog 135=some Uj:=by kernel_rfl
theorem abN:al Tryz.prog 136=some (QG 136):=by kernel_rfl
theorem abM:al Tryz.prog 137=some (QG 137):=by kernel_rfl
theorem abL:al Tryz.prog 138=some (QG 138):=by kernel_rfl
theorem abK:al Tryz.prog 139=some (QG 139):=by kernel_rfl
theorem abJ:al Tryz.prog 140=some (QG 140):=by kernel_rfl
theorem abI:al Tryz.prog 141=some (QG 141):=by kernel_rfl
theorem abH:al Tryz.prog 142=some (QG 142):=by kernel_rfl
theorem abG:al Tryz.prog 143=some (QG 143):=by kernel_rfl
theorem abF:al Tryz.prog 144=some Ui:=by kernel_rfl
theorem abE:al Tryz.prog 145=some Uh:=by kernel_rfl
theorem abD:al Tryz.prog 146=some Ug:=by kernel_rfl
theorem abC:al Tryz.prog 147=some Uf:=by kernel_rfl
theorem abB:al Tryz.prog 148=some Ue:=by kernel_rfl
theorem abA:al Tryz.prog 149=some Ud:=by kernel_rfl
theorem abz:al Tryz.prog 150=some EO:=by kernel_rfl
theorem aby:al Tryz.prog 151=some Uc:=by kernel_rfl
theorem abx:al Tryz.prog 152=some Ub:=by kernel_rfl
theorem abw:al Tryz.prog 153=some Ua:=by kernel_rfl
theorem abv:al Tryz.prog 154=some T9:=by kernel_rfl
theorem abu:al Tryz.prog 155=some T8:=by kernel_rfl
theorem abt:al Tryz.prog 156=some T7:=by kernel_rfl
theorem abr:al Tryz.prog 157=some T6:=by kernel_rfl
theorem abq:al Tryz.prog 158=some T4:=by kernel_rfl
theorem abp:al Tryz.prog 159=some F159:=by kernel_rfl
theorem abo:al Tryz.prog 160=some (QG 160):=by kernel_rfl
theorem abn:al Tryz.prog 161=some (QG 161):=by kernel_rfl
theorem abm:al Tryz.prog 162=some (QG 162):=by kernel_rfl
theorem abl:al Tryz.prog 163=some (QG 163):=by kernel_rfl
theorem abj:al Tryz.prog 164=some (QG 164):=by kernel_rfl
theorem abi:al Tryz.prog 165=some (QG 165):=by kernel_rfl
theorem abh:al Tryz.prog 166=some (QG 166):=by kernel_rfl
theorem abg:al Tryz.prog 167=some (QG 167):=by kernel_rfl
theorem abf:al Tryz.prog 168=some F168:=by kernel_rfl
theorem abe:al Tryz.prog 169=some T3:=by kernel_rfl
theorem abd:al Tryz.prog 170=some J2:=by kernel_rfl
theorem abc:al Tryz.prog 171=some tL:=by kernel_rfl
theorem abb:al Tryz.prog 172=some T2:=by kernel_rfl
theorem aba:al Tryz.prog 173=some T1:=by kernel_rfl
theorem aa9:al Tryz.prog 174=some (QG 174):=by kernel_rfl
theorem aa8:al Tryz.prog 175=some (QG 175):=by kernel_rfl
theorem aa7:al Tryz.prog 176=some T0:=by kernel_rfl
theorem aa6:al Tryz.prog 177=some TZ:=by kernel_rfl
theorem aa5:al Tryz.prog 178=some TY:=by kernel_rfl
theorem aa4:al Tryz.prog 179=some TX:=by kernel_rfl
theorem QN{α:Type}{p:α->Prop}:∀x:α,none=some x->p x:=λ_ h=>by cases h
theorem QX{α:Type}{p:α->Prop}{a:α}(h:p a):∀x:α,some a=some x->p x:=λ_ e=>by cases e;exact h
theorem KT:fnT.All (λf fn=>al Tryz.prog f=some fn) (λi=>i):=⟨QN,⟨QN,⟨(QX k3),⟨(QX k7),⟨(QX k15),⟨(QX k31),⟨(QX k63),⟨(QX abW),aq,aq⟩,aq⟩,⟨(QX k95),⟨(QX abp),aq,aq⟩,aq⟩⟩,⟨(QX k47),⟨(QX k79),⟨(QX abG),aq,aq⟩,aq⟩,⟨(QX acd),⟨(QX aa8),aq,aq⟩,aq⟩⟩⟩,⟨(QX k23),⟨(QX k39),⟨(QX k71),⟨(QX abO),aq,aq⟩,aq⟩,⟨(QX acl),⟨(QX abg),aq,aq⟩,aq⟩⟩,⟨(QX k55),⟨(QX k87),⟨(QX aby),aq,aq⟩,aq⟩,⟨(QX ab4),aq,aq⟩⟩⟩⟩,⟨(QX k11),⟨(QX k19),⟨(QX k35),⟨(QX k67),⟨(QX abS),aq,aq⟩,aq⟩,⟨(QX k99),⟨(QX abl),aq,aq⟩,aq⟩⟩,⟨(QX k51),⟨(QX k83),⟨(QX abC),aq,aq⟩,aq⟩,⟨(QX ab8),⟨(QX aa4),aq,aq⟩,aq⟩⟩⟩,⟨(QX k27),⟨(QX k43),⟨(QX k75),⟨(QX abK),aq,aq⟩,aq⟩,⟨(QX ach),⟨(QX abc),aq,aq⟩,aq⟩⟩,⟨(QX k59),⟨(QX k91),⟨(QX abu),aq,aq⟩,aq⟩,⟨(QX ab0),aq,aq⟩⟩⟩⟩⟩,⟨(QX k5),⟨(QX k9),⟨(QX k17),⟨(QX k33),⟨(QX k65),⟨(QX abU),aq,aq⟩,aq⟩,⟨(QX k97),⟨(QX abn),aq,aq⟩,aq⟩⟩,⟨(QX k49),⟨(QX k81),⟨(QX abE),aq,aq⟩,aq⟩,⟨(QX aca),⟨(QX aa6),aq,aq⟩,aq⟩⟩⟩,⟨(QX k25),⟨(QX k41),⟨(QX k73),⟨(QX abM),aq,aq⟩,aq⟩,⟨(QX acj),⟨(QX abe),aq,aq⟩,aq⟩⟩,⟨(QX k57),⟨(QX k89),⟨(QX abw),aq,aq⟩,aq⟩,⟨(QX ab2),aq,aq⟩⟩⟩⟩,⟨(QX k13),⟨(QX k21),⟨(QX k37),⟨(QX k69),⟨(QX abQ),aq,aq⟩,aq⟩,⟨(QX acn),⟨(QX abi),aq,aq⟩,aq⟩⟩,⟨(QX k53),⟨(QX k85),⟨(QX abA),aq,aq⟩,aq⟩,⟨(QX ab6),aq,aq⟩⟩⟩,⟨(QX k29),⟨(QX k45),⟨(QX k77),⟨(QX abI),aq,aq⟩,aq⟩,⟨(QX acf),⟨(QX aba),aq,aq⟩,aq⟩⟩,⟨(QX k61),⟨(QX k93),⟨(QX abr),aq,aq⟩,aq⟩,⟨(QX abY),aq,aq⟩⟩⟩⟩⟩⟩,⟨QN,⟨(QX k4),⟨(QX k8),⟨(QX k16),⟨(QX k32),⟨(QX k64),⟨(QX abV),aq,aq⟩,aq⟩,⟨(QX k96),⟨(QX abo),aq,aq⟩,aq⟩⟩,⟨(QX k48),⟨(QX k80),⟨(QX abF),aq,aq⟩,aq⟩,⟨(QX acb),⟨(QX aa7),aq,aq⟩,aq⟩⟩⟩,⟨(QX k24),⟨(QX k40),⟨(QX k72),⟨(QX abN),aq,aq⟩,aq⟩,⟨(QX ack),⟨(QX abf),aq,aq⟩,aq⟩⟩,⟨(QX k56),⟨(QX k88),⟨(QX abx),aq,aq⟩,aq⟩,⟨(QX ab3),aq,aq⟩⟩⟩⟩,⟨(QX k12),⟨(QX k20),⟨(QX k36),⟨(QX k68),⟨(QX abR),aq,aq⟩,aq⟩,⟨(QX aco),⟨(QX abj),aq,aq⟩,aq⟩⟩,⟨(QX k52),⟨(QX k84),⟨(QX abB),aq,aq⟩,aq⟩,⟨(QX ab7),aq,aq⟩⟩⟩,⟨(QX k28),⟨(QX k44),⟨(QX k76),⟨(QX abJ),aq,aq⟩,aq⟩,⟨(QX acg),⟨(QX abb),aq,aq⟩,aq⟩⟩,⟨(QX k60),⟨(QX k92),⟨(QX abt),aq,aq⟩,aq⟩,⟨(QX abZ),aq,aq⟩⟩⟩⟩⟩,⟨(QX k6),⟨(QX k10),⟨(QX k18),⟨(QX k34),⟨(QX k66),⟨(QX abT),aq,aq⟩,aq⟩,⟨(QX k98),⟨(QX abm),aq,aq⟩,aq⟩⟩,⟨(QX k50),⟨(QX k82),⟨(QX abD),aq,aq⟩,aq⟩,⟨(QX ab9),⟨(QX aa5),aq,aq⟩,aq⟩⟩⟩,⟨(QX k26),⟨(QX k42),⟨(QX k74),⟨(QX abL),aq,aq⟩,aq⟩,⟨(QX aci),⟨(QX abd),aq,aq⟩,aq⟩⟩,⟨(QX k58),⟨(QX k90),⟨(QX abv),aq,aq⟩,aq⟩,⟨(QX ab1),aq,aq⟩⟩⟩⟩,⟨(QX k14),⟨(QX k22),⟨(QX Zt),⟨(QX k70),⟨(QX abP),aq,aq⟩,aq⟩,⟨(QX acm),⟨(QX abh),aq,aq⟩,aq⟩⟩,⟨(QX k54),⟨(QX k86),⟨(QX abz),aq,aq⟩,aq⟩,⟨(QX ab5),aq,aq⟩⟩⟩,⟨(QX k30),⟨(QX k46),⟨(QX k78),⟨(QX abH),aq,aq⟩,aq⟩,⟨(QX ace),⟨(QX aa9),aq,aq⟩,aq⟩⟩,⟨(QX k62),⟨(QX k94),⟨(QX abq),aq,aq⟩,aq⟩,⟨(QX abX),aq,aq⟩⟩⟩⟩⟩⟩⟩
theorem Yw:EnvOk Tryz.prog En:=⟨λf fn h=>ny fnT (λi=>i) f fn KT h,λf s h=>by cases h⟩
def isT:Out->Heap->Bool:=λo _=>match o with|.val v=>(match v with|.bool b=>b|_=>false)|_=>false
theorem Gy{o:Out}{H:Heap}(h:isT o H=true):o=.val (.bool true):=by cases o with|ex e fr=>cases h|val v=>cases v<;>first|(cases h;done)|(rename_i b;cases b<;>first|rfl|(cases h;done))
end Go.Iso.Gen
end
