/-
  the code is that of the program.
-/
import Derived.Test.YtpnbiapmndbhgaaGreatDoorGen
import Derived.Test.YtpnbiapmndbhgaaGreatDoorIsoP5
set_option linter.unusedSimpArgs false
set_option linter.unusedVariables false
set_option maxRecDepth 100000
set_option maxHeartbeats 4000000
section
namespace Go.Iso.Gen
open Go.Proofs
theorem k3:an Tryz.prog 3=some F3:=by kernel_rfl
theorem k7:an Tryz.prog 7=some F7:=by kernel_rfl
theorem k8:an Tryz.prog 8=some F8:=by kernel_rfl
theorem k9:an Tryz.prog 9=some F9:=by kernel_rfl
theorem k10:an Tryz.prog 10=some NH:=by kernel_rfl
theorem k24:an Tryz.prog 24=some (QG 24):=by kernel_rfl
theorem k25:an Tryz.prog 25=some (QG 25):=by kernel_rfl
theorem k26:an Tryz.prog 26=some (QG 26):=by kernel_rfl
theorem k27:an Tryz.prog 27=some F27:=by kernel_rfl
theorem k28:an Tryz.prog 28=some F28:=by kernel_rfl
theorem k29:an Tryz.prog 29=some F29:=by kernel_rfl
theorem k30:an Tryz.prog 30=some F30:=by kernel_rfl
theorem k31:an Tryz.prog 31=some F31:=by kernel_rfl
theorem k32:an Tryz.prog 32=some F32:=by kernel_rfl
theorem k33:an Tryz.prog 33=some F33:=by kernel_rfl
theorem k34:an Tryz.prog 34=some F34:=by kernel_rfl
theorem k35:an Tryz.prog 35=some F35:=by kernel_rfl
theorem k59:an Tryz.prog 59=some (QG 59):=by kernel_rfl
theorem k60:an Tryz.prog 60=some F60:=by kernel_rfl
theorem k61:an Tryz.prog 61=some F61:=by kernel_rfl
theorem k62:an Tryz.prog 62=some F62:=by kernel_rfl
theorem k63:an Tryz.prog 63=some F63:=by kernel_rfl
theorem k64:an Tryz.prog 64=some F64:=by kernel_rfl
theorem k65:an Tryz.prog 65=some F65:=by kernel_rfl
theorem k66:an Tryz.prog 66=some F66:=by kernel_rfl
theorem k67:an Tryz.prog 67=some F67:=by kernel_rfl
theorem k68:an Tryz.prog 68=some F68:=by kernel_rfl
theorem k69:an Tryz.prog 69=some F69:=by kernel_rfl
theorem k70:an Tryz.prog 70=some F70:=by kernel_rfl
theorem k71:an Tryz.prog 71=some F71:=by kernel_rfl
theorem k72:an Tryz.prog 72=some F72:=by kernel_rfl
theorem k73:an Tryz.prog 73=some F73:=by kernel_rfl
theorem k74:an Tryz.prog 74=some F74:=by kernel_rfl
theorem k75:an Tryz.prog 75=some F75:=by kernel_rfl
theorem k76:an Tryz.prog 76=some F76:=by kernel_rfl
theorem k77:an Tryz.prog 77=some F77:=by kernel_rfl
theorem k78:an Tryz.prog 78=some F78:=by kernel_rfl
theorem k79:an Tryz.prog 79=some F79:=by kernel_rfl
theorem k80:an Tryz.prog 80=some F80:=by kernel_rfl
theorem k81:an Tryz.prog 81=some F81:=by kernel_rfl
theorem k82:an Tryz.prog 82=some F82:=by kernel_rfl
theorem k83:an Tryz.prog 83=some F83:=by kernel_rfl
theorem k84:an Tryz.prog 84=some F84:=by kernel_rfl
theorem k85:an Tryz.prog 85=some F85:=by kernel_rfl
theorem k86:an Tryz.prog 86=some F86:=by kernel_rfl
theorem k87:an Tryz.prog 87=some F87:=by kernel_rfl
theorem k88:an Tryz.prog 88=some F88:=by kernel_rfl
theorem k89:an Tryz.prog 89=some F89:=by kernel_rfl
theorem k99:an Tryz.prog 99=some F99:=by kernel_rfl
theorem aqF:an Tryz.prog 110=some aep:=by kernel_rfl
theorem aqE:an Tryz.prog 111=some aeo:=by kernel_rfl
theorem aqD:an Tryz.prog 112=some aen:=by kernel_rfl
theorem aqC:an Tryz.prog 113=some aem:=by kernel_rfl
theorem aqB:an Tryz.prog 114=some ael:=by kernel_rfl
theorem aqA:an Tryz.prog 115=some aek:=by kernel_rfl
theorem aqz:an Tryz.prog 116=some aej:=by kernel_rfl
theorem aqy:an Tryz.prog 117=some aei:=by kernel_rfl
theorem aqx:an Tryz.prog 118=some aeh:=by kernel_rfl
theorem aqw:an Tryz.prog 119=some aeg:=by kernel_rfl
theorem aqv:an Tryz.prog 120=some aef:=by kernel_rfl
theorem aqu:an Tryz.prog 121=some aee:=by kernel_rfl
theorem aqt:an Tryz.prog 122=some aed:=by kernel_rfl
theorem aqs:an Tryz.prog 123=some aec:=by kernel_rfl
theorem aqr:an Tryz.prog 124=some GG:=by kernel_rfl
theorem aqq:an Tryz.prog 125=some aeb:=by kernel_rfl
theorem aqp:an Tryz.prog 126=some aea:=by kernel_rfl
theorem aqo:an Tryz.prog 127=some ad9:=by kernel_rfl
theorem aqn:an Tryz.prog 128=some ad8:=by kernel_rfl
theorem aqm:an Tryz.prog 129=some F129:=by kernel_rfl
theorem aql:an Tryz.prog 130=some Nw:=by kernel_rfl
theorem aqk:an Tryz.prog 131=some ad7:=by kernel_rfl
theorem aqj:an Tryz.prog 132=some (QG 132):=by kernel_rfl
theorem aqi:an Tryz.prog 133=some (QG 133):=by kernel_rfl
theorem aqh:an Tryz.prog 134=some ad6:=by kernel_rfl
theorem aqg:an Tryz.prog 135=some ad5:=by kernel_rfl
theorem aqf:an Tryz.prog 136=some ad4:=by kernel_rfl
theorem aqe:an Tryz.prog 137=some (QG 137):=by kernel_rfl
theorem aqd:an Tryz.prog 138=some lx:=by kernel_rfl
theorem aqc:an Tryz.prog 139=some ad3:=by kernel_rfl
theorem aqb:an Tryz.prog 140=some ad2:=by kernel_rfl
theorem aqa:an Tryz.prog 143=some ad1:=by kernel_rfl
theorem ap9:an Tryz.prog 144=some ad0:=by kernel_rfl
theorem ap8:an Tryz.prog 145=some adZ:=by kernel_rfl
theorem ap7:an Tryz.prog 146=some adY:=by kernel_rfl
theorem ap6:an Tryz.prog 147=some (QG 147):=by kernel_rfl
theorem ap5:an Tryz.prog 148=some (QG 148):=by kernel_rfl
theorem ap4:an Tryz.prog 149=some adX:=by kernel_rfl
theorem ap3:an Tryz.prog 150=some adW:=by kernel_rfl
theorem ap2:an Tryz.prog 151=some GF:=by kernel_rfl
theorem ap1:an Tryz.prog 152=some adV:=by kernel_rfl
theorem ap0:an Tryz.prog 153=some adU:=by kernel_rfl
theorem apZ:an Tryz.prog 154=some adT:=by kernel_rfl
theorem apY:an Tryz.prog 155=some F155:=by kernel_rfl
theorem apX:an Tryz.prog 156=some adS:=by kernel_rfl
theorem apW:an Tryz.prog 157=some F157:=by kernel_rfl
theorem apV:an Tryz.prog 158=some adR:=by kernel_rfl
theorem apU:an Tryz.prog 159=some adQ:=by kernel_rfl
theorem apT:an Tryz.prog 160=some adP:=by kernel_rfl
theorem apS:an Tryz.prog 161=some adO:=by kernel_rfl
theorem apR:an Tryz.prog 162=some adN:=by kernel_rfl
theorem apQ:an Tryz.prog 163=some adM:=by kernel_rfl
theorem apP:an Tryz.prog 164=some adL:=by kernel_rfl
theorem apO:an Tryz.prog 165=some (QG 165):=by kernel_rfl
theorem apN:an Tryz.prog 166=some (QG 166):=by kernel_rfl
theorem apM:an Tryz.prog 167=some (QG 167):=by kernel_rfl
theorem apL:an Tryz.prog 168=some (QG 168):=by kernel_rfl
theorem apK:an Tryz.prog 169=some (QG 169):=by kernel_rfl
theorem apJ:an Tryz.prog 170=some (QG 170):=by kernel_rfl
theorem apI:an Tryz.prog 171=some (QG 171):=by kernel_rfl
theorem apH:an Tryz.prog 172=some (QG 172):=by kernel_rfl
theorem apG:an Tryz.prog 173=some (QG 173):=by kernel_rfl
theorem apF:an Tryz.prog 174=some (QG 174):=by kernel_rfl
theorem apE:an Tryz.prog 175=some adK:=by kernel_rfl
theorem apD:an Tryz.prog 176=some (QG 176):=by kernel_rfl
theorem apC:an Tryz.prog 177=some (QG 177):=by kernel_rfl
theorem apB:an Tryz.prog 178=some (QG 178):=by kernel_rfl
theorem apA:an Tryz.prog 179=some (QG 179):=by kernel_rfl
theorem apz:an Tryz.prog 180=some (QG 180):=by kernel_rfl
theorem apy:an Tryz.prog 181=some (QG 181):=by kernel_rfl
theorem apx:an Tryz.prog 182=some (QG 182):=by kernel_rfl
theorem apw:an Tryz.prog 183=some (QG 183):=by kernel_rfl
theorem apv:an Tryz.prog 185=some adJ:=by kernel_rfl
theorem apu:an Tryz.prog 186=some adI:=by kernel_rfl
theorem apt:an Tryz.prog 187=some adH:=by kernel_rfl
theorem aps:an Tryz.prog 188=some adG:=by kernel_rfl
theorem apr:an Tryz.prog 189=some adF:=by kernel_rfl
theorem apq:an Tryz.prog 190=some adE:=by kernel_rfl
theorem apo:an Tryz.prog 191=some Cj:=by kernel_rfl
theorem apn:an Tryz.prog 192=some adD:=by kernel_rfl
theorem apm:an Tryz.prog 193=some adC:=by kernel_rfl
theorem apl:an Tryz.prog 194=some adB:=by kernel_rfl
theorem apk:an Tryz.prog 195=some adA:=by kernel_rfl
theorem apj:an Tryz.prog 196=some adz:=by kernel_rfl
theorem api:an Tryz.prog 197=some ady:=by kernel_rfl
theorem aph:an Tryz.prog 198=some adx:=by kernel_rfl
theorem apg:an Tryz.prog 199=some adw:=by kernel_rfl
theorem apf:an Tryz.prog 200=some F200:=by kernel_rfl
theorem ape:an Tryz.prog 201=some (QG 201):=by kernel_rfl
theorem apd:an Tryz.prog 202=some (QG 202):=by kernel_rfl
theorem apc:an Tryz.prog 203=some (QG 203):=by kernel_rfl
theorem apb:an Tryz.prog 204=some (QG 204):=by kernel_rfl
theorem apa:an Tryz.prog 205=some (QG 205):=by kernel_rfl
theorem ao9:an Tryz.prog 206=some (QG 206):=by kernel_rfl
theorem ao8:an Tryz.prog 207=some (QG 207):=by kernel_rfl
theorem ao7:an Tryz.prog 208=some (QG 208):=by kernel_rfl
theorem ao6:an Tryz.prog 209=some (QG 209):=by kernel_rfl
theorem ao5:an Tryz.prog 210=some (QG 210):=by kernel_rfl
theorem ao4:an Tryz.prog 211=some GB:=by kernel_rfl
theorem ao3:an Tryz.prog 212=some sG:=by kernel_rfl
theorem ao2:an Tryz.prog 213=some adv:=by kernel_rfl
theorem ao1:an Tryz.prog 214=some adu:=by kernel_rfl
theorem ao0:an Tryz.prog 215=some (QG 215):=by kernel_rfl
theorem aoZ:an Tryz.prog 216=some (QG 216):=by kernel_rfl
theorem aoY:an Tryz.prog 217=some (QG 217):=by kernel_rfl
theorem aoX:an Tryz.prog 218=some anj:=by kernel_rfl
theorem aoW:an Tryz.prog 219=some adt:=by kernel_rfl
theorem aoV:an Tryz.prog 220=some ads:=by kernel_rfl
theorem QN{α:Type}{p:α→Prop}:∀x:α,none=some x→p x:=fun _ h=>by cases h
theorem QX{α:Type}{p:α→Prop}{a:α}(h:p a):∀x:α,some a=some x→p x:=fun _ e=>by cases e;exact h
theorem Hi:fnT.All (fun f fn=>an Tryz.prog f=some fn) (fun i=>i):=⟨QN,⟨QN,⟨(QX k3),⟨(QX k7),⟨QN,⟨(QX k31),⟨(QX k63),⟨(QX aqo),aq,aq⟩,⟨(QX apo),aq,aq⟩⟩,⟨QN,⟨(QX apU),aq,aq⟩,aq⟩⟩,⟨QN,⟨(QX k79),⟨(QX aqa),aq,aq⟩,⟨(QX ao8),aq,aq⟩⟩,⟨(QX aqE),⟨(QX apE),aq,aq⟩,aq⟩⟩⟩,⟨QN,⟨QN,⟨(QX k71),⟨(QX aqg),aq,aq⟩,⟨(QX apg),aq,aq⟩⟩,⟨QN,⟨(QX apM),aq,aq⟩,aq⟩⟩,⟨QN,⟨(QX k87),⟨(QX ap2),aq,aq⟩,⟨(QX ao0),aq,aq⟩⟩,⟨(QX aqw),⟨(QX apw),aq,aq⟩,aq⟩⟩⟩⟩,⟨QN,⟨QN,⟨(QX k35),⟨(QX k67),⟨(QX aqk),aq,aq⟩,⟨(QX apk),aq,aq⟩⟩,⟨(QX k99),⟨(QX apQ),aq,aq⟩,aq⟩⟩,⟨QN,⟨(QX k83),⟨(QX ap6),aq,aq⟩,⟨(QX ao4),aq,aq⟩⟩,⟨(QX aqA),⟨(QX apA),aq,aq⟩,aq⟩⟩⟩,⟨(QX k27),⟨QN,⟨(QX k75),⟨(QX aqc),aq,aq⟩,⟨(QX apc),aq,aq⟩⟩,⟨QN,⟨(QX apI),aq,aq⟩,aq⟩⟩,⟨(QX k59),⟨QN,⟨(QX apY),aq,aq⟩,⟨(QX aoW),aq,aq⟩⟩,⟨(QX aqs),⟨(QX apt),aq,aq⟩,aq⟩⟩⟩⟩⟩,⟨QN,⟨(QX k9),⟨QN,⟨(QX k33),⟨(QX k65),⟨(QX aqm),aq,aq⟩,⟨(QX apm),aq,aq⟩⟩,⟨QN,⟨(QX apS),aq,aq⟩,aq⟩⟩,⟨QN,⟨(QX k81),⟨(QX ap8),aq,aq⟩,⟨(QX ao6),aq,aq⟩⟩,⟨(QX aqC),⟨(QX apC),aq,aq⟩,aq⟩⟩⟩,⟨(QX k25),⟨QN,⟨(QX k73),⟨(QX aqe),aq,aq⟩,⟨(QX ape),aq,aq⟩⟩,⟨QN,⟨(QX apK),aq,aq⟩,aq⟩⟩,⟨QN,⟨(QX k89),⟨(QX ap0),aq,aq⟩,⟨(QX aoY),aq,aq⟩⟩,⟨(QX aqu),⟨(QX apv),aq,aq⟩,aq⟩⟩⟩⟩,⟨QN,⟨QN,⟨QN,⟨(QX k69),⟨(QX aqi),aq,aq⟩,⟨(QX api),aq,aq⟩⟩,⟨QN,⟨(QX apO),aq,aq⟩,aq⟩⟩,⟨QN,⟨(QX k85),⟨(QX ap4),aq,aq⟩,⟨(QX ao2),aq,aq⟩⟩,⟨(QX aqy),⟨(QX apy),aq,aq⟩,aq⟩⟩⟩,⟨(QX k29),⟨QN,⟨(QX k77),aq,⟨(QX apa),aq,aq⟩⟩,⟨QN,⟨(QX apG),aq,aq⟩,aq⟩⟩,⟨(QX k61),⟨QN,⟨(QX apW),aq,aq⟩,aq⟩,⟨(QX aqq),⟨(QX apr),aq,aq⟩,aq⟩⟩⟩⟩⟩⟩,⟨QN,⟨QN,⟨(QX k8),⟨QN,⟨(QX k32),⟨(QX k64),⟨(QX aqn),aq,aq⟩,⟨(QX apn),aq,aq⟩⟩,⟨QN,⟨(QX apT),aq,aq⟩,aq⟩⟩,⟨QN,⟨(QX k80),⟨(QX ap9),aq,aq⟩,⟨(QX ao7),aq,aq⟩⟩,⟨(QX aqD),⟨(QX apD),aq,aq⟩,aq⟩⟩⟩,⟨(QX k24),⟨QN,⟨(QX k72),⟨(QX aqf),aq,aq⟩,⟨(QX apf),aq,aq⟩⟩,⟨QN,⟨(QX apL),aq,aq⟩,aq⟩⟩,⟨QN,⟨(QX k88),⟨(QX ap1),aq,aq⟩,⟨(QX aoZ),aq,aq⟩⟩,⟨(QX aqv),aq,aq⟩⟩⟩⟩,⟨QN,⟨QN,⟨QN,⟨(QX k68),⟨(QX aqj),aq,aq⟩,⟨(QX apj),aq,aq⟩⟩,⟨QN,⟨(QX apP),aq,aq⟩,aq⟩⟩,⟨QN,⟨(QX k84),⟨(QX ap5),aq,aq⟩,⟨(QX ao3),aq,aq⟩⟩,⟨(QX aqz),⟨(QX apz),aq,aq⟩,aq⟩⟩⟩,⟨(QX k28),⟨QN,⟨(QX k76),⟨(QX aqb),aq,aq⟩,⟨(QX apb),aq,aq⟩⟩,⟨QN,⟨(QX apH),aq,aq⟩,aq⟩⟩,⟨(QX k60),⟨QN,⟨(QX apX),aq,aq⟩,⟨(QX aoV),aq,aq⟩⟩,⟨(QX aqr),⟨(QX aps),aq,aq⟩,aq⟩⟩⟩⟩⟩,⟨QN,⟨(QX k10),⟨QN,⟨(QX k34),⟨(QX k66),⟨(QX aql),aq,aq⟩,⟨(QX apl),aq,aq⟩⟩,⟨QN,⟨(QX apR),aq,aq⟩,aq⟩⟩,⟨QN,⟨(QX k82),⟨(QX ap7),aq,aq⟩,⟨(QX ao5),aq,aq⟩⟩,⟨(QX aqB),⟨(QX apB),aq,aq⟩,aq⟩⟩⟩,⟨(QX k26),⟨QN,⟨(QX k74),⟨(QX aqd),aq,aq⟩,⟨(QX apd),aq,aq⟩⟩,⟨QN,⟨(QX apJ),aq,aq⟩,aq⟩⟩,⟨QN,⟨QN,⟨(QX apZ),aq,aq⟩,⟨(QX aoX),aq,aq⟩⟩,⟨(QX aqt),⟨(QX apu),aq,aq⟩,aq⟩⟩⟩⟩,⟨QN,⟨QN,⟨QN,⟨(QX k70),⟨(QX aqh),aq,aq⟩,⟨(QX aph),aq,aq⟩⟩,⟨QN,⟨(QX apN),aq,aq⟩,aq⟩⟩,⟨QN,⟨(QX k86),⟨(QX ap3),aq,aq⟩,⟨(QX ao1),aq,aq⟩⟩,⟨(QX aqx),⟨(QX apx),aq,aq⟩,aq⟩⟩⟩,⟨(QX k30),⟨QN,⟨(QX k78),aq,⟨(QX ao9),aq,aq⟩⟩,⟨(QX aqF),⟨(QX apF),aq,aq⟩,aq⟩⟩,⟨(QX k62),⟨QN,⟨(QX apV),aq,aq⟩,aq⟩,⟨(QX aqp),⟨(QX apq),aq,aq⟩,aq⟩⟩⟩⟩⟩⟩⟩
theorem aqW:EnvOk Tryz.prog En:=⟨fun f fn h=>ni fnT (fun i=>i) f fn Hi h,fun f s h=>by cases h⟩
def isT:Out→Heap→Bool:=fun o _=>match o with
 | .val v=>match v with
   | .bool b=>b
   | _=>false
 | _=>false
theorem PN{o:Out}{H:Heap}(h:isT o H=true):o=.val (.bool true):=by
 cases o with
 | ex e fr=>cases h
 | val v=>cases v<;>first | (cases h;done) | (rename_i b;cases b<;>first | rfl | (cases h;done))
end Go.Iso.Gen
end
