/-
  the code is that of the program.
-/
import Derived.Test.YtpnbiapmndbhgaaGreatDoorGen
import Derived.Test.YtpnbiapmndbhgaaGreatDoorIsoP5
set_option linter.unusedSimpArgs false
set_option linter.unusedVariables false
set_option maxRecDepth 100000
set_option maxHeartbeats 4000000
section
namespace Go.Iso.Gen
open Go.Proofs
theorem k4:am Tryz.prog 4=some F4:=by kernel_rfl
theorem k8:am Tryz.prog 8=some F8:=by kernel_rfl
theorem k9:am Tryz.prog 9=some F9:=by kernel_rfl
theorem k11:am Tryz.prog 11=some F11:=by kernel_rfl
theorem k12:am Tryz.prog 12=some F12:=by kernel_rfl
theorem k13:am Tryz.prog 13=some F13:=by kernel_rfl
theorem k14:am Tryz.prog 14=some F14:=by kernel_rfl
theorem k15:am Tryz.prog 15=some F15:=by kernel_rfl
theorem k16:am Tryz.prog 16=some F16:=by kernel_rfl
theorem k27:am Tryz.prog 27=some F27:=by kernel_rfl
theorem k28:am Tryz.prog 28=some F28:=by kernel_rfl
theorem k29:am Tryz.prog 29=some F29:=by kernel_rfl
theorem k30:am Tryz.prog 30=some F30:=by kernel_rfl
theorem k31:am Tryz.prog 31=some F31:=by kernel_rfl
theorem k32:am Tryz.prog 32=some F32:=by kernel_rfl
theorem k35:am Tryz.prog 35=some F35:=by kernel_rfl
theorem k36:am Tryz.prog 36=some F36:=by kernel_rfl
theorem k37:am Tryz.prog 37=some F37:=by kernel_rfl
theorem k38:am Tryz.prog 38=some F38:=by kernel_rfl
theorem k39:am Tryz.prog 39=some F39:=by kernel_rfl
theorem k40:am Tryz.prog 40=some F40:=by kernel_rfl
theorem k41:am Tryz.prog 41=some F41:=by kernel_rfl
theorem k60:am Tryz.prog 60=some F60:=by kernel_rfl
theorem k61:am Tryz.prog 61=some F61:=by kernel_rfl
theorem k62:am Tryz.prog 62=some F62:=by kernel_rfl
theorem k63:am Tryz.prog 63=some F63:=by kernel_rfl
theorem k64:am Tryz.prog 64=some F64:=by kernel_rfl
theorem k65:am Tryz.prog 65=some F65:=by kernel_rfl
theorem k66:am Tryz.prog 66=some F66:=by kernel_rfl
theorem k67:am Tryz.prog 67=some F67:=by kernel_rfl
theorem k68:am Tryz.prog 68=some F68:=by kernel_rfl
theorem k69:am Tryz.prog 69=some F69:=by kernel_rfl
theorem k70:am Tryz.prog 70=some F70:=by kernel_rfl
theorem k71:am Tryz.prog 71=some F71:=by kernel_rfl
theorem k72:am Tryz.prog 72=some F72:=by kernel_rfl
theorem k73:am Tryz.prog 73=some F73:=by kernel_rfl
theorem k74:am Tryz.prog 74=some F74:=by kernel_rfl
theorem k75:am Tryz.prog 75=some F75:=by kernel_rfl
theorem k76:am Tryz.prog 76=some F76:=by kernel_rfl
theorem k77:am Tryz.prog 77=some F77:=by kernel_rfl
theorem k78:am Tryz.prog 78=some F78:=by kernel_rfl
theorem k79:am Tryz.prog 79=some F79:=by kernel_rfl
theorem k80:am Tryz.prog 80=some F80:=by kernel_rfl
theorem k81:am Tryz.prog 81=some F81:=by kernel_rfl
theorem k82:am Tryz.prog 82=some F82:=by kernel_rfl
theorem k83:am Tryz.prog 83=some F83:=by kernel_rfl
theorem k84:am Tryz.prog 84=some F84:=by kernel_rfl
theorem k88:am Tryz.prog 88=some F88:=by kernel_rfl
theorem k89:am Tryz.prog 89=some F89:=by kernel_rfl
theorem k90:am Tryz.prog 90=some F90:=by kernel_rfl
theorem k91:am Tryz.prog 91=some F91:=by kernel_rfl
theorem k92:am Tryz.prog 92=some F92:=by kernel_rfl
theorem k93:am Tryz.prog 93=some F93:=by kernel_rfl
theorem k94:am Tryz.prog 94=some F94:=by kernel_rfl
theorem k95:am Tryz.prog 95=some F95:=by kernel_rfl
theorem k96:am Tryz.prog 96=some F96:=by kernel_rfl
theorem k99:am Tryz.prog 99=some F99:=by kernel_rfl
theorem auu:am Tryz.prog 110=some afD:=by kernel_rfl
theorem aut:am Tryz.prog 111=some afC:=by kernel_rfl
theorem aus:am Tryz.prog 112=some afB:=by kernel_rfl
theorem aur:am Tryz.prog 113=some afA:=by kernel_rfl
theorem auq:am Tryz.prog 114=some afz:=by kernel_rfl
theorem aup:am Tryz.prog 115=some afy:=by kernel_rfl
theorem auo:am Tryz.prog 116=some afx:=by kernel_rfl
theorem aun:am Tryz.prog 117=some afw:=by kernel_rfl
theorem aum:am Tryz.prog 118=some afv:=by kernel_rfl
theorem aul:am Tryz.prog 119=some afu:=by kernel_rfl
theorem auk:am Tryz.prog 120=some aft:=by kernel_rfl
theorem auj:am Tryz.prog 121=some afs:=by kernel_rfl
theorem aui:am Tryz.prog 122=some afr:=by kernel_rfl
theorem auh:am Tryz.prog 123=some afq:=by kernel_rfl
theorem aug:am Tryz.prog 124=some HP:=by kernel_rfl
theorem auf:am Tryz.prog 125=some afp:=by kernel_rfl
theorem aue:am Tryz.prog 126=some afo:=by kernel_rfl
theorem aud:am Tryz.prog 127=some afn:=by kernel_rfl
theorem auc:am Tryz.prog 128=some afm:=by kernel_rfl
theorem aub:am Tryz.prog 129=some F129:=by kernel_rfl
theorem aua:am Tryz.prog 130=some Ow:=by kernel_rfl
theorem at9:am Tryz.prog 131=some afl:=by kernel_rfl
theorem at8:am Tryz.prog 132=some (QG 132):=by kernel_rfl
theorem at7:am Tryz.prog 133=some (QG 133):=by kernel_rfl
theorem at6:am Tryz.prog 134=some afk:=by kernel_rfl
theorem at5:am Tryz.prog 135=some afj:=by kernel_rfl
theorem at4:am Tryz.prog 136=some afi:=by kernel_rfl
theorem at3:am Tryz.prog 137=some (QG 137):=by kernel_rfl
theorem at2:am Tryz.prog 140=some afh:=by kernel_rfl
theorem at1:am Tryz.prog 143=some afg:=by kernel_rfl
theorem at0:am Tryz.prog 144=some aff:=by kernel_rfl
theorem atZ:am Tryz.prog 145=some afe:=by kernel_rfl
theorem atY:am Tryz.prog 146=some afd:=by kernel_rfl
theorem atX:am Tryz.prog 147=some (QG 147):=by kernel_rfl
theorem atW:am Tryz.prog 148=some (QG 148):=by kernel_rfl
theorem atV:am Tryz.prog 149=some afc:=by kernel_rfl
theorem atU:am Tryz.prog 150=some afb:=by kernel_rfl
theorem atT:am Tryz.prog 151=some HN:=by kernel_rfl
theorem atS:am Tryz.prog 152=some afa:=by kernel_rfl
theorem atR:am Tryz.prog 153=some ae9:=by kernel_rfl
theorem atQ:am Tryz.prog 154=some ae8:=by kernel_rfl
theorem atP:am Tryz.prog 155=some F155:=by kernel_rfl
theorem atO:am Tryz.prog 156=some ae7:=by kernel_rfl
theorem atN:am Tryz.prog 157=some F157:=by kernel_rfl
theorem atK:am Tryz.prog 158=some ae6:=by kernel_rfl
theorem atJ:am Tryz.prog 159=some ae5:=by kernel_rfl
theorem atI:am Tryz.prog 160=some ae3:=by kernel_rfl
theorem atH:am Tryz.prog 161=some ae2:=by kernel_rfl
theorem atG:am Tryz.prog 162=some ae1:=by kernel_rfl
theorem atF:am Tryz.prog 163=some ae0:=by kernel_rfl
theorem atE:am Tryz.prog 164=some aeZ:=by kernel_rfl
theorem atD:am Tryz.prog 165=some (QG 165):=by kernel_rfl
theorem atC:am Tryz.prog 166=some (QG 166):=by kernel_rfl
theorem atB:am Tryz.prog 167=some (QG 167):=by kernel_rfl
theorem atA:am Tryz.prog 168=some (QG 168):=by kernel_rfl
theorem atz:am Tryz.prog 169=some (QG 169):=by kernel_rfl
theorem aty:am Tryz.prog 170=some (QG 170):=by kernel_rfl
theorem atx:am Tryz.prog 171=some (QG 171):=by kernel_rfl
theorem atw:am Tryz.prog 172=some (QG 172):=by kernel_rfl
theorem atv:am Tryz.prog 173=some (QG 173):=by kernel_rfl
theorem atu:am Tryz.prog 174=some (QG 174):=by kernel_rfl
theorem att:am Tryz.prog 175=some aeY:=by kernel_rfl
theorem ats:am Tryz.prog 176=some (QG 176):=by kernel_rfl
theorem atr:am Tryz.prog 177=some (QG 177):=by kernel_rfl
theorem atq:am Tryz.prog 178=some (QG 178):=by kernel_rfl
theorem atp:am Tryz.prog 179=some (QG 179):=by kernel_rfl
theorem ato:am Tryz.prog 180=some (QG 180):=by kernel_rfl
theorem atn:am Tryz.prog 181=some (QG 181):=by kernel_rfl
theorem atm:am Tryz.prog 182=some (QG 182):=by kernel_rfl
theorem atl:am Tryz.prog 183=some (QG 183):=by kernel_rfl
theorem atk:am Tryz.prog 185=some aeX:=by kernel_rfl
theorem atj:am Tryz.prog 186=some aeW:=by kernel_rfl
theorem ati:am Tryz.prog 187=some aeV:=by kernel_rfl
theorem ath:am Tryz.prog 188=some aeU:=by kernel_rfl
theorem atg:am Tryz.prog 189=some aeT:=by kernel_rfl
theorem atf:am Tryz.prog 190=some aeS:=by kernel_rfl
theorem ate:am Tryz.prog 191=some Db:=by kernel_rfl
theorem atd:am Tryz.prog 192=some aeR:=by kernel_rfl
theorem atc:am Tryz.prog 193=some aeQ:=by kernel_rfl
theorem atb:am Tryz.prog 194=some aeP:=by kernel_rfl
theorem ata:am Tryz.prog 195=some aeO:=by kernel_rfl
theorem as9:am Tryz.prog 196=some aeN:=by kernel_rfl
theorem as8:am Tryz.prog 197=some aeM:=by kernel_rfl
theorem as7:am Tryz.prog 198=some aeL:=by kernel_rfl
theorem as6:am Tryz.prog 199=some aeK:=by kernel_rfl
theorem as5:am Tryz.prog 200=some F200:=by kernel_rfl
theorem as4:am Tryz.prog 201=some (QG 201):=by kernel_rfl
theorem as2:am Tryz.prog 202=some (QG 202):=by kernel_rfl
theorem as0:am Tryz.prog 203=some (QG 203):=by kernel_rfl
theorem asZ:am Tryz.prog 204=some (QG 204):=by kernel_rfl
theorem asY:am Tryz.prog 205=some (QG 205):=by kernel_rfl
theorem asX:am Tryz.prog 206=some (QG 206):=by kernel_rfl
theorem asW:am Tryz.prog 207=some (QG 207):=by kernel_rfl
theorem asV:am Tryz.prog 208=some (QG 208):=by kernel_rfl
theorem asU:am Tryz.prog 209=some (QG 209):=by kernel_rfl
theorem asT:am Tryz.prog 210=some (QG 210):=by kernel_rfl
theorem asR:am Tryz.prog 211=some HI:=by kernel_rfl
theorem asQ:am Tryz.prog 212=some sP:=by kernel_rfl
theorem asP:am Tryz.prog 213=some aeJ:=by kernel_rfl
theorem asO:am Tryz.prog 214=some aeI:=by kernel_rfl
theorem asN:am Tryz.prog 215=some (QG 215):=by kernel_rfl
theorem asM:am Tryz.prog 216=some (QG 216):=by kernel_rfl
theorem asL:am Tryz.prog 217=some (QG 217):=by kernel_rfl
theorem asK:am Tryz.prog 218=some aqI:=by kernel_rfl
theorem asJ:am Tryz.prog 219=some aeH:=by kernel_rfl
theorem asI:am Tryz.prog 220=some aeG:=by kernel_rfl
theorem QN{α:Type}{p:α→Prop}:∀x:α,none=some x→p x:=fun _ h=>by cases h
theorem QX{α:Type}{p:α→Prop}{a:α}(h:p a):∀x:α,some a=some x→p x:=fun _ e=>by cases e;exact h
theorem Iy:fnT.All (fun f fn=>am Tryz.prog f=some fn) (fun i=>i):=⟨QN,⟨QN,⟨QN,⟨QN,⟨(QX k15),⟨(QX k31),⟨(QX k63),⟨(QX aud),ar,ar⟩,⟨(QX ate),ar,ar⟩⟩,⟨(QX k95),⟨(QX atJ),ar,ar⟩,ar⟩⟩,⟨QN,⟨(QX k79),⟨(QX at1),ar,ar⟩,⟨(QX asW),ar,ar⟩⟩,⟨(QX aut),⟨(QX att),ar,ar⟩,ar⟩⟩⟩,⟨QN,⟨(QX k39),⟨(QX k71),⟨(QX at5),ar,ar⟩,⟨(QX as6),ar,ar⟩⟩,⟨QN,⟨(QX atB),ar,ar⟩,ar⟩⟩,⟨QN,⟨QN,⟨(QX atT),ar,ar⟩,⟨(QX asN),ar,ar⟩⟩,⟨(QX aul),⟨(QX atl),ar,ar⟩,ar⟩⟩⟩⟩,⟨(QX k11),⟨QN,⟨(QX k35),⟨(QX k67),⟨(QX at9),ar,ar⟩,⟨(QX ata),ar,ar⟩⟩,⟨(QX k99),⟨(QX atF),ar,ar⟩,ar⟩⟩,⟨QN,⟨(QX k83),⟨(QX atX),ar,ar⟩,⟨(QX asR),ar,ar⟩⟩,⟨(QX aup),⟨(QX atp),ar,ar⟩,ar⟩⟩⟩,⟨(QX k27),⟨QN,⟨(QX k75),ar,⟨(QX as0),ar,ar⟩⟩,⟨QN,⟨(QX atx),ar,ar⟩,ar⟩⟩,⟨QN,⟨(QX k91),⟨(QX atP),ar,ar⟩,⟨(QX asJ),ar,ar⟩⟩,⟨(QX auh),⟨(QX ati),ar,ar⟩,ar⟩⟩⟩⟩⟩,⟨QN,⟨(QX k9),⟨QN,⟨QN,⟨(QX k65),⟨(QX aub),ar,ar⟩,⟨(QX atc),ar,ar⟩⟩,⟨QN,⟨(QX atH),ar,ar⟩,ar⟩⟩,⟨QN,⟨(QX k81),⟨(QX atZ),ar,ar⟩,⟨(QX asU),ar,ar⟩⟩,⟨(QX aur),⟨(QX atr),ar,ar⟩,ar⟩⟩⟩,⟨QN,⟨(QX k41),⟨(QX k73),⟨(QX at3),ar,ar⟩,⟨(QX as4),ar,ar⟩⟩,⟨QN,⟨(QX atz),ar,ar⟩,ar⟩⟩,⟨QN,⟨(QX k89),⟨(QX atR),ar,ar⟩,⟨(QX asL),ar,ar⟩⟩,⟨(QX auj),⟨(QX atk),ar,ar⟩,ar⟩⟩⟩⟩,⟨(QX k13),⟨QN,⟨(QX k37),⟨(QX k69),⟨(QX at7),ar,ar⟩,⟨(QX as8),ar,ar⟩⟩,⟨QN,⟨(QX atD),ar,ar⟩,ar⟩⟩,⟨QN,⟨QN,⟨(QX atV),ar,ar⟩,⟨(QX asP),ar,ar⟩⟩,⟨(QX aun),⟨(QX atn),ar,ar⟩,ar⟩⟩⟩,⟨(QX k29),⟨QN,⟨(QX k77),ar,⟨(QX asY),ar,ar⟩⟩,⟨QN,⟨(QX atv),ar,ar⟩,ar⟩⟩,⟨(QX k61),⟨(QX k93),⟨(QX atN),ar,ar⟩,ar⟩,⟨(QX auf),⟨(QX atg),ar,ar⟩,ar⟩⟩⟩⟩⟩⟩,⟨QN,⟨(QX k4),⟨(QX k8),⟨(QX k16),⟨(QX k32),⟨(QX k64),⟨(QX auc),ar,ar⟩,⟨(QX atd),ar,ar⟩⟩,⟨(QX k96),⟨(QX atI),ar,ar⟩,ar⟩⟩,⟨QN,⟨(QX k80),⟨(QX at0),ar,ar⟩,⟨(QX asV),ar,ar⟩⟩,⟨(QX aus),⟨(QX ats),ar,ar⟩,ar⟩⟩⟩,⟨QN,⟨(QX k40),⟨(QX k72),⟨(QX at4),ar,ar⟩,⟨(QX as5),ar,ar⟩⟩,⟨QN,⟨(QX atA),ar,ar⟩,ar⟩⟩,⟨QN,⟨(QX k88),⟨(QX atS),ar,ar⟩,⟨(QX asM),ar,ar⟩⟩,⟨(QX auk),ar,ar⟩⟩⟩⟩,⟨(QX k12),⟨QN,⟨(QX k36),⟨(QX k68),⟨(QX at8),ar,ar⟩,⟨(QX as9),ar,ar⟩⟩,⟨QN,⟨(QX atE),ar,ar⟩,ar⟩⟩,⟨QN,⟨(QX k84),⟨(QX atW),ar,ar⟩,⟨(QX asQ),ar,ar⟩⟩,⟨(QX auo),⟨(QX ato),ar,ar⟩,ar⟩⟩⟩,⟨(QX k28),⟨QN,⟨(QX k76),⟨(QX at2),ar,ar⟩,⟨(QX asZ),ar,ar⟩⟩,⟨QN,⟨(QX atw),ar,ar⟩,ar⟩⟩,⟨(QX k60),⟨(QX k92),⟨(QX atO),ar,ar⟩,⟨(QX asI),ar,ar⟩⟩,⟨(QX aug),⟨(QX ath),ar,ar⟩,ar⟩⟩⟩⟩⟩,⟨QN,⟨QN,⟨QN,⟨QN,⟨(QX k66),⟨(QX aua),ar,ar⟩,⟨(QX atb),ar,ar⟩⟩,⟨QN,⟨(QX atG),ar,ar⟩,ar⟩⟩,⟨QN,⟨(QX k82),⟨(QX atY),ar,ar⟩,⟨(QX asT),ar,ar⟩⟩,⟨(QX auq),⟨(QX atq),ar,ar⟩,ar⟩⟩⟩,⟨QN,⟨QN,⟨(QX k74),ar,⟨(QX as2),ar,ar⟩⟩,⟨QN,⟨(QX aty),ar,ar⟩,ar⟩⟩,⟨QN,⟨(QX k90),⟨(QX atQ),ar,ar⟩,⟨(QX asK),ar,ar⟩⟩,⟨(QX aui),⟨(QX atj),ar,ar⟩,ar⟩⟩⟩⟩,⟨(QX k14),⟨QN,⟨(QX k38),⟨(QX k70),⟨(QX at6),ar,ar⟩,⟨(QX as7),ar,ar⟩⟩,⟨QN,⟨(QX atC),ar,ar⟩,ar⟩⟩,⟨QN,⟨QN,⟨(QX atU),ar,ar⟩,⟨(QX asO),ar,ar⟩⟩,⟨(QX aum),⟨(QX atm),ar,ar⟩,ar⟩⟩⟩,⟨(QX k30),⟨QN,⟨(QX k78),ar,⟨(QX asX),ar,ar⟩⟩,⟨(QX auu),⟨(QX atu),ar,ar⟩,ar⟩⟩,⟨(QX k62),⟨(QX k94),⟨(QX atK),ar,ar⟩,ar⟩,⟨(QX aue),⟨(QX atf),ar,ar⟩,ar⟩⟩⟩⟩⟩⟩⟩
theorem auM:EnvOk Tryz.prog En:=⟨fun f fn h=>mz fnT (fun i=>i) f fn Iy h,fun f s h=>by cases h⟩
def isT:Out→Heap→Bool:=fun o _=>match o with
 | .val v=>match v with
   | .bool b=>b
   | _=>false
 | _=>false
theorem QW{o:Out}{H:Heap}(h:isT o H=true):o=.val (.bool true):=by
 cases o with
 | ex e fr=>cases h
 | val v=>cases v<;>first | (cases h;done) | (rename_i b;cases b<;>first | rfl | (cases h;done))
end Go.Iso.Gen
end
