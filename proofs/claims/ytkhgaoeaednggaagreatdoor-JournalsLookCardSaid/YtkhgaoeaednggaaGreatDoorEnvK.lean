/-
  the code is that of the program.
-/
import Derived.Test.YtkhgaoeaednggaaGreatDoorGen
import Derived.Test.YtkhgaoeaednggaaGreatDoorIsoP5
set_option linter.unusedSimpArgs false
set_option linter.unusedVariables false
set_option maxRecDepth 100000
set_option maxHeartbeats 4000000
section
namespace Go.Iso.Gen
open Go.Proofs
theorem k3:al Tryz.prog 3=some F3:=by kernel_rfl
theorem k4:al Tryz.prog 4=some F4:=by kernel_rfl
theorem k5:al Tryz.prog 5=some F5:=by kernel_rfl
theorem k6:al Tryz.prog 6=some F6:=by kernel_rfl
theorem k7:al Tryz.prog 7=some F7:=by kernel_rfl
theorem k8:al Tryz.prog 8=some F8:=by kernel_rfl
theorem k9:al Tryz.prog 9=some F9:=by kernel_rfl
theorem k10:al Tryz.prog 10=some F10:=by kernel_rfl
theorem k11:al Tryz.prog 11=some F11:=by kernel_rfl
theorem k12:al Tryz.prog 12=some F12:=by kernel_rfl
theorem k13:al Tryz.prog 13=some YN:=by kernel_rfl
theorem k14:al Tryz.prog 14=some (QG 14):=by kernel_rfl
theorem k15:al Tryz.prog 15=some YM:=by kernel_rfl
theorem k16:al Tryz.prog 16=some YL:=by kernel_rfl
theorem k17:al Tryz.prog 17=some YK:=by kernel_rfl
theorem k18:al Tryz.prog 18=some YJ:=by kernel_rfl
theorem Ze:al Tryz.prog 19=some F19:=by kernel_rfl
theorem k20:al Tryz.prog 20=some YI:=by kernel_rfl
theorem k21:al Tryz.prog 21=some YH:=by kernel_rfl
theorem k22:al Tryz.prog 22=some YG:=by kernel_rfl
theorem k23:al Tryz.prog 23=some (QG 23):=by kernel_rfl
theorem k24:al Tryz.prog 24=some (QG 24):=by kernel_rfl
theorem k25:al Tryz.prog 25=some (QG 25):=by kernel_rfl
theorem Zd:al Tryz.prog 26=some F26:=by kernel_rfl
theorem k27:al Tryz.prog 27=some (QG 27):=by kernel_rfl
theorem k28:al Tryz.prog 28=some F28:=by kernel_rfl
theorem k29:al Tryz.prog 29=some YF:=by kernel_rfl
theorem k30:al Tryz.prog 30=some YE:=by kernel_rfl
theorem k31:al Tryz.prog 31=some YD:=by kernel_rfl
theorem k32:al Tryz.prog 32=some YC:=by kernel_rfl
theorem k33:al Tryz.prog 33=some YB:=by kernel_rfl
theorem k34:al Tryz.prog 34=some YA:=by kernel_rfl
theorem k35:al Tryz.prog 35=some Yz:=by kernel_rfl
theorem k36:al Tryz.prog 36=some Yy:=by kernel_rfl
theorem k37:al Tryz.prog 37=some Yx:=by kernel_rfl
theorem XJ:al Tryz.prog 38=some Yw:=by kernel_rfl
theorem k39:al Tryz.prog 39=some Yu:=by kernel_rfl
theorem k40:al Tryz.prog 40=some Yt:=by kernel_rfl
theorem k41:al Tryz.prog 41=some Ys:=by kernel_rfl
theorem k42:al Tryz.prog 42=some Yr:=by kernel_rfl
theorem k43:al Tryz.prog 43=some Yq:=by kernel_rfl
theorem k44:al Tryz.prog 44=some Yp:=by kernel_rfl
theorem k45:al Tryz.prog 45=some Yo:=by kernel_rfl
theorem k46:al Tryz.prog 46=some Ym:=by kernel_rfl
theorem k47:al Tryz.prog 47=some F47:=by kernel_rfl
theorem k48:al Tryz.prog 48=some Yl:=by kernel_rfl
theorem k49:al Tryz.prog 49=some Yk:=by kernel_rfl
theorem k50:al Tryz.prog 50=some Yj:=by kernel_rfl
theorem k51:al Tryz.prog 51=some F51:=by kernel_rfl
theorem k52:al Tryz.prog 52=some Yi:=by kernel_rfl
theorem k53:al Tryz.prog 53=some Yh:=by kernel_rfl
theorem k54:al Tryz.prog 54=some (QG 54):=by kernel_rfl
theorem k55:al Tryz.prog 55=some (QG 55):=by kernel_rfl
theorem k56:al Tryz.prog 56=some F56:=by kernel_rfl
theorem k57:al Tryz.prog 57=some (QG 57):=by kernel_rfl
theorem k58:al Tryz.prog 58=some F58:=by kernel_rfl
theorem k59:al Tryz.prog 59=some (QG 59):=by kernel_rfl
theorem k60:al Tryz.prog 60=some F60:=by kernel_rfl
theorem k61:al Tryz.prog 61=some (QG 61):=by kernel_rfl
theorem k62:al Tryz.prog 62=some F62:=by kernel_rfl
theorem k63:al Tryz.prog 63=some Yg:=by kernel_rfl
theorem k64:al Tryz.prog 64=some Yf:=by kernel_rfl
theorem k65:al Tryz.prog 65=some Ye:=by kernel_rfl
theorem k66:al Tryz.prog 66=some Yd:=by kernel_rfl
theorem k67:al Tryz.prog 67=some Yc:=by kernel_rfl
theorem k68:al Tryz.prog 68=some Yb:=by kernel_rfl
theorem k69:al Tryz.prog 69=some Ya:=by kernel_rfl
theorem k70:al Tryz.prog 70=some X9:=by kernel_rfl
theorem k71:al Tryz.prog 71=some X8:=by kernel_rfl
theorem k72:al Tryz.prog 72=some X7:=by kernel_rfl
theorem k73:al Tryz.prog 73=some X6:=by kernel_rfl
theorem k74:al Tryz.prog 74=some X5:=by kernel_rfl
theorem k75:al Tryz.prog 75=some X4:=by kernel_rfl
theorem k76:al Tryz.prog 76=some X3:=by kernel_rfl
theorem k77:al Tryz.prog 77=some VK:=by kernel_rfl
theorem k78:al Tryz.prog 78=some X2:=by kernel_rfl
theorem k79:al Tryz.prog 79=some X1:=by kernel_rfl
theorem k80:al Tryz.prog 80=some X0:=by kernel_rfl
theorem k81:al Tryz.prog 81=some XZ:=by kernel_rfl
theorem k82:al Tryz.prog 82=some XY:=by kernel_rfl
theorem k83:al Tryz.prog 83=some XX:=by kernel_rfl
theorem k84:al Tryz.prog 84=some F84:=by kernel_rfl
theorem k85:al Tryz.prog 85=some V2:=by kernel_rfl
theorem k86:al Tryz.prog 86=some XW:=by kernel_rfl
theorem k87:al Tryz.prog 87=some (QG 87):=by kernel_rfl
theorem k88:al Tryz.prog 88=some (QG 88):=by kernel_rfl
theorem k89:al Tryz.prog 89=some XV:=by kernel_rfl
theorem k90:al Tryz.prog 90=some XU:=by kernel_rfl
theorem k91:al Tryz.prog 91=some XT:=by kernel_rfl
theorem k92:al Tryz.prog 92=some (QG 92):=by kernel_rfl
theorem k93:al Tryz.prog 93=some (QG 93):=by kernel_rfl
theorem k94:al Tryz.prog 94=some (QG 94):=by kernel_rfl
theorem k95:al Tryz.prog 95=some F95:=by kernel_rfl
theorem k96:al Tryz.prog 96=some F96:=by kernel_rfl
theorem k97:al Tryz.prog 97=some F97:=by kernel_rfl
theorem k98:al Tryz.prog 98=some F98:=by kernel_rfl
theorem k99:al Tryz.prog 99=some F99:=by kernel_rfl
theorem aaw:al Tryz.prog 100=some S4:=by kernel_rfl
theorem aav:al Tryz.prog 101=some S2:=by kernel_rfl
theorem aau:al Tryz.prog 102=some SZ:=by kernel_rfl
theorem aat:al Tryz.prog 103=some SY:=by kernel_rfl
theorem aas:al Tryz.prog 104=some SW:=by kernel_rfl
theorem aar:al Tryz.prog 105=some SU:=by kernel_rfl
theorem aaq:al Tryz.prog 106=some ST:=by kernel_rfl
theorem aap:al Tryz.prog 107=some SS:=by kernel_rfl
theorem aao:al Tryz.prog 108=some I6:=by kernel_rfl
theorem aan:al Tryz.prog 109=some SR:=by kernel_rfl
theorem aam:al Tryz.prog 110=some SQ:=by kernel_rfl
theorem aal:al Tryz.prog 111=some SP:=by kernel_rfl
theorem aak:al Tryz.prog 112=some F112:=by kernel_rfl
theorem aaj:al Tryz.prog 113=some SO:=by kernel_rfl
theorem aai:al Tryz.prog 114=some F114:=by kernel_rfl
theorem aah:al Tryz.prog 115=some SN:=by kernel_rfl
theorem aag:al Tryz.prog 116=some SM:=by kernel_rfl
theorem aaf:al Tryz.prog 117=some SL:=by kernel_rfl
theorem aae:al Tryz.prog 118=some SK:=by kernel_rfl
theorem aad:al Tryz.prog 119=some SJ:=by kernel_rfl
theorem aac:al Tryz.prog 120=some SH:=by kernel_rfl
theorem aab:al Tryz.prog 121=some SG:=by kernel_rfl
theorem aaa:al Tryz.prog 122=some SF:=by kernel_rfl
theorem Z9:al Tryz.prog 123=some SE:=by kernel_rfl
theorem Z8:al Tryz.prog 124=some (QG 124):=by kernel_rfl
theorem Z7:al Tryz.prog 125=some (QG 125):=by kernel_rfl
theorem Z6:al Tryz.prog 126=some (QG 126):=by kernel_rfl
theorem Z5:al Tryz.prog 127=some (QG 127):=by kernel_rfl
theorem Z4:al Tryz.prog 128=some (QG 128):=by kernel_rfl
theorem Z3:al Tryz.prog 129=some (QG 129):=by kernel_rfl
theorem Z2:al Tryz.prog 130=some (QG 130):=by kernel_rfl
theorem Z1:al Tryz.prog 131=some (QG 131):=by kernel_rfl
theorem Z0:al Tryz.prog 132=some (QG 132):=by kernel_rfl
theorem ZZ:al Tryz.prog 133=some (QG 133):=by kernel_rfl
theorem ZY:al Tryz.prog 134=some SD:=by kernel_rfl
theorem ZX:al Tryz.prog 135=some SC:=by kernel_rfl
theorem ZW:al Tryz.prog 136=some (QG 136):=by kernel_rfl
theorem ZV:al Tryz.prog 137=some (QG 137):=by kernel_rfl
theorem ZU:al Tryz.prog 138=some (QG 138):=by kernel_rfl
theorem ZT:al Tryz.prog 139=some (QG 139):=by kernel_rfl
theorem ZS:al Tryz.prog 140=some (QG 140):=by kernel_rfl
theorem ZR:al Tryz.prog 141=some (QG 141):=by kernel_rfl
theorem ZQ:al Tryz.prog 142=some (QG 142):=by kernel_rfl
theorem ZP:al Tryz.prog 143=some (QG 143):=by kernel_rfl
theorem ZO:al Tryz.prog 144=some SB:=by kernel_rfl
theorem ZN:al Tryz.prog 145=some SA:=by kernel_rfl
theorem ZM:al Tryz.prog 146=some Sz:=by kernel_rfl
theorem ZL:al Tryz.prog 147=some Sy:=by kernel_rfl
theorem ZK:al Tryz.prog 148=some Sx:=by kernel_rfl
theorem ZJ:al Tryz.prog 149=some Sw:=by kernel_rfl
theorem ZI:al Tryz.prog 150=some D7:=by kernel_rfl
theorem ZH:al Tryz.prog 151=some Sv:=by kernel_rfl
theorem ZG:al Tryz.prog 152=some Su:=by kernel_rfl
theorem ZF:al Tryz.prog 153=some St:=by kernel_rfl
theorem ZE:al Tryz.prog 154=some Ss:=by kernel_rfl
theorem ZD:al Tryz.prog 155=some Sr:=by kernel_rfl
theorem ZC:al Tryz.prog 156=some Sq:=by kernel_rfl
theorem ZB:al Tryz.prog 157=some Sp:=by kernel_rfl
theorem ZA:al Tryz.prog 158=some So:=by kernel_rfl
theorem Zz:al Tryz.prog 159=some F159:=by kernel_rfl
theorem Zy:al Tryz.prog 160=some (QG 160):=by kernel_rfl
theorem Zx:al Tryz.prog 161=some (QG 161):=by kernel_rfl
theorem Zw:al Tryz.prog 162=some (QG 162):=by kernel_rfl
theorem Zv:al Tryz.prog 163=some (QG 163):=by kernel_rfl
theorem Zu:al Tryz.prog 164=some (QG 164):=by kernel_rfl
theorem Zt:al Tryz.prog 165=some (QG 165):=by kernel_rfl
theorem Zs:al Tryz.prog 166=some (QG 166):=by kernel_rfl
theorem Zr:al Tryz.prog 167=some (QG 167):=by kernel_rfl
theorem Zq:al Tryz.prog 168=some F168:=by kernel_rfl
theorem Zp:al Tryz.prog 169=some Sn:=by kernel_rfl
theorem Zo:al Tryz.prog 170=some I5:=by kernel_rfl
theorem Zn:al Tryz.prog 171=some tk:=by kernel_rfl
theorem Zm:al Tryz.prog 172=some Sm:=by kernel_rfl
theorem Zl:al Tryz.prog 173=some Sk:=by kernel_rfl
theorem Zk:al Tryz.prog 174=some (QG 174):=by kernel_rfl
theorem Zj:al Tryz.prog 175=some (QG 175):=by kernel_rfl
theorem Zi:al Tryz.prog 176=some Sj:=by kernel_rfl
theorem Zh:al Tryz.prog 177=some Si:=by kernel_rfl
theorem Zg:al Tryz.prog 178=some Sh:=by kernel_rfl
theorem Zf:al Tryz.prog 179=some Sf:=by kernel_rfl
theorem QN{α:Type}{p:α->Prop}:∀x:α,none=some x->p x:=λ_ h=>by cases h
theorem QX{α:Type}{p:α->Prop}{a:α}(h:p a):∀x:α,some a=some x->p x:=λ_ e=>by cases e;exact h
theorem JP:fnT.All (λf fn=>al Tryz.prog f=some fn) (λi=>i):=⟨QN,⟨QN,⟨(QX k3),⟨(QX k7),⟨(QX k15),⟨(QX k31),⟨(QX k63),⟨(QX Z5),aq,aq⟩,aq⟩,⟨(QX k95),⟨(QX Zz),aq,aq⟩,aq⟩⟩,⟨(QX k47),⟨(QX k79),⟨(QX ZP),aq,aq⟩,aq⟩,⟨(QX aal),⟨(QX Zj),aq,aq⟩,aq⟩⟩⟩,⟨(QX k23),⟨(QX k39),⟨(QX k71),⟨(QX ZX),aq,aq⟩,aq⟩,⟨(QX aat),⟨(QX Zr),aq,aq⟩,aq⟩⟩,⟨(QX k55),⟨(QX k87),⟨(QX ZH),aq,aq⟩,aq⟩,⟨(QX aad),aq,aq⟩⟩⟩⟩,⟨(QX k11),⟨(QX Ze),⟨(QX k35),⟨(QX k67),⟨(QX Z1),aq,aq⟩,aq⟩,⟨(QX k99),⟨(QX Zv),aq,aq⟩,aq⟩⟩,⟨(QX k51),⟨(QX k83),⟨(QX ZL),aq,aq⟩,aq⟩,⟨(QX aah),⟨(QX Zf),aq,aq⟩,aq⟩⟩⟩,⟨(QX k27),⟨(QX k43),⟨(QX k75),⟨(QX ZT),aq,aq⟩,aq⟩,⟨(QX aap),⟨(QX Zn),aq,aq⟩,aq⟩⟩,⟨(QX k59),⟨(QX k91),⟨(QX ZD),aq,aq⟩,aq⟩,⟨(QX Z9),aq,aq⟩⟩⟩⟩⟩,⟨(QX k5),⟨(QX k9),⟨(QX k17),⟨(QX k33),⟨(QX k65),⟨(QX Z3),aq,aq⟩,aq⟩,⟨(QX k97),⟨(QX Zx),aq,aq⟩,aq⟩⟩,⟨(QX k49),⟨(QX k81),⟨(QX ZN),aq,aq⟩,aq⟩,⟨(QX aaj),⟨(QX Zh),aq,aq⟩,aq⟩⟩⟩,⟨(QX k25),⟨(QX k41),⟨(QX k73),⟨(QX ZV),aq,aq⟩,aq⟩,⟨(QX aar),⟨(QX Zp),aq,aq⟩,aq⟩⟩,⟨(QX k57),⟨(QX k89),⟨(QX ZF),aq,aq⟩,aq⟩,⟨(QX aab),aq,aq⟩⟩⟩⟩,⟨(QX k13),⟨(QX k21),⟨(QX k37),⟨(QX k69),⟨(QX ZZ),aq,aq⟩,aq⟩,⟨(QX aav),⟨(QX Zt),aq,aq⟩,aq⟩⟩,⟨(QX k53),⟨(QX k85),⟨(QX ZJ),aq,aq⟩,aq⟩,⟨(QX aaf),aq,aq⟩⟩⟩,⟨(QX k29),⟨(QX k45),⟨(QX k77),⟨(QX ZR),aq,aq⟩,aq⟩,⟨(QX aan),⟨(QX Zl),aq,aq⟩,aq⟩⟩,⟨(QX k61),⟨(QX k93),⟨(QX ZB),aq,aq⟩,aq⟩,⟨(QX Z7),aq,aq⟩⟩⟩⟩⟩⟩,⟨QN,⟨(QX k4),⟨(QX k8),⟨(QX k16),⟨(QX k32),⟨(QX k64),⟨(QX Z4),aq,aq⟩,aq⟩,⟨(QX k96),⟨(QX Zy),aq,aq⟩,aq⟩⟩,⟨(QX k48),⟨(QX k80),⟨(QX ZO),aq,aq⟩,aq⟩,⟨(QX aak),⟨(QX Zi),aq,aq⟩,aq⟩⟩⟩,⟨(QX k24),⟨(QX k40),⟨(QX k72),⟨(QX ZW),aq,aq⟩,aq⟩,⟨(QX aas),⟨(QX Zq),aq,aq⟩,aq⟩⟩,⟨(QX k56),⟨(QX k88),⟨(QX ZG),aq,aq⟩,aq⟩,⟨(QX aac),aq,aq⟩⟩⟩⟩,⟨(QX k12),⟨(QX k20),⟨(QX k36),⟨(QX k68),⟨(QX Z0),aq,aq⟩,aq⟩,⟨(QX aaw),⟨(QX Zu),aq,aq⟩,aq⟩⟩,⟨(QX k52),⟨(QX k84),⟨(QX ZK),aq,aq⟩,aq⟩,⟨(QX aag),aq,aq⟩⟩⟩,⟨(QX k28),⟨(QX k44),⟨(QX k76),⟨(QX ZS),aq,aq⟩,aq⟩,⟨(QX aao),⟨(QX Zm),aq,aq⟩,aq⟩⟩,⟨(QX k60),⟨(QX k92),⟨(QX ZC),aq,aq⟩,aq⟩,⟨(QX Z8),aq,aq⟩⟩⟩⟩⟩,⟨(QX k6),⟨(QX k10),⟨(QX k18),⟨(QX k34),⟨(QX k66),⟨(QX Z2),aq,aq⟩,aq⟩,⟨(QX k98),⟨(QX Zw),aq,aq⟩,aq⟩⟩,⟨(QX k50),⟨(QX k82),⟨(QX ZM),aq,aq⟩,aq⟩,⟨(QX aai),⟨(QX Zg),aq,aq⟩,aq⟩⟩⟩,⟨(QX Zd),⟨(QX k42),⟨(QX k74),⟨(QX ZU),aq,aq⟩,aq⟩,⟨(QX aaq),⟨(QX Zo),aq,aq⟩,aq⟩⟩,⟨(QX k58),⟨(QX k90),⟨(QX ZE),aq,aq⟩,aq⟩,⟨(QX aaa),aq,aq⟩⟩⟩⟩,⟨(QX k14),⟨(QX k22),⟨(QX XJ),⟨(QX k70),⟨(QX ZY),aq,aq⟩,aq⟩,⟨(QX aau),⟨(QX Zs),aq,aq⟩,aq⟩⟩,⟨(QX k54),⟨(QX k86),⟨(QX ZI),aq,aq⟩,aq⟩,⟨(QX aae),aq,aq⟩⟩⟩,⟨(QX k30),⟨(QX k46),⟨(QX k78),⟨(QX ZQ),aq,aq⟩,aq⟩,⟨(QX aam),⟨(QX Zk),aq,aq⟩,aq⟩⟩,⟨(QX k62),⟨(QX k94),⟨(QX ZA),aq,aq⟩,aq⟩,⟨(QX Z6),aq,aq⟩⟩⟩⟩⟩⟩⟩
theorem WR:EnvOk Tryz.prog En:=⟨λf fn h=>np fnT (λi=>i) f fn JP h,λf s h=>by cases h⟩
def isT:Out->Heap->Bool:=λo _=>match o with|.val v=>(match v with|.bool b=>b|_=>false)|_=>false
theorem Fm{o:Out}{H:Heap}(h:isT o H=true):o=.val (.bool true):=by cases o with|ex e fr=>cases h|val v=>cases v<;>first|(cases h;done)|(rename_i b;cases b<;>first|rfl|(cases h;done))
end Go.Iso.Gen
end
