/-
  the code is that of the program.
-/
import Derived.Test.YtpnbiapmndbhgaaGreatDoorGen
import Derived.Test.YtpnbiapmndbhgaaGreatDoorIsoP5
set_option linter.unusedSimpArgs false
set_option linter.unusedVariables false
set_option maxRecDepth 100000
set_option maxHeartbeats 4000000
section
namespace Go.Iso.Gen
open Go.Proofs
theorem k5:al Tryz.prog 5=some F5:=by kernel_rfl
theorem k8:al Tryz.prog 8=some F8:=by kernel_rfl
theorem k9:al Tryz.prog 9=some F9:=by kernel_rfl
theorem k17:al Tryz.prog 17=some Zl:=by kernel_rfl
theorem k18:al Tryz.prog 18=some Uu:=by kernel_rfl
theorem Y5:al Tryz.prog 19=some S9:=by kernel_rfl
theorem k20:al Tryz.prog 20=some Lu:=by kernel_rfl
theorem Z9:al Tryz.prog 27=some Ut:=by kernel_rfl
theorem Z8:al Tryz.prog 28=some Us:=by kernel_rfl
theorem Z7:al Tryz.prog 29=some Ur:=by kernel_rfl
theorem Z6:al Tryz.prog 30=some Uq:=by kernel_rfl
theorem US:al Tryz.prog 31=some F31:=by kernel_rfl
theorem Z5:al Tryz.prog 32=some Up:=by kernel_rfl
theorem k35:al Tryz.prog 35=some Uo:=by kernel_rfl
theorem Z4:al Tryz.prog 42=some RS:=by kernel_rfl
theorem Z3:al Tryz.prog 43=some Um:=by kernel_rfl
theorem Z2:al Tryz.prog 44=some Ul:=by kernel_rfl
theorem Z1:al Tryz.prog 45=some Uk:=by kernel_rfl
theorem k46:al Tryz.prog 46=some FI:=by kernel_rfl
theorem Z0:al Tryz.prog 47=some Uj:=by kernel_rfl
theorem k48:al Tryz.prog 48=some F48:=by kernel_rfl
theorem k49:al Tryz.prog 49=some Ui:=by kernel_rfl
theorem ZZ:al Tryz.prog 50=some Uh:=by kernel_rfl
theorem ZY:al Tryz.prog 60=some Ug:=by kernel_rfl
theorem ZX:al Tryz.prog 61=some Uf:=by kernel_rfl
theorem ZW:al Tryz.prog 62=some Ue:=by kernel_rfl
theorem ZV:al Tryz.prog 63=some Ud:=by kernel_rfl
theorem ZU:al Tryz.prog 64=some Uc:=by kernel_rfl
theorem ZT:al Tryz.prog 65=some Ub:=by kernel_rfl
theorem ZS:al Tryz.prog 66=some Ua:=by kernel_rfl
theorem k67:al Tryz.prog 67=some T9:=by kernel_rfl
theorem k68:al Tryz.prog 68=some T8:=by kernel_rfl
theorem k69:al Tryz.prog 69=some T7:=by kernel_rfl
theorem ZR:al Tryz.prog 70=some T6:=by kernel_rfl
theorem ZQ:al Tryz.prog 71=some T5:=by kernel_rfl
theorem ZP:al Tryz.prog 72=some T4:=by kernel_rfl
theorem ZO:al Tryz.prog 73=some T3:=by kernel_rfl
theorem ZN:al Tryz.prog 74=some T2:=by kernel_rfl
theorem ZM:al Tryz.prog 75=some T1:=by kernel_rfl
theorem ZL:al Tryz.prog 76=some T0:=by kernel_rfl
theorem ZK:al Tryz.prog 77=some TZ:=by kernel_rfl
theorem Y4:al Tryz.prog 78=some Zk:=by kernel_rfl
theorem k79:al Tryz.prog 79=some TY:=by kernel_rfl
theorem ZJ:al Tryz.prog 80=some TX:=by kernel_rfl
theorem ZI:al Tryz.prog 81=some TW:=by kernel_rfl
theorem Y3:al Tryz.prog 82=some Zj:=by kernel_rfl
theorem ZH:al Tryz.prog 83=some TV:=by kernel_rfl
theorem ZG:al Tryz.prog 84=some TU:=by kernel_rfl
theorem ZF:al Tryz.prog 88=some TT:=by kernel_rfl
theorem ZE:al Tryz.prog 89=some TS:=by kernel_rfl
theorem ZD:al Tryz.prog 97=some TR:=by kernel_rfl
theorem ZC:al Tryz.prog 98=some TQ:=by kernel_rfl
theorem ZB:al Tryz.prog 99=some TP:=by kernel_rfl
theorem WK:al Tryz.prog 100=some O9:=by kernel_rfl
theorem WJ:al Tryz.prog 101=some O8:=by kernel_rfl
theorem WI:al Tryz.prog 102=some Lz:=by kernel_rfl
theorem WH:al Tryz.prog 103=some F103:=by kernel_rfl
theorem WG:al Tryz.prog 104=some Lx:=by kernel_rfl
theorem WF:al Tryz.prog 105=some O7:=by kernel_rfl
theorem WE:al Tryz.prog 106=some O6:=by kernel_rfl
theorem WD:al Tryz.prog 110=some O5:=by kernel_rfl
theorem WC:al Tryz.prog 111=some O4:=by kernel_rfl
theorem WB:al Tryz.prog 112=some O3:=by kernel_rfl
theorem WA:al Tryz.prog 113=some O2:=by kernel_rfl
theorem Wz:al Tryz.prog 114=some O1:=by kernel_rfl
theorem Wy:al Tryz.prog 115=some O0:=by kernel_rfl
theorem Wx:al Tryz.prog 116=some OZ:=by kernel_rfl
theorem Ww:al Tryz.prog 117=some OY:=by kernel_rfl
theorem Wv:al Tryz.prog 118=some OX:=by kernel_rfl
theorem Wu:al Tryz.prog 119=some OW:=by kernel_rfl
theorem Wt:al Tryz.prog 120=some OV:=by kernel_rfl
theorem Ws:al Tryz.prog 121=some OU:=by kernel_rfl
theorem Wr:al Tryz.prog 122=some OT:=by kernel_rfl
theorem Wq:al Tryz.prog 123=some OS:=by kernel_rfl
theorem Wp:al Tryz.prog 124=some Eo:=by kernel_rfl
theorem Wo:al Tryz.prog 125=some OR:=by kernel_rfl
theorem Wn:al Tryz.prog 126=some OQ:=by kernel_rfl
theorem Wm:al Tryz.prog 127=some OP:=by kernel_rfl
theorem Wl:al Tryz.prog 128=some OO:=by kernel_rfl
theorem Wk:al Tryz.prog 129=some F129:=by kernel_rfl
theorem Wj:al Tryz.prog 130=some Hy:=by kernel_rfl
theorem Wi:al Tryz.prog 131=some ON:=by kernel_rfl
theorem Wh:al Tryz.prog 132=some (QG 132):=by kernel_rfl
theorem Wg:al Tryz.prog 133=some (QG 133):=by kernel_rfl
theorem Wf:al Tryz.prog 134=some OM:=by kernel_rfl
theorem We:al Tryz.prog 135=some OL:=by kernel_rfl
theorem Wd:al Tryz.prog 136=some OK:=by kernel_rfl
theorem Wb:al Tryz.prog 137=some (QG 137):=by kernel_rfl
theorem Wa:al Tryz.prog 140=some OJ:=by kernel_rfl
theorem V9:al Tryz.prog 141=some Lw:=by kernel_rfl
theorem V8:al Tryz.prog 143=some OI:=by kernel_rfl
theorem V7:al Tryz.prog 144=some OH:=by kernel_rfl
theorem V6:al Tryz.prog 145=some OG:=by kernel_rfl
theorem V5:al Tryz.prog 146=some OF:=by kernel_rfl
theorem V4:al Tryz.prog 147=some (QG 147):=by kernel_rfl
theorem V3:al Tryz.prog 148=some (QG 148):=by kernel_rfl
theorem V2:al Tryz.prog 149=some OE:=by kernel_rfl
theorem V1:al Tryz.prog 150=some OD:=by kernel_rfl
theorem V0:al Tryz.prog 151=some Em:=by kernel_rfl
theorem VZ:al Tryz.prog 152=some OC:=by kernel_rfl
theorem VY:al Tryz.prog 153=some OB:=by kernel_rfl
theorem VX:al Tryz.prog 154=some OA:=by kernel_rfl
theorem VW:al Tryz.prog 155=some F155:=by kernel_rfl
theorem VV:al Tryz.prog 156=some Oz:=by kernel_rfl
theorem VU:al Tryz.prog 157=some F157:=by kernel_rfl
theorem VT:al Tryz.prog 158=some Oy:=by kernel_rfl
theorem VS:al Tryz.prog 159=some Ox:=by kernel_rfl
theorem VQ:al Tryz.prog 160=some Ow:=by kernel_rfl
theorem VP:al Tryz.prog 161=some Ov:=by kernel_rfl
theorem VO:al Tryz.prog 162=some Ou:=by kernel_rfl
theorem VN:al Tryz.prog 163=some Ot:=by kernel_rfl
theorem VM:al Tryz.prog 164=some Oq:=by kernel_rfl
theorem VL:al Tryz.prog 165=some (QG 165):=by kernel_rfl
theorem VK:al Tryz.prog 166=some (QG 166):=by kernel_rfl
theorem VJ:al Tryz.prog 167=some (QG 167):=by kernel_rfl
theorem VI:al Tryz.prog 168=some (QG 168):=by kernel_rfl
theorem VH:al Tryz.prog 169=some (QG 169):=by kernel_rfl
theorem VG:al Tryz.prog 170=some (QG 170):=by kernel_rfl
theorem VF:al Tryz.prog 171=some (QG 171):=by kernel_rfl
theorem VE:al Tryz.prog 172=some (QG 172):=by kernel_rfl
theorem VD:al Tryz.prog 173=some (QG 173):=by kernel_rfl
theorem VC:al Tryz.prog 174=some (QG 174):=by kernel_rfl
theorem VB:al Tryz.prog 175=some Oo:=by kernel_rfl
theorem VA:al Tryz.prog 176=some (QG 176):=by kernel_rfl
theorem Vz:al Tryz.prog 177=some (QG 177):=by kernel_rfl
theorem Vy:al Tryz.prog 178=some (QG 178):=by kernel_rfl
theorem Vx:al Tryz.prog 179=some (QG 179):=by kernel_rfl
theorem Vw:al Tryz.prog 180=some (QG 180):=by kernel_rfl
theorem Vv:al Tryz.prog 181=some (QG 181):=by kernel_rfl
theorem Vu:al Tryz.prog 182=some (QG 182):=by kernel_rfl
theorem Vt:al Tryz.prog 183=some (QG 183):=by kernel_rfl
theorem Vs:al Tryz.prog 185=some On:=by kernel_rfl
theorem Vr:al Tryz.prog 186=some Om:=by kernel_rfl
theorem Vq:al Tryz.prog 187=some Ol:=by kernel_rfl
theorem Vp:al Tryz.prog 188=some Ok:=by kernel_rfl
theorem Vo:al Tryz.prog 189=some Oj:=by kernel_rfl
theorem Vn:al Tryz.prog 190=some Oi:=by kernel_rfl
theorem Vm:al Tryz.prog 191=some AG:=by kernel_rfl
theorem Vl:al Tryz.prog 192=some Oh:=by kernel_rfl
theorem Vk:al Tryz.prog 193=some Og:=by kernel_rfl
theorem Vj:al Tryz.prog 194=some Of:=by kernel_rfl
theorem Vi:al Tryz.prog 195=some Oe:=by kernel_rfl
theorem Vh:al Tryz.prog 196=some Od:=by kernel_rfl
theorem Vg:al Tryz.prog 197=some Oc:=by kernel_rfl
theorem Vf:al Tryz.prog 198=some Ob:=by kernel_rfl
theorem Ve:al Tryz.prog 199=some Oa:=by kernel_rfl
theorem Vd:al Tryz.prog 200=some F200:=by kernel_rfl
theorem Vc:al Tryz.prog 201=some (QG 201):=by kernel_rfl
theorem Vb:al Tryz.prog 202=some (QG 202):=by kernel_rfl
theorem Va:al Tryz.prog 203=some (QG 203):=by kernel_rfl
theorem U9:al Tryz.prog 204=some (QG 204):=by kernel_rfl
theorem U8:al Tryz.prog 205=some (QG 205):=by kernel_rfl
theorem U7:al Tryz.prog 206=some (QG 206):=by kernel_rfl
theorem U6:al Tryz.prog 207=some (QG 207):=by kernel_rfl
theorem U5:al Tryz.prog 208=some (QG 208):=by kernel_rfl
theorem U4:al Tryz.prog 209=some (QG 209):=by kernel_rfl
theorem U3:al Tryz.prog 210=some (QG 210):=by kernel_rfl
theorem U2:al Tryz.prog 211=some El:=by kernel_rfl
theorem U1:al Tryz.prog 212=some rq:=by kernel_rfl
theorem U0:al Tryz.prog 213=some N9:=by kernel_rfl
theorem UZ:al Tryz.prog 214=some N8:=by kernel_rfl
theorem UY:al Tryz.prog 215=some (QG 215):=by kernel_rfl
theorem UX:al Tryz.prog 216=some (QG 216):=by kernel_rfl
theorem UW:al Tryz.prog 217=some (QG 217):=by kernel_rfl
theorem UV:al Tryz.prog 218=some S8:=by kernel_rfl
theorem UU:al Tryz.prog 219=some N7:=by kernel_rfl
theorem UT:al Tryz.prog 220=some N6:=by kernel_rfl
theorem QN{α:Type}{p:α→Prop}:∀x:α,none=some x→p x:=fun _ h=>by cases h
theorem QX{α:Type}{p:α→Prop}{a:α}(h:p a):∀x:α,some a=some x→p x:=fun _ e=>by cases e;exact h
theorem Fg:fnT.All (fun f fn=>al Tryz.prog f=some fn) (fun i=>i):=⟨QN,⟨QN,⟨QN,⟨QN,⟨QN,⟨(QX US),⟨(QX ZV),⟨(QX Wm),True.intro,True.intro⟩,⟨(QX Vm),True.intro,True.intro⟩⟩,⟨QN,⟨(QX VS),True.intro,True.intro⟩,True.intro⟩⟩,⟨(QX Z0),⟨(QX k79),⟨(QX V8),True.intro,True.intro⟩,⟨(QX U6),True.intro,True.intro⟩⟩,⟨(QX WC),⟨(QX VB),True.intro,True.intro⟩,True.intro⟩⟩⟩,⟨QN,⟨QN,⟨(QX ZQ),⟨(QX We),True.intro,True.intro⟩,⟨(QX Ve),True.intro,True.intro⟩⟩,⟨(QX WH),⟨(QX VJ),True.intro,True.intro⟩,True.intro⟩⟩,⟨QN,⟨QN,⟨(QX V0),True.intro,True.intro⟩,⟨(QX UY),True.intro,True.intro⟩⟩,⟨(QX Wu),⟨(QX Vt),True.intro,True.intro⟩,True.intro⟩⟩⟩⟩,⟨QN,⟨(QX Y5),⟨(QX k35),⟨(QX k67),⟨(QX Wi),True.intro,True.intro⟩,⟨(QX Vi),True.intro,True.intro⟩⟩,⟨(QX ZB),⟨(QX VN),True.intro,True.intro⟩,True.intro⟩⟩,⟨QN,⟨(QX ZH),⟨(QX V4),True.intro,True.intro⟩,⟨(QX U2),True.intro,True.intro⟩⟩,⟨(QX Wy),⟨(QX Vx),True.intro,True.intro⟩,True.intro⟩⟩⟩,⟨(QX Z9),⟨(QX Z3),⟨(QX ZM),True.intro,⟨(QX Va),True.intro,True.intro⟩⟩,⟨QN,⟨(QX VF),True.intro,True.intro⟩,True.intro⟩⟩,⟨QN,⟨QN,⟨(QX VW),True.intro,True.intro⟩,⟨(QX UU),True.intro,True.intro⟩⟩,⟨(QX Wq),⟨(QX Vq),True.intro,True.intro⟩,True.intro⟩⟩⟩⟩⟩,⟨(QX k5),⟨(QX k9),⟨(QX k17),⟨QN,⟨(QX ZT),⟨(QX Wk),True.intro,True.intro⟩,⟨(QX Vk),True.intro,True.intro⟩⟩,⟨(QX ZD),⟨(QX VP),True.intro,True.intro⟩,True.intro⟩⟩,⟨(QX k49),⟨(QX ZI),⟨(QX V6),True.intro,True.intro⟩,⟨(QX U4),True.intro,True.intro⟩⟩,⟨(QX WA),⟨(QX Vz),True.intro,True.intro⟩,True.intro⟩⟩⟩,⟨QN,⟨QN,⟨(QX ZO),⟨(QX Wb),True.intro,True.intro⟩,⟨(QX Vc),True.intro,True.intro⟩⟩,⟨(QX WF),⟨(QX VH),True.intro,True.intro⟩,True.intro⟩⟩,⟨QN,⟨(QX ZE),⟨(QX VY),True.intro,True.intro⟩,⟨(QX UW),True.intro,True.intro⟩⟩,⟨(QX Ws),⟨(QX Vs),True.intro,True.intro⟩,True.intro⟩⟩⟩⟩,⟨QN,⟨QN,⟨QN,⟨(QX k69),⟨(QX Wg),True.intro,True.intro⟩,⟨(QX Vg),True.intro,True.intro⟩⟩,⟨(QX WJ),⟨(QX VL),True.intro,True.intro⟩,True.intro⟩⟩,⟨QN,⟨QN,⟨(QX V2),True.intro,True.intro⟩,⟨(QX U0),True.intro,True.intro⟩⟩,⟨(QX Ww),⟨(QX Vv),True.intro,True.intro⟩,True.intro⟩⟩⟩,⟨(QX Z7),⟨(QX Z1),⟨(QX ZK),⟨(QX V9),True.intro,True.intro⟩,⟨(QX U8),True.intro,True.intro⟩⟩,⟨QN,⟨(QX VD),True.intro,True.intro⟩,True.intro⟩⟩,⟨(QX ZX),⟨QN,⟨(QX VU),True.intro,True.intro⟩,True.intro⟩,⟨(QX Wo),⟨(QX Vo),True.intro,True.intro⟩,True.intro⟩⟩⟩⟩⟩⟩,⟨QN,⟨QN,⟨(QX k8),⟨QN,⟨(QX Z5),⟨(QX ZU),⟨(QX Wl),True.intro,True.intro⟩,⟨(QX Vl),True.intro,True.intro⟩⟩,⟨QN,⟨(QX VQ),True.intro,True.intro⟩,True.intro⟩⟩,⟨(QX k48),⟨(QX ZJ),⟨(QX V7),True.intro,True.intro⟩,⟨(QX U5),True.intro,True.intro⟩⟩,⟨(QX WB),⟨(QX VA),True.intro,True.intro⟩,True.intro⟩⟩⟩,⟨QN,⟨QN,⟨(QX ZP),⟨(QX Wd),True.intro,True.intro⟩,⟨(QX Vd),True.intro,True.intro⟩⟩,⟨(QX WG),⟨(QX VI),True.intro,True.intro⟩,True.intro⟩⟩,⟨QN,⟨(QX ZF),⟨(QX VZ),True.intro,True.intro⟩,⟨(QX UX),True.intro,True.intro⟩⟩,⟨(QX Wt),True.intro,True.intro⟩⟩⟩⟩,⟨QN,⟨(QX k20),⟨QN,⟨(QX k68),⟨(QX Wh),True.intro,True.intro⟩,⟨(QX Vh),True.intro,True.intro⟩⟩,⟨(QX WK),⟨(QX VM),True.intro,True.intro⟩,True.intro⟩⟩,⟨QN,⟨(QX ZG),⟨(QX V3),True.intro,True.intro⟩,⟨(QX U1),True.intro,True.intro⟩⟩,⟨(QX Wx),⟨(QX Vw),True.intro,True.intro⟩,True.intro⟩⟩⟩,⟨(QX Z8),⟨(QX Z2),⟨(QX ZL),⟨(QX Wa),True.intro,True.intro⟩,⟨(QX U9),True.intro,True.intro⟩⟩,⟨QN,⟨(QX VE),True.intro,True.intro⟩,True.intro⟩⟩,⟨(QX ZY),⟨QN,⟨(QX VV),True.intro,True.intro⟩,⟨(QX UT),True.intro,True.intro⟩⟩,⟨(QX Wp),⟨(QX Vp),True.intro,True.intro⟩,True.intro⟩⟩⟩⟩⟩,⟨QN,⟨QN,⟨(QX k18),⟨QN,⟨(QX ZS),⟨(QX Wj),True.intro,True.intro⟩,⟨(QX Vj),True.intro,True.intro⟩⟩,⟨(QX ZC),⟨(QX VO),True.intro,True.intro⟩,True.intro⟩⟩,⟨(QX ZZ),⟨(QX Y3),⟨(QX V5),True.intro,True.intro⟩,⟨(QX U3),True.intro,True.intro⟩⟩,⟨(QX Wz),⟨(QX Vy),True.intro,True.intro⟩,True.intro⟩⟩⟩,⟨QN,⟨(QX Z4),⟨(QX ZN),True.intro,⟨(QX Vb),True.intro,True.intro⟩⟩,⟨(QX WE),⟨(QX VG),True.intro,True.intro⟩,True.intro⟩⟩,⟨QN,⟨QN,⟨(QX VX),True.intro,True.intro⟩,⟨(QX UV),True.intro,True.intro⟩⟩,⟨(QX Wr),⟨(QX Vr),True.intro,True.intro⟩,True.intro⟩⟩⟩⟩,⟨QN,⟨QN,⟨QN,⟨(QX ZR),⟨(QX Wf),True.intro,True.intro⟩,⟨(QX Vf),True.intro,True.intro⟩⟩,⟨(QX WI),⟨(QX VK),True.intro,True.intro⟩,True.intro⟩⟩,⟨QN,⟨QN,⟨(QX V1),True.intro,True.intro⟩,⟨(QX UZ),True.intro,True.intro⟩⟩,⟨(QX Wv),⟨(QX Vu),True.intro,True.intro⟩,True.intro⟩⟩⟩,⟨(QX Z6),⟨(QX k46),⟨(QX Y4),True.intro,⟨(QX U7),True.intro,True.intro⟩⟩,⟨(QX WD),⟨(QX VC),True.intro,True.intro⟩,True.intro⟩⟩,⟨(QX ZW),⟨QN,⟨(QX VT),True.intro,True.intro⟩,True.intro⟩,⟨(QX Wn),⟨(QX Vn),True.intro,True.intro⟩,True.intro⟩⟩⟩⟩⟩⟩⟩
theorem W5:EnvOk Tryz.prog En:=⟨fun f fn h=>mw fnT (fun i=>i) f fn Fg h,fun f s h=>by cases h⟩
def Y7:Out→Heap→Bool:=fun o _=>match o with
 | .val v=>match v with
   | .bool b=>b
   | _=>false
 | _=>false
theorem Kn{o:Out}{H:Heap}(h:Y7 o H=true):o=.val (.bool true):=by
 cases o with
 | ex e fr=>cases h
 | val v=>cases v<;>first | (cases h;done) | (rename_i b;cases b<;>first | rfl | (cases h;done))
end Go.Iso.Gen
end
