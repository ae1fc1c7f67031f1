/- The table of the functions, what is known of them beforehand, their equations; that their code is the loaded program's (by the kernel). -/
import Derived.Test.YtfbichemhllhbaaGreatEvF
import Derived.Test.YtfbichemhllhbaaGreatEvD
import Derived.Test.YtfbichemhllhbaaGreatEvE
import Derived.Test.YtfbichemhllhbaaGreatProg
import Derived.KernelRfl
set_option linter.unnecessarySimpa false
set_option linter.unusedVariables false
set_option linter.unusedSimpArgs false
set_option linter.unusedSectionVars false
namespace Go.Ev
set_option maxRecDepth 10000
def TB0:BT IF:=(.node 10 pU (.node 6 ly (.node 4 ij (.node 3 de .leaf .leaf) (.node 5 fF .leaf .leaf)) (.node 8 Bq (.node 7 rJ .leaf .leaf) (.node 9 jS .leaf .leaf))) (.node 14 km (.node 12 kl (.node 11 m6 .leaf .leaf) (.node 13 rK .leaf .leaf)) (.node 16 pV (.node 15 pd .leaf .leaf) (.node 17 qq .leaf .leaf))))
def TB1:BT IF:=(.node 26 rL (.node 22 TP (.node 20 il (.node 19 ko .leaf .leaf) (.node 21 b7 .leaf .leaf)) (.node 24 TQ (.node 23 fC .leaf .leaf) (.node 25 TR .leaf .leaf))) (.node 30 lX (.node 28 lz (.node 27 iS .leaf .leaf) (.node 29 ou .leaf .leaf)) (.node 32 rM (.node 31 nR .leaf .leaf) .leaf)))
def TB2:BT IF:=(.node 41 m8 (.node 37 qr (.node 35 c7 (.node 34 jT .leaf .leaf) (.node 36 jy .leaf .leaf)) (.node 39 m7 (.node 38 rN .leaf .leaf) (.node 40 ox .leaf .leaf))) (.node 45 pf (.node 43 gV (.node 42 sY .leaf .leaf) (.node 44 ir_subst_Instance .leaf .leaf)) (.node 47 pg (.node 46 uh .leaf .leaf) .leaf)))
def TB3:BT IF:=(.node 56 jo (.node 52 eT (.node 50 lY (.node 49 dj .leaf .leaf) (.node 51 uj .leaf .leaf)) (.node 54 qt (.node 53 mt .leaf .leaf) (.node 55 lZ .leaf .leaf))) (.node 60 gv (.node 58 lB (.node 57 rP .leaf .leaf) (.node 59 lC .leaf .leaf)) (.node 62 GA (.node 61 qu .leaf .leaf) .leaf)))
def TB4:BT IF:=(.node 71 kK (.node 67 qw (.node 65 TV (.node 64 TU .leaf .leaf) (.node 66 qv .leaf .leaf)) (.node 69 l7 (.node 68 ir_ref06_Kernel_Class .leaf .leaf) (.node 70 sZ .leaf .leaf))) (.node 75 iU (.node 73 pW (.node 72 ne .leaf .leaf) (.node 74 fo .leaf .leaf)) (.node 77 vR (.node 76 ip .leaf .leaf) .leaf)))
def TB5:BT IF:=(.node 86 rR (.node 82 c9 (.node 80 oz (.node 79 rQ .leaf .leaf) (.node 81 nh .leaf .leaf)) (.node 84 s4 (.node 83 oB .leaf .leaf) (.node 85 oC .leaf .leaf))) (.node 90 rS (.node 88 s5 (.node 87 d0 .leaf .leaf) (.node 89 qy .leaf .leaf)) (.node 92 qz (.node 91 rT .leaf .leaf) .leaf)))
def TB6:BT IF:=(.node 101 oE (.node 97 cK (.node 95 s6 (.node 94 zw .leaf .leaf) (.node 96 iq .leaf .leaf)) (.node 99 oD (.node 98 ni .leaf .leaf) (.node 100 uk .leaf .leaf))) (.node 105 qA (.node 103 lG (.node 102 rU .leaf .leaf) (.node 104 rV .leaf .leaf)) (.node 107 ul (.node 106 aO .leaf .leaf) .leaf)))
def TB7:BT IF:=(.node 116 da (.node 112 oH (.node 110 dW (.node 109 rW .leaf .leaf) (.node 111 oG .leaf .leaf)) (.node 114 kL (.node 113 pX .leaf .leaf) (.node 115 pY .leaf .leaf))) (.node 120 jd (.node 118 vS (.node 117 rX .leaf .leaf) (.node 119 ir .leaf .leaf)) (.node 122 nj (.node 121 iV .leaf .leaf) .leaf)))
def TB8:BT IF:=(.node 131 QY (.node 127 s7 (.node 125 QU (.node 124 QT .leaf .leaf) (.node 126 bA .leaf .leaf)) (.node 129 QW (.node 128 QV .leaf .leaf) (.node 130 QX .leaf .leaf))) (.node 135 l8 (.node 133 bM (.node 132 eU .leaf .leaf) (.node 134 lH .leaf .leaf)) (.node 138 nU (.node 136 dI .leaf .leaf) .leaf)))
def TB9:BT IF:=(.node 147 oI (.node 143 f9 (.node 141 je (.node 140 nk .leaf .leaf) (.node 142 nl .leaf .leaf)) (.node 145 lI (.node 144 qB .leaf .leaf) (.node 146 nq .leaf .leaf))) (.node 151 s8 (.node 149 nu (.node 148 aZ .leaf .leaf) (.node 150 qC .leaf .leaf)) (.node 153 rY (.node 152 lK .leaf .leaf) .leaf)))
def TB10:BT IF:=(.node 162 EU (.node 158 dt (.node 156 ph (.node 155 lL .leaf .leaf) (.node 157 kM .leaf .leaf)) (.node 160 s9 (.node 159 Ij .leaf .leaf) (.node 161 pZ .leaf .leaf))) (.node 166 bC (.node 164 oJ (.node 163 iz .leaf .leaf) (.node 165 ga .leaf .leaf)) (.node 168 dM (.node 167 pj .leaf .leaf) .leaf)))
def TB11:BT IF:=(.node 177 eZ (.node 173 qD (.node 171 rZ (.node 170 iD .leaf .leaf) (.node 172 gY .leaf .leaf)) (.node 175 ej (.node 174 ta .leaf .leaf) (.node 176 pm .leaf .leaf))) (.node 181 gw (.node 179 du (.node 178 te .leaf .leaf) (.node 180 kP .leaf .leaf)) (.node 183 kw (.node 182 lc .leaf .leaf) .leaf)))
def TB12:BT IF:=(.node 192 Q7 (.node 188 Q3 (.node 186 Q1 (.node 185 Q0 .leaf .leaf) (.node 187 Q2 .leaf .leaf)) (.node 190 Q5 (.node 189 Q4 .leaf .leaf) (.node 191 Q6 .leaf .leaf))) (.node 196 nv (.node 194 gH (.node 193 eB .leaf .leaf) (.node 195 Br .leaf .leaf)) (.node 198 tf (.node 197 lP .leaf .leaf) .leaf)))
def TB13:BT IF:=(.node 208 qE (.node 203 pp (.node 201 lQ (.node 200 l9 .leaf .leaf) (.node 202 c8 .leaf .leaf)) (.node 206 Ik (.node 204 cV .leaf .leaf) (.node 207 db .leaf .leaf))) (.node 212 tg (.node 210 eC (.node 209 bS .leaf .leaf) (.node 211 nV .leaf .leaf)) (.node 214 qF (.node 213 Bs .leaf .leaf) .leaf)))
def TB14:BT IF:=(.node 223 Rc (.node 219 Q8 (.node 217 ny (.node 216 eD .leaf .leaf) (.node 218 jA .leaf .leaf)) (.node 221 Ra (.node 220 Q9 .leaf .leaf) (.node 222 Rb .leaf .leaf))) (.node 228 Rg (.node 225 Re (.node 224 Rd .leaf .leaf) (.node 227 Rf .leaf .leaf)) (.node 230 bf (.node 229 jf .leaf .leaf) .leaf)))
def TB15:BT IF:=(.node 245 Rk (.node 238 nA (.node 236 kx (.node 232 iF .leaf .leaf) (.node 237 nz .leaf .leaf)) (.node 241 Ri (.node 240 Rh .leaf .leaf) (.node 244 Rj .leaf .leaf))) (.node 254 Rn (.node 247 Rm (.node 246 Rl .leaf .leaf) (.node 249 cQ .leaf .leaf)) (.node 269 Ro (.node 257 bT .leaf .leaf) .leaf)))
def TB:BT IF:=(.node 123 QS (.node 63 TS (.node 33 nS (.node 18 nQ TB0 TB1) (.node 48 rO TB2 TB3)) (.node 93 jB (.node 78 qx TB4 TB5) (.node 108 nT TB6 TB7))) (.node 184 QZ (.node 154 vT (.node 139 fZ TB8 TB9) (.node 169 pk TB10 TB11)) (.node 215 p0 (.node 199 iW TB12 TB13) (.node 231 lR TB14 TB15))))
def TT:FuncId→Option IF:=fun f=>TB.find f
def HB:BT (List PV→Sto→Option (Out×Sto)):=(.node 205 (uY 235) (.node 39 (vP 4) .leaf .leaf) (.node 224 (vP 13) .leaf .leaf))
def HH:gk:=fun f=>HB.find f
theorem rF {n:FuncId} {fn:IF} {bars:List Nat} {args:List PV} {σ:Sto} (h1:n<YB:=by decide) (h2:HH n=none:=by kernel_rfl) (h3:TT n=some fn:=by kernel_rfl) (h4:fn.mode≠2:=by decide) (h5:fn.mode≠3:=by decide) (hl:args.length=fn.np:=by rfl):az TT HH bars n args σ=aE TT HH fn bars args σ:=ES h1 h2 h3 h4 h5 bars args σ hl
section
variable (bars:List Nat) (a0 a1 a2 a3 a4 a5 a6 a7:PV) (σ:Sto)
@[simp] theorem Hr:lW<YB:=by decide
@[simp] theorem Ki:gr<YB:=by decide
@[simp] theorem Kj:i5<YB:=by decide
@[simp] theorem KZ:jI<YB:=by decide
@[simp] theorem NT:fq<YB:=by decide
@[simp] theorem Ms:gN<YB:=by decide
@[simp] theorem Mu:od<YB:=by decide
@[simp] theorem OT:mj<YB:=by decide
@[simp] theorem Ju:fE<YB:=by decide
@[simp] theorem Kk:lp<YB:=by decide
@[simp] theorem NU:mK<YB:=by decide
@[simp] theorem Kl:lq<YB:=by decide
@[simp] theorem K0:jJ<YB:=by decide
@[simp] theorem OU:jK<YB:=by decide
@[simp] theorem Mv:ji<YB:=by decide
@[simp] theorem Km:ff<YB:=by decide
@[simp] theorem Ko:ls<YB:=by decide
@[simp] theorem Kp:lu<YB:=by decide
@[simp] theorem K1:mL<YB:=by decide
@[simp] theorem NW:dQ<YB:=by decide
@[simp] theorem NX:pK<YB:=by decide
@[simp] theorem Il:jt<YB:=by decide
@[simp] theorem K2:jL<YB:=by decide
@[simp] theorem NY:pL<YB:=by decide
@[simp] theorem Im:gA<YB:=by decide
@[simp] theorem Kq:i6<YB:=by decide
@[simp] theorem NZ:pM<YB:=by decide
@[simp] theorem Kr:lv<YB:=by decide
@[simp] theorem Mw:jj<YB:=by decide
@[simp] theorem Mx:kT<YB:=by decide
@[simp] theorem Jv:eq<YB:=by decide
@[simp] theorem Rp:qd<YB:=by decide
@[simp] theorem N0:ft<YB:=by decide
@[simp] theorem wN:bF<YB:=by decide
@[simp] theorem N1:fu<YB:=by decide
@[simp] theorem My:fx<YB:=by decide
@[simp] theorem OV:dh<YB:=by decide
@[simp] theorem N3:mM<YB:=by decide
@[simp] theorem Jw:er<YB:=by decide
@[simp] theorem K3:cF<YB:=by decide
@[simp] theorem Qg:nP<YB:=by decide
@[simp] theorem K4:jM<YB:=by decide
@[simp] theorem N4:pN<YB:=by decide
@[simp] theorem zm:b0<YB:=by decide
@[simp] theorem In:b9<YB:=by decide
@[simp] theorem Qh:fL<YB:=by decide
@[simp] theorem GB:dY<YB:=by decide
@[simp] theorem Qi:qo<YB:=by decide
@[simp] theorem Mz:gO<YB:=by decide
@[simp] theorem Io:ju<YB:=by decide
@[simp] theorem N5:iN<YB:=by decide
@[simp] theorem N6:pO<YB:=by decide
@[simp] theorem K5:mN<YB:=by decide
@[simp] theorem K6:bt<YB:=by decide
@[simp] theorem K7:mO<YB:=by decide
@[simp] theorem MA:gP<YB:=by decide
@[simp] theorem Qj:sX<YB:=by decide
@[simp] theorem MB:jk<YB:=by decide
@[simp] theorem MC:kU<YB:=by decide
@[simp] theorem FD:dE<YB:=by decide
@[simp] theorem Ip:jv<YB:=by decide
@[simp] theorem OW:ra<YB:=by decide
@[simp] theorem Hs:iO<YB:=by decide
@[simp] theorem MD:oe<YB:=by decide
@[simp] theorem OX:oT<YB:=by decide
@[simp] theorem Ht:dy<YB:=by decide
@[simp] theorem OY:mn<YB:=by decide
@[simp] theorem ME:kV<YB:=by decide
@[simp] theorem Iq:rb<YB:=by decide
@[simp] theorem MF:og<YB:=by decide
@[simp] theorem N7:pP<YB:=by decide
@[simp] theorem N8:mP<YB:=by decide
@[simp] theorem MG:oh<YB:=by decide
@[simp] theorem K8:dR<YB:=by decide
@[simp] theorem N9:pQ<YB:=by decide
@[simp] theorem OZ:oU<YB:=by decide
@[simp] theorem Oa:pR<YB:=by decide
@[simp] theorem Oc:mQ<YB:=by decide
@[simp] theorem Hu:fM<YB:=by decide
@[simp] theorem O0:rc<YB:=by decide
@[simp] theorem MH:oi<YB:=by decide
@[simp] theorem Od:ke<YB:=by decide
@[simp] theorem Oe:mR<YB:=by decide
@[simp] theorem MJ:kW<YB:=by decide
@[simp] theorem tW:eR<YB:=by decide
@[simp] theorem K9:ug<YB:=by decide
@[simp] theorem O1:re<YB:=by decide
@[simp] theorem MK:oj<YB:=by decide
@[simp] theorem wp:cg<YB:=by decide
@[simp] theorem ML:fy<YB:=by decide
@[simp] theorem Of:pS<YB:=by decide
@[simp] theorem Qk:jN<YB:=by decide
@[simp] theorem Og:ci<YB:=by decide
@[simp] theorem Oh:kf<YB:=by decide
@[simp] theorem La:dS<YB:=by decide
@[simp] theorem Oi:eJ<YB:=by decide
@[simp] theorem MM:gQ<YB:=by decide
@[simp] theorem Hv:cm<YB:=by decide
@[simp] theorem Ql:qp<YB:=by decide
@[simp] theorem Ks:d9<YB:=by decide
@[simp] theorem Oj:pT<YB:=by decide
@[simp] theorem Bt:eb<YB:=by decide
@[simp] theorem Ol:kg<YB:=by decide
@[simp] theorem Om:kh<YB:=by decide
@[simp] theorem O2:mo<YB:=by decide
@[simp] theorem Hw:iP<YB:=by decide
@[simp] theorem O3:ck<YB:=by decide
@[simp] theorem Lb:dT<YB:=by decide
@[simp] theorem On:mS<YB:=by decide
@[simp] theorem Ir:mT<YB:=by decide
@[simp] theorem Kt:lw<YB:=by decide
@[simp] theorem Lc:jO<YB:=by decide
@[simp] theorem Is:jw<YB:=by decide
@[simp] theorem MN:ol<YB:=by decide
@[simp] theorem pq:aM<YB:=by decide
@[simp] theorem O4:fz<YB:=by decide
@[simp] theorem GC:fk<YB:=by decide
@[simp] theorem GE:dZ<YB:=by decide
@[simp] theorem Lf:mU<YB:=by decide
@[simp] theorem Iu:dU<YB:=by decide
@[simp] theorem D3:bG<YB:=by decide
@[simp] theorem Ku:i7<YB:=by decide
@[simp] theorem MO:eK<YB:=by decide
@[simp] theorem MP:jl<YB:=by decide
@[simp] theorem Lg:jP<YB:=by decide
@[simp] theorem MQ:jm<YB:=by decide
@[simp] theorem MR:gR<YB:=by decide
@[simp] theorem MS:gS<YB:=by decide
@[simp] theorem Lh:mW<YB:=by decide
@[simp] theorem MT:eL<YB:=by decide
@[simp] theorem Oo:mX<YB:=by decide
@[simp] theorem Iv:cT<YB:=by decide
@[simp] theorem MU:kX<YB:=by decide
@[simp] theorem MV:kY<YB:=by decide
@[simp] theorem O5:rf<YB:=by decide
@[simp] theorem Li:cZ<YB:=by decide
@[simp] theorem Oq:ki<YB:=by decide
@[simp] theorem Rq:qe<YB:=by decide
@[simp] theorem Lj:hU<YB:=by decide
@[simp] theorem Lk:eS<YB:=by decide
@[simp] theorem vf:fA<YB:=by decide
@[simp] theorem vA:bP<YB:=by decide
@[simp] theorem Rr:DZ<YB:=by decide
@[simp] theorem O6:rh<YB:=by decide
@[simp] theorem O7:iJ<YB:=by decide
@[simp] theorem MW:kZ<YB:=by decide
@[simp] theorem Ot:mY<YB:=by decide
@[simp] theorem MX:gT<YB:=by decide
@[simp] theorem sI:aQ<YB:=by decide
@[simp] theorem Ll:hZ<YB:=by decide
@[simp] theorem wq:cU<YB:=by decide
@[simp] theorem Lm:ib<YB:=by decide
@[simp] theorem MY:gU<YB:=by decide
@[simp] theorem Ou:iQ<YB:=by decide
@[simp] theorem Hx:eu<YB:=by decide
@[simp] theorem MZ:om<YB:=by decide
@[simp] theorem O8:mq<YB:=by decide
@[simp] theorem FE:bL<YB:=by decide
@[simp] theorem Ln:fN<YB:=by decide
@[simp] theorem Jx:ig<YB:=by decide
@[simp] theorem O9:oV<YB:=by decide
@[simp] theorem M6:la<YB:=by decide
@[simp] theorem Hy:iR<YB:=by decide
@[simp] theorem Lo:ii<YB:=by decide
@[simp] theorem Ov:mZ<YB:=by decide
@[simp] theorem Kv:i8<YB:=by decide
@[simp] theorem Iw:gB<YB:=by decide
@[simp] theorem GF:fm<YB:=by decide
@[simp] theorem M7:vy<YB:=by decide
@[simp] theorem Pa:oW<YB:=by decide
@[simp] theorem Lp:jQ<YB:=by decide
@[simp] theorem Pb:ri<YB:=by decide
@[simp] theorem Pc:mr<YB:=by decide
@[simp] theorem Ix:gC<YB:=by decide
@[simp] theorem Lq:m0<YB:=by decide
@[simp] theorem GG:cM<YB:=by decide
@[simp] theorem Lr:c6<YB:=by decide
@[simp] theorem Jy:cx<YB:=by decide
@[simp] theorem uZ:aS<YB:=by decide
@[simp] theorem M8:fB<YB:=by decide
@[simp] theorem tO:bq<YB:=by decide
@[simp] theorem xV:di<YB:=by decide
@[simp] theorem Kw:fg<YB:=by decide
@[simp] theorem EV:nI<YB:=by decide
@[simp] theorem M9:vz<YB:=by decide
@[simp] theorem Na:eM<YB:=by decide
@[simp] theorem Pd:rj<YB:=by decide
@[simp] theorem Kx:gu<YB:=by decide
@[simp] theorem Nb:oq<YB:=by decide
@[simp] theorem Jz:kj<YB:=by decide
@[simp] theorem Ls:jR<YB:=by decide
@[simp] theorem EW:ef<YB:=by decide
@[simp] theorem Lt:m5<YB:=by decide
@[simp] theorem Nc:lb<YB:=by decide
@[simp] theorem Ky:lx<YB:=by decide
@[simp] theorem Nd:jn<YB:=by decide
@[simp] theorem Nf:ot<YB:=by decide
@[simp] theorem FF:gD<YB:=by decide
@[simp] theorem FG:gE<YB:=by decide
theorem vg:az TT HH bars lW [a0,a1] σ=aE TT HH de bars [a0,a1] σ:=rF
theorem xW:az TT HH bars gr [a0,a1] σ=aE TT HH ij bars [a0,a1] σ:=rF
theorem xX:az TT HH bars i5 [a0,a1] σ=aE TT HH fF bars [a0,a1] σ:=rF
theorem zx:az TT HH bars jI [a0] σ=aE TT HH ly bars [a0] σ:=rF
theorem CW:az TT HH bars fq [a0] σ=aE TT HH rJ bars [a0] σ:=rF
theorem Bu:az TT HH bars od [a0] σ=aE TT HH jS bars [a0] σ:=rF
theorem EX:az TT HH bars mj [a0,a1] σ=aE TT HH pU bars [a0,a1] σ:=rF
theorem wO:az TT HH bars fE [a0,a1] σ=aE TT HH m6 bars [a0,a1] σ:=rF
theorem xY:az TT HH bars lp [a0,a1] σ=aE TT HH kl bars [a0,a1] σ:=rF
theorem CY:az TT HH bars mK [a0,a1] σ=aE TT HH rK bars [a0,a1] σ:=rF
theorem xZ:az TT HH bars lq [a0,a1] σ=aE TT HH km bars [a0,a1] σ:=rF
theorem zy:az TT HH bars jJ [a0,a1] σ=aE TT HH pd bars [a0,a1] σ:=rF
theorem EY:az TT HH bars jK [a0,a1,a2,a3] σ=aE TT HH pV bars [a0,a1,a2,a3] σ:=rF
theorem Bv:az TT HH bars ji [a0,a1] σ=aE TT HH qq bars [a0,a1] σ:=rF
theorem x5:az TT HH bars ff [a0] σ=aE TT HH nQ bars [a0] σ:=rF
theorem x6:az TT HH bars ls [a0,a1] σ=aE TT HH ko bars [a0,a1] σ:=rF
theorem x7:az TT HH bars lu [a0,a1] σ=aE TT HH il bars [a0,a1] σ:=rF
theorem zA:az TT HH bars mL [a0,a1] σ=aE TT HH b7 bars [a0,a1] σ:=rF
theorem CZ:az TT HH bars dQ [a0,a1] σ=aE TT HH fC bars [a0,a1] σ:=rF
theorem C0:az TT HH bars pK [a0] σ=aE TT HH rL bars [a0] σ:=rF
theorem vU:az TT HH bars jt [a0] σ=aE TT HH iS bars [a0] σ:=rF
theorem zB:az TT HH bars jL [a0,a1] σ=aE TT HH lz bars [a0,a1] σ:=rF
theorem C1:az TT HH bars pL [a0,a1,a2,a3] σ=aE TT HH ou bars [a0,a1,a2,a3] σ:=rF
theorem vV:az TT HH bars gA [a0] σ=aE TT HH lX bars [a0] σ:=rF
theorem x8:az TT HH bars i6 [a0] σ=aE TT HH nR bars [a0] σ:=rF
theorem C2:az TT HH bars pM [a0,a1] σ=aE TT HH rM bars [a0,a1] σ:=rF
theorem x9:az TT HH bars lv [a0,a1] σ=aE TT HH nS bars [a0,a1] σ:=rF
theorem um:az TT HH bars jj [a0,a1,a2] σ=aE TT HH jT bars [a0,a1,a2] σ:=rF
theorem Bw:az TT HH bars kT [a0,a1,a2,a3] σ=aE TT HH c7 bars [a0,a1,a2,a3] σ:=rF
theorem wP:az TT HH bars eq [a0,a1] σ=aE TT HH jy bars [a0,a1] σ:=rF
theorem Iy:az TT HH bars qd [a0,a1] σ=aE TT HH qr bars [a0,a1] σ:=rF
theorem C3:az TT HH bars ft [a0] σ=aE TT HH rN bars [a0] σ:=rF
theorem C4:az TT HH bars fu [a0,a1] σ=aE TT HH ox bars [a0,a1] σ:=rF
theorem uo:az TT HH bars fx [a0] σ=aE TT HH m8 bars [a0] σ:=rF
theorem EZ:az TT HH bars dh [a0] σ=aE TT HH sY bars [a0] σ:=rF
theorem C5:az TT HH bars mM [a0,a1,a2,a3] σ=aE TT HH gV bars [a0,a1,a2,a3] σ:=rF
theorem zC:az TT HH bars cF [a0] σ=aE TT HH pf bars [a0] σ:=rF
theorem GH:az TT HH bars nP [a0] σ=aE TT HH uh bars [a0] σ:=rF
theorem zD:az TT HH bars jM [a0,a1] σ=aE TT HH pg bars [a0,a1] σ:=rF
theorem C6:az TT HH bars pN [a0,a1] σ=aE TT HH rO bars [a0,a1] σ:=rF
theorem oX:az TT HH bars b0 [a0,a1] σ=aE TT HH dj bars [a0,a1] σ:=rF
theorem vW:az TT HH bars b9 [a0,a1] σ=aE TT HH lY bars [a0,a1] σ:=rF
theorem GI:az TT HH bars fL [a0,a1,a2] σ=aE TT HH uj bars [a0,a1,a2] σ:=rF
theorem uq:az TT HH bars dY [a0,a1,a2] σ=aE TT HH eT bars [a0,a1,a2] σ:=rF
theorem GJ:az TT HH bars qo [a0,a1] σ=aE TT HH mt bars [a0,a1] σ:=rF
theorem Bx:az TT HH bars gO [a0,a1] σ=aE TT HH qt bars [a0,a1] σ:=rF
theorem vX:az TT HH bars ju [a0] σ=aE TT HH lZ bars [a0] σ:=rF
theorem vB:az TT HH bars iN [a0,a1,a2] σ=aE TT HH jo bars [a0,a1,a2] σ:=rF
theorem C7:az TT HH bars pO [a0,a1,a2,a3] σ=aE TT HH rP bars [a0,a1,a2,a3] σ:=rF
theorem zE:az TT HH bars mN [a0] σ=aE TT HH lB bars [a0] σ:=rF
theorem zF:az TT HH bars bt [a0] σ=aE TT HH lC bars [a0] σ:=rF
theorem zG:az TT HH bars mO [a0,a1] σ=aE TT HH gv bars [a0,a1] σ:=rF
theorem By:az TT HH bars gP [a0] σ=aE TT HH qu bars [a0] σ:=rF
theorem Bz:az TT HH bars jk [a0,a1] σ=aE TT HH qv bars [a0,a1] σ:=rF
theorem BA:az TT HH bars kU [a0] σ=aE TT HH qw bars [a0] σ:=rF
theorem jp:az TT HH bars dE [a0,a1] σ=aE TT HH ir_ref06_Kernel_Class bars [a0,a1] σ:=rF
theorem vY:az TT HH bars jv [a0] σ=aE TT HH l7 bars [a0] σ:=rF
theorem E0:az TT HH bars ra [a0] σ=aE TT HH sZ bars [a0] σ:=rF
theorem vh:az TT HH bars iO [a0,a1] σ=aE TT HH kK bars [a0,a1] σ:=rF
theorem BB:az TT HH bars oe [a0,a1] σ=aE TT HH ne bars [a0,a1] σ:=rF
theorem E2:az TT HH bars oT [a0,a1] σ=aE TT HH pW bars [a0,a1] σ:=rF
theorem vi:az TT HH bars dy [a0,a1] σ=aE TT HH fo bars [a0,a1] σ:=rF
theorem E3:az TT HH bars mn [a0,a1,a2] σ=aE TT HH iU bars [a0,a1,a2] σ:=rF
theorem BC:az TT HH bars kV [a0,a1,a2] σ=aE TT HH ip bars [a0,a1,a2] σ:=rF
theorem BD:az TT HH bars og [a0,a1] σ=aE TT HH qx bars [a0,a1] σ:=rF
theorem C8:az TT HH bars pP [a0,a1] σ=aE TT HH rQ bars [a0,a1] σ:=rF
theorem C9:az TT HH bars mP [a0] σ=aE TT HH oz bars [a0] σ:=rF
theorem BE:az TT HH bars oh [a0] σ=aE TT HH nh bars [a0] σ:=rF
theorem zH:az TT HH bars dR [a0] σ=aE TT HH c9 bars [a0] σ:=rF
theorem Da:az TT HH bars pQ [a0,a1,a2] σ=aE TT HH oB bars [a0,a1,a2] σ:=rF
theorem E5:az TT HH bars oU [a0] σ=aE TT HH s4 bars [a0] σ:=rF
theorem Db:az TT HH bars pR [a0,a1] σ=aE TT HH oC bars [a0,a1] σ:=rF
theorem Dd:az TT HH bars mQ [a0] σ=aE TT HH rR bars [a0] σ:=rF
theorem vj:az TT HH bars fM [a0,a1,a2] σ=aE TT HH d0 bars [a0,a1,a2] σ:=rF
theorem E6:az TT HH bars rc [a0,a1] σ=aE TT HH s5 bars [a0,a1] σ:=rF
theorem BF:az TT HH bars oi [a0,a1] σ=aE TT HH qy bars [a0,a1] σ:=rF
theorem De:az TT HH bars ke [a0,a1] σ=aE TT HH rS bars [a0,a1] σ:=rF
theorem Df:az TT HH bars mR [a0] σ=aE TT HH rT bars [a0] σ:=rF
theorem BG:az TT HH bars kW [a0,a1] σ=aE TT HH qz bars [a0,a1] σ:=rF
theorem E7:az TT HH bars re [a0,a1] σ=aE TT HH s6 bars [a0,a1] σ:=rF
theorem BH:az TT HH bars oj [a0,a1,a2] σ=aE TT HH iq bars [a0,a1,a2] σ:=rF
theorem mB:az TT HH bars cg [a0] σ=aE TT HH cK bars [a0] σ:=rF
theorem BI:az TT HH bars fy [a0] σ=aE TT HH ni bars [a0] σ:=rF
theorem Dg:az TT HH bars pS [a0,a1,a2] σ=aE TT HH oD bars [a0,a1,a2] σ:=rF
theorem GK:az TT HH bars jN [a0] σ=aE TT HH uk bars [a0] σ:=rF
theorem Dh:az TT HH bars ci [a0] σ=aE TT HH oE bars [a0] σ:=rF
theorem Di:az TT HH bars kf [a0,a1,a2] σ=aE TT HH rU bars [a0,a1,a2] σ:=rF
theorem Dj:az TT HH bars eJ [a0] σ=aE TT HH rV bars [a0] σ:=rF
theorem BJ:az TT HH bars gQ [a0] σ=aE TT HH qA bars [a0] σ:=rF
theorem pC:az TT HH bars cm [a0,a1,a2,a3,a4] σ=aE TT HH aO bars [a0,a1,a2,a3,a4] σ:=rF
theorem GL:az TT HH bars qp [a0] σ=aE TT HH ul bars [a0] σ:=rF
theorem yb:az TT HH bars d9 [a0,a1] σ=aE TT HH nT bars [a0,a1] σ:=rF
theorem Dk:az TT HH bars pT [a0,a1] σ=aE TT HH rW bars [a0,a1] σ:=rF
theorem qG:az TT HH bars eb [a0,a1] σ=aE TT HH dW bars [a0,a1] σ:=rF
theorem Dl:az TT HH bars kg [a0,a1] σ=aE TT HH oG bars [a0,a1] σ:=rF
theorem Dm:az TT HH bars kh [a0] σ=aE TT HH oH bars [a0] σ:=rF
theorem E8:az TT HH bars mo [a0] σ=aE TT HH pX bars [a0] σ:=rF
theorem vk:az TT HH bars iP [a0] σ=aE TT HH kL bars [a0] σ:=rF
theorem wQ:az TT HH bars ck [a0,a1,a2] σ=aE TT HH pY bars [a0,a1,a2] σ:=rF
theorem tw:az TT HH bars dT [a0,a1,a2,a3,a4,a5] σ=aE TT HH da bars [a0,a1,a2,a3,a4,a5] σ:=rF
theorem Dn:az TT HH bars mS [a0,a1,a2] σ=aE TT HH rX bars [a0,a1,a2] σ:=rF
theorem yd:az TT HH bars lw [a0] σ=aE TT HH ir bars [a0] σ:=rF
theorem zI:az TT HH bars jO [a0,a1] σ=aE TT HH jd bars [a0,a1] σ:=rF
theorem vZ:az TT HH bars jw [a0] σ=aE TT HH iV bars [a0] σ:=rF
theorem BK:az TT HH bars ol [a0] σ=aE TT HH nj bars [a0] σ:=rF
theorem fj:az TT HH bars aM [a0,a1,a2] σ=aE TT HH bA bars [a0,a1,a2] σ:=rF
theorem E9:az TT HH bars fz [a0,a1] σ=aE TT HH s7 bars [a0,a1] σ:=rF
theorem ur:az TT HH bars fk [a0,a1,a2] σ=aE TT HH eU bars [a0,a1,a2] σ:=rF
theorem uu:az TT HH bars dZ [a0,a1,a2] σ=aE TT HH bM bars [a0,a1,a2] σ:=rF
theorem zJ:az TT HH bars mU [a0,a1] σ=aE TT HH lH bars [a0,a1] σ:=rF
theorem v6:az TT HH bars dU [a0] σ=aE TT HH l8 bars [a0] σ:=rF
theorem sk:az TT HH bars bG [a0,a1] σ=aE TT HH dI bars [a0,a1] σ:=rF
theorem yf:az TT HH bars i7 [a0,a1] σ=aE TT HH nU bars [a0,a1] σ:=rF
theorem BL:az TT HH bars eK [a0,a1,a2] σ=aE TT HH fZ bars [a0,a1,a2] σ:=rF
theorem BM:az TT HH bars jl [a0,a1] σ=aE TT HH nk bars [a0,a1] σ:=rF
theorem zK:az TT HH bars jP [a0] σ=aE TT HH je bars [a0] σ:=rF
theorem BN:az TT HH bars jm [a0] σ=aE TT HH nl bars [a0] σ:=rF
theorem BO:az TT HH bars gR [a0,a1,a2,a3] σ=aE TT HH f9 bars [a0,a1,a2,a3] σ:=rF
theorem BQ:az TT HH bars gS [a0] σ=aE TT HH qB bars [a0] σ:=rF
theorem zL:az TT HH bars mW [a0] σ=aE TT HH lI bars [a0] σ:=rF
theorem BR:az TT HH bars eL [a0] σ=aE TT HH nq bars [a0] σ:=rF
theorem Do:az TT HH bars mX [a0,a1,a2] σ=aE TT HH oI bars [a0,a1,a2] σ:=rF
theorem qH:az TT HH bars cT [a0,a1,a2,a3,a4] σ=aE TT HH aZ bars [a0,a1,a2,a3,a4] σ:=rF
theorem BS:az TT HH bars kX [a0] σ=aE TT HH nu bars [a0] σ:=rF
theorem BU:az TT HH bars kY [a0,a1] σ=aE TT HH qC bars [a0,a1] σ:=rF
theorem Fa:az TT HH bars rf [a0] σ=aE TT HH s8 bars [a0] σ:=rF
theorem tA:az TT HH bars cZ [a0,a1,a2,a3,a4,a5] σ=aE TT HH lK bars [a0,a1,a2,a3,a4,a5] σ:=rF
theorem Dp:az TT HH bars ki [a0] σ=aE TT HH rY bars [a0] σ:=rF
theorem Iz:az TT HH bars qe [a0] σ=aE TT HH vT bars [a0] σ:=rF
theorem tB:az TT HH bars hU [a0,a1] σ=aE TT HH lL bars [a0,a1] σ:=rF
theorem zM:az TT HH bars eS [a0,a1] σ=aE TT HH ph bars [a0,a1] σ:=rF
theorem lf:az TT HH bars bP [a0] σ=aE TT HH dt bars [a0] σ:=rF
theorem Fb:az TT HH bars rh [a0] σ=aE TT HH s9 bars [a0] σ:=rF
theorem Fc:az TT HH bars iJ [a0] σ=aE TT HH pZ bars [a0] σ:=rF
theorem BV:az TT HH bars kZ [a0] σ=aE TT HH iz bars [a0] σ:=rF
theorem Dq:az TT HH bars mY [a0,a1,a2] σ=aE TT HH oJ bars [a0,a1,a2] σ:=rF
theorem BW:az TT HH bars gT [a0,a1,a2] σ=aE TT HH ga bars [a0,a1,a2] σ:=rF
theorem dN:az TT HH bars aQ [a0,a1] σ=aE TT HH bC bars [a0,a1] σ:=rF
theorem zN:az TT HH bars hZ [a0] σ=aE TT HH pj bars [a0] σ:=rF
theorem mC:az TT HH bars cU [a0,a1] σ=aE TT HH dM bars [a0,a1] σ:=rF
theorem zO:az TT HH bars ib [a0] σ=aE TT HH pk bars [a0] σ:=rF
theorem BX:az TT HH bars gU [a0,a1] σ=aE TT HH iD bars [a0,a1] σ:=rF
theorem Dr:az TT HH bars iQ [a0] σ=aE TT HH rZ bars [a0] σ:=rF
theorem vl:az TT HH bars eu [a0,a1,a2,a3] σ=aE TT HH gY bars [a0,a1,a2,a3] σ:=rF
theorem BY:az TT HH bars om [a0,a1] σ=aE TT HH qD bars [a0,a1] σ:=rF
theorem Fd:az TT HH bars mq [a0] σ=aE TT HH ta bars [a0] σ:=rF
theorem tP:az TT HH bars bL [a0,a1] σ=aE TT HH ej bars [a0,a1] σ:=rF
theorem zP:az TT HH bars fN [a0,a1,a2,a3,a4,a5] σ=aE TT HH pm bars [a0,a1,a2,a3,a4,a5] σ:=rF
theorem wR:az TT HH bars ig [a0,a1,a2,a3,a4,a5,a6] σ=aE TT HH eZ bars [a0,a1,a2,a3,a4,a5,a6] σ:=rF
theorem Fe:az TT HH bars oV [a0] σ=aE TT HH te bars [a0] σ:=rF
theorem BZ:az TT HH bars la [a0,a1] σ=aE TT HH du bars [a0,a1] σ:=rF
theorem vm:az TT HH bars iR [a0] σ=aE TT HH kP bars [a0] σ:=rF
theorem zQ:az TT HH bars ii [a0,a1,a2,a3] σ=aE TT HH gw bars [a0,a1,a2,a3] σ:=rF
theorem Dt:az TT HH bars mZ [a0,a1] σ=aE TT HH lc bars [a0,a1] σ:=rF
theorem yg:az TT HH bars i8 [a0] σ=aE TT HH kw bars [a0] σ:=rF
theorem v7:az TT HH bars gB [a0,a1,a2,a3] σ=aE TT HH eB bars [a0,a1,a2,a3] σ:=rF
theorem uv:az TT HH bars fm [a0,a1,a2,a3] σ=aE TT HH gH bars [a0,a1,a2,a3] σ:=rF
theorem Ff:az TT HH bars oW [a0,a1] σ=aE TT HH nv bars [a0,a1] σ:=rF
theorem zR:az TT HH bars jQ [a0] σ=aE TT HH lP bars [a0] σ:=rF
theorem Fg:az TT HH bars ri [a0,a1] σ=aE TT HH tf bars [a0,a1] σ:=rF
theorem Fh:az TT HH bars mr [a0,a1] σ=aE TT HH iW bars [a0,a1] σ:=rF
theorem v8:az TT HH bars gC [a0,a1] σ=aE TT HH l9 bars [a0,a1] σ:=rF
theorem zS:az TT HH bars m0 [a0,a1] σ=aE TT HH lQ bars [a0,a1] σ:=rF
theorem oY:az TT HH bars cM [a0,a1,a2,a3] σ=aE TT HH c8 bars [a0,a1,a2,a3] σ:=rF
theorem zT:az TT HH bars c6 [a0,a1] σ=aE TT HH pp bars [a0,a1] σ:=rF
theorem rk:az TT HH bars cx [a0,a1,a2,a3] σ=aE TT HH cV bars [a0,a1,a2,a3] σ:=rF
theorem ky:az TT HH bars aS [a0,a1] σ=aE TT HH db bars [a0,a1] σ:=rF
theorem B0:az TT HH bars fB [a0,a1] σ=aE TT HH qE bars [a0,a1] σ:=rF
theorem ek:az TT HH bars bq [a0,a1] σ=aE TT HH bS bars [a0,a1] σ:=rF
theorem nW:az TT HH bars di [a0,a1] σ=aE TT HH eC bars [a0,a1] σ:=rF
theorem yh:az TT HH bars fg [a0,a1] σ=aE TT HH nV bars [a0,a1] σ:=rF
theorem B4:az TT HH bars eM [a0,a1] σ=aE TT HH qF bars [a0,a1] σ:=rF
theorem Fi:az TT HH bars rj [a0] σ=aE TT HH p0 bars [a0] σ:=rF
theorem yi:az TT HH bars gu [a0,a1,a2,a3] σ=aE TT HH eD bars [a0,a1,a2,a3] σ:=rF
theorem B5:az TT HH bars oq [a0,a1] σ=aE TT HH ny bars [a0,a1] σ:=rF
theorem wS:az TT HH bars kj [a0] σ=aE TT HH jA bars [a0] σ:=rF
theorem zU:az TT HH bars jR [a0,a1] σ=aE TT HH jf bars [a0,a1] σ:=rF
theorem th:az TT HH bars ef [a0,a1,a2,a3] σ=aE TT HH bf bars [a0,a1,a2,a3] σ:=rF
theorem zV:az TT HH bars m5 [a0] σ=aE TT HH lR bars [a0] σ:=rF
theorem B6:az TT HH bars lb [a0,a1,a2] σ=aE TT HH iF bars [a0,a1,a2] σ:=rF
theorem yj:az TT HH bars lx [a0] σ=aE TT HH kx bars [a0] σ:=rF
theorem B7:az TT HH bars jn [a0] σ=aE TT HH nz bars [a0] σ:=rF
theorem B8:az TT HH bars ot [a0] σ=aE TT HH nA bars [a0] σ:=rF
theorem tQ:az TT HH bars gD [a0,a1,a2] σ=aE TT HH cQ bars [a0,a1,a2] σ:=rF
theorem tR:az TT HH bars gE [a0,a1,a2] σ=aE TT HH bT bars [a0,a1,a2] σ:=rF
end
theorem Rs:TB0.all (nG Go.Proofs.Tryz.prog)=true:=by kernel_rfl
theorem Rt:TB1.all (nG Go.Proofs.Tryz.prog)=true:=by kernel_rfl
theorem Ru:TB2.all (nG Go.Proofs.Tryz.prog)=true:=by kernel_rfl
theorem Rv:TB3.all (nG Go.Proofs.Tryz.prog)=true:=by kernel_rfl
theorem Rx:TB4.all (nG Go.Proofs.Tryz.prog)=true:=by kernel_rfl
theorem Ry:TB5.all (nG Go.Proofs.Tryz.prog)=true:=by kernel_rfl
theorem Rz:TB6.all (nG Go.Proofs.Tryz.prog)=true:=by kernel_rfl
theorem RA:TB7.all (nG Go.Proofs.Tryz.prog)=true:=by kernel_rfl
theorem RB:TB8.all (nG Go.Proofs.Tryz.prog)=true:=by kernel_rfl
theorem RC:TB9.all (nG Go.Proofs.Tryz.prog)=true:=by kernel_rfl
theorem Pe:TB10.all (nG Go.Proofs.Tryz.prog)=true:=by kernel_rfl
theorem Pf:TB11.all (nG Go.Proofs.Tryz.prog)=true:=by kernel_rfl
theorem Pg:TB12.all (nG Go.Proofs.Tryz.prog)=true:=by kernel_rfl
theorem Ph:TB13.all (nG Go.Proofs.Tryz.prog)=true:=by kernel_rfl
theorem Pi:TB14.all (nG Go.Proofs.Tryz.prog)=true:=by kernel_rfl
theorem Pj:TB15.all (nG Go.Proofs.Tryz.prog)=true:=by kernel_rfl
theorem TW:TB.all (nG Go.Proofs.Tryz.prog)=true:=(BT.all_node (by kernel_rfl) (BT.all_node (by kernel_rfl) (BT.all_node (by kernel_rfl) (BT.all_node (by kernel_rfl) Rs Rt) (BT.all_node (by kernel_rfl) Ru Rv)) (BT.all_node (by kernel_rfl) (BT.all_node (by kernel_rfl) Rx Ry) (BT.all_node (by kernel_rfl) Rz RA))) (BT.all_node (by kernel_rfl) (BT.all_node (by kernel_rfl) (BT.all_node (by kernel_rfl) RB RC) (BT.all_node (by kernel_rfl) Pe Pf)) (BT.all_node (by kernel_rfl) (BT.all_node (by kernel_rfl) Pg Ph) (BT.all_node (by kernel_rfl) Pi Pj))))
theorem TX (f:FuncId) (fn:IF) (h:TT f=some fn):nG Go.Proofs.Tryz.prog f fn=true:=BT.all_find (p:=nG Go.Proofs.Tryz.prog) TW h
theorem ma (args:List PV) (σ:Sto) (r:Out×Sto) (hr:vP 4 args σ=some r):eO Go.Proofs.Tryz.prog 39∧∀ bars κ w (xs:Array Value),@INV (CR Go.Proofs.Tryz.prog) bars κ σ w→RelL κ args xs.toList→below.belowAll σ.length args=true→Calls Go.Proofs.Tryz.prog 39 xs w (@jG (CR Go.Proofs.Tryz.prog) bars κ σ w r) :=
 DV (zero:=[(.i 0),(.i 0),(.i 0),(.sl true [])]) (by kernel_rfl) rfl (by decide) args σ r hr
theorem Ng (args:List PV) (σ:Sto) (r:Out×Sto) (hr:vP 13 args σ=some r):eO Go.Proofs.Tryz.prog 224∧∀ bars κ w (xs:Array Value),@INV (CR Go.Proofs.Tryz.prog) bars κ σ w→RelL κ args xs.toList→below.belowAll σ.length args=true→Calls Go.Proofs.Tryz.prog 224 xs w (@jG (CR Go.Proofs.Tryz.prog) bars κ σ w r) :=
 DV (zero:=[(.sl true []),(.i 0),(.i 0),(.i 0),(.sl true []),(.i 0),(.i 0),(.i 0),(.sl true []),(.i 0),(.i 0),(.i 0),(.sl true [])]) (by kernel_rfl) rfl (by decide) args σ r hr
theorem TZ:@Bc (CR Go.Proofs.Tryz.prog) Go.Proofs.Tryz.prog HH:=by
 intro f h hh
 have hm:=BT.find_mem hh
 simp only [HB,BT.toList,List.nil_append,List.append_nil,List.cons_append,List.mem_cons,List.not_mem_nil,or_false,Prod.mk.injEq] at hm
 rcases hm with ⟨rfl,rfl⟩|⟨rfl,rfl⟩|⟨rfl,rfl⟩
 ·exact Gy
 ·exact ma
 ·exact Ng
theorem Vp:@dL (CR Go.Proofs.Tryz.prog) Go.Proofs.Tryz.prog (az TT HH):=@Id (CR Go.Proofs.Tryz.prog) Go.Proofs.Tryz.prog (fun _ _ _=>Iff.rfl) TT TX HH TZ
end Go.Ev

namespace Go.Ev
def zW (c:Int):Bool:=decide (97≤c) && decide (c≤122)
def IA (c:Int):Bool:=decide (65≤c) && decide (c≤90)
def Pk (c:Int):Bool:=decide (48≤c) && decide (c≤57)
def zX (c:Int):Bool:=zW c || IA c || Pk c || decide (c=95) || decide (c=39)
def bts (s:ByteArray):List Int:=s.data.toList.map fun b=>(b.toNat:Int)
@[simp] theorem tj (s:ByteArray):(bts s).length=s.size:=by simp [bts]
theorem RD (s:ByteArray) (i:Nat):s[i]? = s.data.toList[i]?:=by
 by_cases h:i<s.size
 ·rw [getElem?_pos s i h,List.getElem?_eq_getElem (by simpa using h)]; rfl
 ·rw [getElem?_neg s i h,List.getElem?_eq_none (by simpa using h)]
theorem Fj {s:ByteArray} {i:Nat} {x:Int} (h:(bts s)[i]? = some x):∃ b:UInt8,s[i]? = some b∧(b.toNat:Int)=x:=by
 simp only [bts,List.getElem?_map,Option.map_eq_some_iff] at h
 obtain ⟨b,h1,h2⟩:=h
 exact ⟨b,by rw [RD,h1],h2⟩
theorem yk {s:ByteArray} (h:s.size≠0):∃ b:UInt8,s[0]? = some b∧(bts s).headD 0=b.toNat:=by
 obtain ⟨x,hx,-,-⟩:=eQ (l:=bts s) (i:=0) (by simp; omega)
 obtain ⟨b,hb,rfl⟩:=Fj hx
 exact ⟨b,hb,by cases hl:bts s<;>simp [hl] at hx ⊢; exact hx⟩
def nmB (f:Int→Bool) (l:List Int):Bool:=decide (1≤l.length) && decide (l.length≤16) && f (l.headD 0) && l.all zX
def wT (s:ByteArray):Bool:=nmB zW (bts s) && !decide (s=⟨#[116,121,112,101]⟩)
abbrev PV.u8 (n:Int):PV:=.k (.int .u8 n)
theorem sm (c:Int):az TT HH [] jn [.u8 c] []=some (.ret (.b (zW c)),[]):=by
 rw [B7]
 simp [nz]
 repeat' ((first|refine bJ ?_ ?_|refine bn ?_ ?_|refine bK ?_ ?_|refine bI ?_ ?_|refine bo ?_ ?_)<;>intro h<;>(try simp only [decide_eq_true_eq,decide_eq_false_iff_not,Bool.not_eq_true] at h)<;>simp [h,nz])
 all_goals (simp_all [zW]<;>omega)
theorem wa (c:Int):az TT HH [] i8 [.u8 c] []=some (.ret (.b (IA c)),[]):=by
 rw [yg]
 simp [kw]
 repeat' ((first|refine bJ ?_ ?_|refine bn ?_ ?_|refine bK ?_ ?_|refine bI ?_ ?_|refine bo ?_ ?_)<;>intro h<;>(try simp only [decide_eq_true_eq,decide_eq_false_iff_not,Bool.not_eq_true] at h)<;>simp [h,kw])
 all_goals (simp_all [IA]<;>omega)
theorem yl (c:Int):az TT HH [] ot [.u8 c] []=some (.ret (.b (Pk c)),[]):=by
 rw [B8]
 simp [nA]
 repeat' ((first|refine bJ ?_ ?_|refine bn ?_ ?_|refine bK ?_ ?_|refine bI ?_ ?_|refine bo ?_ ?_)<;>intro h<;>(try simp only [decide_eq_true_eq,decide_eq_false_iff_not,Bool.not_eq_true] at h)<;>simp [h,nA])
 all_goals (simp_all [Pk]<;>omega)
theorem vn (c:Int):az TT HH [] kj [.u8 c] []=some (.ret (.b (zX c)),[]):=by
 rw [wS]
 have h1:=au (sm c) rfl (by simp)
 have h2:=au (wa c) rfl (by simp)
 have h3:=au (yl c) rfl (by simp)
 simp [jA,h1,h2,h3]
 repeat' ((first|refine bJ ?_ ?_|refine bn ?_ ?_|refine bK ?_ ?_|refine bI ?_ ?_|refine bo ?_ ?_)<;>intro h<;>(try simp only [decide_eq_true_eq,decide_eq_false_iff_not,Bool.not_eq_true] at h)<;>simp [h,jA,h1,h2,h3])
 all_goals simp_all [zX]
theorem zY (s:ByteArray) (g:FuncId) (hg:g<YB) (f:Int→Bool) (hf:∀ c,az TT HH [] g [.u8 c] []=some (.ret (.b (f c)),[])) (hs:s.size<2 ^ 63) :
  az TT HH [] mZ [.s s,.fn (.func g) []] []=some (.ret (.b (nmB f (bts s))),[]):=by
 rw [Dt]
 have hlo:=be (T:=TT) (H:=HH) (b:=[0]) (A:=lO) (bts s)
  (fun i (_:Unit)=>([(0,.s s),(22,.i s.size),(23,.i i)],[]))
  (fun r i _=>if r.all zX then (.exit 0,[],[]) else (.ret,[(4,.b false)],[]))
  (fun _ _=>True)
  (fun _ _=>by
   rw [aF]
   simp [lO])
  (fun i x r _ hx hm hd hi _=>by
   obtain ⟨b,hb,rfl⟩:=Fj hx
   simp at hi
   have hc:=au (vn (b.toNat:Int)) rfl (by simp)
   have e1:(i:Int)<s.size:=by omega
   have hw:IntKind.i64.wrap ((i:Int)+1)=(i:Int)+1:=ai _ (by omega) (by omega)
   rw [aF]
   cases h:zX (b.toNat:Int)<;>simp [lO,e1,hb,hc,hw,h]) 0 () (by omega) trivial
 simp [-List.all_eq_true] at hlo
 have hf:=fun c=>au (hf c) rfl hg
 by_cases h0:s.size=0
 ·simp [lc,h0,nmB]
 obtain ⟨b,hb,hd⟩:=yk h0
 have e1:¬ (s.size:Int)<1:=by omega
 cases ha:(bts s).all zX<;>simp [ha] at hlo
 all_goals simp [lc,hs,hf,hg,hlo,hb,e1]
 all_goals repeat' ((first|refine bJ ?_ ?_|refine bn ?_ ?_|refine bK ?_ ?_|refine bI ?_ ?_|refine bo ?_ ?_)<;>intro h<;>(try simp only [decide_eq_true_eq,decide_eq_false_iff_not,Bool.not_eq_true] at h)<;>simp [h,lc,hs,hf,hg,hlo,hb,e1])
 all_goals (simp only [nmB,hd,ha,tj] at *; simp_all<;>omega)
theorem wb (s:ByteArray) (hs:s.size<2 ^ 63):az TT HH [] lx [.s s] []=some (.ret (.b (nmB zW (bts s))),[]):=by
 rw [yj]
 have h1:=au (zY s jn (by simp) zW sm hs) rfl (by simp)
 simp [kx,h1]
 repeat' ((first|refine bJ ?_ ?_|refine bn ?_ ?_|refine bK ?_ ?_|refine bI ?_ ?_|refine bo ?_ ?_)<;>intro h<;>(try simp only [decide_eq_true_eq,decide_eq_false_iff_not,Bool.not_eq_true] at h)<;>simp [h,kx,h1])
theorem B9 (s:ByteArray) (hs:s.size<2 ^ 63):az TT HH [] rj [.s s] []=some (.ret (.b (wT s)),[]):=by
 rw [Fi]
 have h1:=au (wb s hs) rfl (by simp)
 simp [p0,h1]
 repeat' ((first|refine bJ ?_ ?_|refine bn ?_ ?_|refine bK ?_ ?_|refine bI ?_ ?_|refine bo ?_ ?_)<;>intro h<;>(try simp only [decide_eq_true_eq,decide_eq_false_iff_not,Bool.not_eq_true] at h)<;>simp [h,p0,h1])
 all_goals simp_all [wT]
theorem sn (c:Int):az TT HH [] jm [.u8 c] []=some (.ret (.b (zW c)),[]):=by
 rw [BN]
 simp [nl]
 repeat' ((first|refine bJ ?_ ?_|refine bn ?_ ?_|refine bK ?_ ?_|refine bI ?_ ?_|refine bo ?_ ?_)<;>intro h<;>(try simp only [decide_eq_true_eq,decide_eq_false_iff_not,Bool.not_eq_true] at h)<;>simp [h,nl])
 all_goals (simp_all [zW]<;>omega)
theorem rl (c:Int):az TT HH [] jQ [.u8 c] []=some (.ret (.b (zW c || IA c)),[]):=by
 rw [zR]
 have h1:=au (sn c) rfl (by simp)
 simp [lP,h1]
 repeat' ((first|refine bJ ?_ ?_|refine bn ?_ ?_|refine bK ?_ ?_|refine bI ?_ ?_|refine bo ?_ ?_)<;>intro h<;>(try simp only [decide_eq_true_eq,decide_eq_false_iff_not,Bool.not_eq_true] at h)<;>simp [h,lP,h1])
 all_goals (simp_all [IA]<;>omega)
theorem wU (c:Int):az TT HH [] m5 [.u8 c] []=some (.ret (.b (zX c)),[]):=by
 rw [zV]
 have h1:=au (rl c) rfl (by simp)
 simp [lR,h1]
 repeat' ((first|refine bJ ?_ ?_|refine bn ?_ ?_|refine bK ?_ ?_|refine bI ?_ ?_|refine bo ?_ ?_)<;>intro h<;>(try simp only [decide_eq_true_eq,decide_eq_false_iff_not,Bool.not_eq_true] at h)<;>simp [h,lR,h1])
 all_goals (simp_all [zX,Pk]<;>omega)
theorem RE (l:List Int) (p:Int→Bool):decide (((l.takeWhile p).length:Int)=l.length)=l.all p:=by
 induction l with
 | nil=>rfl
 | cons a r ih =>
  cases h:p a
  ·simp [List.takeWhile_cons,h]; omega
  ·simp [List.takeWhile_cons,h,← ih]
theorem Ca (s:ByteArray) (hs:s.size<2 ^ 63):az TT HH [] ri [.s s,.i 0] []=some (.ret (.i ((bts s).takeWhile zX).length),[]):=by
 rw [Fg]
 have hlo:=be (T:=TT) (H:=HH) (b:=[0]) (A:=nw) (bts s)
  (fun i (_:Unit)=>([(0,.s s),(1,.i i)],[]))
  (fun r i _=>(.exit 0,[(1,.i (i+(r.takeWhile zX).length))],[]))
  (fun _ _=>True)
  (fun _ _=>by
   rw [aF]
   simp [nw,hs])
  (fun i x r _ hx hm hd hi _=>by
   obtain ⟨b,hb,rfl⟩:=Fj hx
   simp at hi
   have hc:=au (wU (b.toNat:Int)) rfl (by simp)
   have e1:(i:Int)<s.size:=by omega
   have hw:IntKind.i64.wrap ((i:Int)+1)=(i:Int)+1:=ai _ (by omega) (by omega)
   rw [aF]
   cases h:zX (b.toNat:Int)<;>simp [nw,hs,e1,hb,hc,hw,h,List.takeWhile_cons]
   omega) 0 () (by omega) trivial
 simp at hlo
 simp [tf,hlo]
theorem wV (s:ByteArray) (hs:s.size<2 ^ 63):az TT HH [] jP [.s s] []=some (.ret (.b (nmB (fun c=>zW c || IA c) (bts s))),[]):=by
 rw [zK]
 have h1:=au (Ca s hs) rfl (by simp)
 by_cases h0:s.size=0
 ·simp [je,h0,nmB]
 obtain ⟨b,hb,hd⟩:=yk h0
 have e1:(1:Int)≤s.size:=by omega
 have h2:=au (rl b.toNat) rfl (by simp)
 have ht:=RE (bts s) zX
 simp only [tj] at ht
 simp [je,hs,h1,h2,hb,e1]
 repeat' ((first|refine bJ ?_ ?_|refine bn ?_ ?_|refine bK ?_ ?_|refine bI ?_ ?_|refine bo ?_ ?_)<;>intro h<;>(try simp only [decide_eq_true_eq,decide_eq_false_iff_not,Bool.not_eq_true] at h)<;>simp [h,je,hs,h1,h2,hb,e1])
 all_goals (simp only [nmB,hd,tj,← ht] at *; simp_all<;>omega)
theorem RF (f:Int→Bool) (s:ByteArray) (h:s.size=0):nmB f (bts s)=false:=by simp [nmB,h]
theorem wc (s:ByteArray) (hs:s.size<2 ^ 63):az TT HH [] lw [.s s] []=some (.ret (.b (nmB zW (bts s))),[]):=by
 rw [yd]
 have h1:=au (wV s hs) rfl (by simp)
 by_cases h0:s.size=0
 ·simp [ir,h1,RF _ s h0]
 obtain ⟨b,hb,hd⟩:=yk h0
 have h2:=au (sn b.toNat) rfl (by simp)
 simp [ir,hs,h1,h2,hb]
 repeat' ((first|refine bJ ?_ ?_|refine bn ?_ ?_|refine bK ?_ ?_|refine bI ?_ ?_|refine bo ?_ ?_)<;>intro h<;>(try simp only [decide_eq_true_eq,decide_eq_false_iff_not,Bool.not_eq_true] at h)<;>simp [h,ir,hs,h1,h2,hb])
 all_goals (simp only [nmB,hd,tj] at *; simp_all<;>omega)
theorem wW (s:ByteArray) (hs:s.size<2 ^ 63):az TT HH [] mN [.s s] []=some (.ret (.b (wT s)),[]):=by
 rw [zE]
 have h1:=au (wc s hs) rfl (by simp)
 simp [lB,hs,h1]
 repeat' ((first|refine bJ ?_ ?_|refine bn ?_ ?_|refine bK ?_ ?_|refine bI ?_ ?_|refine bo ?_ ?_)<;>intro h<;>(try simp only [decide_eq_true_eq,decide_eq_false_iff_not,Bool.not_eq_true] at h)<;>simp [h,lB,hs,h1])
 all_goals simp_all [wT]
def T0 (s:ByteArray):Bool:=nmB (fun c=>zW c || IA c) (bts s) && !decide (s=⟨#[116,121,112,101]⟩)
end Go.Ev

namespace Go.Ev
def wX (P:Program) (t:TypeId) {α:Type} [Enc α] (ok:α→Prop) (n:Nat):Prop:=∀ cs,HasTy P n t cs→∃ x:α,cs=Enc.cells x∧ok x
section
variable {P:Program} {t e:TypeId}
theorem wY (u:P.underlying t=some (.int .i64)) (n:Nat):wX P t I64 n:=by
 intro cs h
 cases n with
 | zero=>simp [HasTy] at h
 | succ n =>
  unfold HasTy at h
  rw [u] at h
  simp only at h
  obtain ⟨m,rfl,hm⟩:=h
  refine ⟨m,rfl,?_⟩
  simp [Lit.wf,IntKind.min,IntKind.max,IntKind.signed,IntKind.bits] at hm
  unfold I64
  omega
theorem Pl (u:P.underlying t=some .string) (n:Nat):wX P t (fun s:ByteArray=>s.size≤maxLen) n:=by
 intro cs h
 cases n with
 | zero=>simp [HasTy] at h
 | succ n =>
  unfold HasTy at h
  rw [u] at h
  simp only at h
  obtain ⟨s,rfl,hs⟩:=h
  exact ⟨s,rfl,hs⟩
theorem D4 {α:Type} [Enc α] {ok:α→Prop} (u:P.underlying t=some (.slice e)) (n:Nat) (ih:∀ m,m<n→wX P e ok m) {cs:List PV} (h:HasTy P n t cs) :
  ∃ l:List α,cs=[.sl false (ab l)]∧l.length≤maxLen∧∀ x∈l,ok x:=by
 cases n with
 | zero=>simp [HasTy] at h
 | succ n =>
  unfold HasTy at h
  rw [u] at h
  simp only at h
  obtain ⟨es,rfl,hl,hes⟩:=h
  have:∀ es:List (List PV),(∀ x∈es,HasTy P n e x)→∃ l:List α,es=ab l∧∀ t∈l,ok t:=by
   intro es
   induction es with
   | nil=>intro _; exact ⟨[],rfl,by simp⟩
   | cons x r ihr =>
    intro h
    obtain ⟨a,rfl,ha⟩:=ih n (by omega) x (h x (by simp))
    obtain ⟨l,rfl,hl⟩:=ihr fun y hy=>h y (by simp [hy])
    exact ⟨a::l,rfl,by simp [ha]; exact hl⟩
  obtain ⟨l,rfl,hok⟩:=this es hes
  exact ⟨l,rfl,by simpa using hl,hok⟩
def Tm.Ok:Tm→Prop:=fun t=>I64 t.op∧I64 t.hd∧I64 t.n∧t.args.length≤maxLen
inductive Tm.ok:Tm→Prop
 | mk {t:Tm} (h:Tm.Ok t) (ha:∀ x∈t.args,Tm.ok x):Tm.ok t
theorem Tm.ok.here {t:Tm} (h:t.ok):t.Ok:=by cases h; assumption
theorem Tm.ok.sub {t:Tm} (h:t.ok):∀ x∈t.args,x.ok:=by cases h; assumption
theorem RG {ti ts:TypeId} {f0 f1 f2 f3:Field} (ui:P.underlying ti=some (.int .i64)) (us:P.underlying ts=some (.slice t)) (u:P.underlying t=some (.struct #[f0,f1,f2,f3])) (e0:f0.type=ti) (e1:f1.type=ti) (e2:f2.type=ti) (e3:f3.type=ts) (n:Nat):wX P t Tm.ok n:=by
 induction n using Nat.strongRecOn with
 | _ n ih =>
  intro cs h
  cases n with
  | zero=>simp [HasTy] at h
  | succ n =>
   unfold HasTy at h
   rw [u] at h
   simp only [List.map_cons,List.map_nil,Tys,e0,e1,e2,e3] at h
   obtain ⟨a,b,rfl,ha,b1,b2,rfl,hb,c1,c2,rfl,hc,d1,d2,rfl,hd,rfl⟩:=h
   obtain ⟨op,rfl,h1⟩:=wY ui _ _ ha
   obtain ⟨hdd,rfl,h2⟩:=wY ui _ _ hb
   obtain ⟨m,rfl,h3⟩:=wY ui _ _ hc
   obtain ⟨l,rfl,hl,hok⟩:=D4 us n (fun m hm=>ih m (by omega)) hd
   exact ⟨.mk op hdd m l,by simp,⟨⟨h1,h2,h3,hl⟩,hok⟩⟩
inductive Rw.ok:Rw→Prop
 | mk {t:Rw} (h0:I64 t.op) (h1:t.name.size≤maxLen) (h2:t.args.length≤maxLen) (ha:∀ x∈t.args,Rw.ok x):Rw.ok t
theorem Rw.ok.len {t:Rw} (h:t.ok):t.args.length≤maxLen:=by cases h; assumption
theorem Rw.ok.sub {t:Rw} (h:t.ok):∀ x∈t.args,x.ok:=by cases h; assumption
inductive Pt.ok:Pt→Prop
 | mk {t:Pt} (h0:I64 t.op) (h1:t.sign.size≤maxLen) (h2:t.name.size≤maxLen) (h3:I64 t.n) (h4:t.raw.ok) (h5:t.parts.length≤maxLen) (ha:∀ x∈t.parts,Pt.ok x):Pt.ok t
theorem Pt.ok.len {t:Pt} (h:t.ok):t.parts.length≤maxLen:=by cases h; assumption
theorem Pt.ok.rw {t:Pt} (h:t.ok):t.raw.ok:=by cases h; assumption
theorem Pt.ok.sub {t:Pt} (h:t.ok):∀ x∈t.parts,x.ok:=by cases h; assumption
def Dc.ok (d:Dc):Prop:=d.name.size≤maxLen∧d.class_.ok∧I64 d.imp
theorem RH {ti tn tt:TypeId} {f0 f1 f2:Field} (ui:P.underlying ti=some (.int .i64)) (un:P.underlying tn=some .string) (ut:∀ n,wX P tt Tm.ok n) (u:P.underlying t=some (.struct #[f0,f1,f2])) (e0:f0.type=tn) (e1:f1.type=tt) (e2:f2.type=ti) (n:Nat):wX P t Dc.ok n:=by
 intro cs h
 cases n with
 | zero=>simp [HasTy] at h
 | succ n =>
  unfold HasTy at h
  rw [u] at h
  simp only [List.map_cons,List.map_nil,Tys,e0,e1,e2] at h
  obtain ⟨a1,_,rfl,h1,a2,_,rfl,h2,a3,_,rfl,h3,rfl⟩:=h
  obtain ⟨nm,rfl,k1⟩:=Pl un _ _ h1
  obtain ⟨c,rfl,k2⟩:=ut _ _ h2
  obtain ⟨i,rfl,k3⟩:=wY ui _ _ h3
  exact ⟨⟨nm,c,i⟩,by simp,k1,k2,k3⟩
def It_.ok (x:It_):Prop:=x.word.size≤maxLen∧x.name.size≤maxLen∧x.raw.ok∧x.parts.length≤maxLen∧∀ p∈x.parts,p.ok
def Dv.ok (d:Dv):Prop:=d.item.ok∧I64 d.after
def Ld.ok (l:Ld):Prop:=l.sig.length≤maxLen∧(∀ d∈l.sig,d.ok)∧l.words.length≤maxLen∧∀ d∈l.words,d.ok
end
end Go.Ev

namespace Go.Ev
def Tm.under (t:Tm) (i:Int):Int:=if t.op=3∨(t.op=2∧i=1) then 1 else 0
theorem lS (t:Tm) (i:Int):az TT HH [] kg [t.enc,.i i] []=some (.ret (.i (t.under i)),[]):=by
 rw [Dl]
 simp [oG,aa,bH,a8]
 repeat' ((first|refine bJ ?_ ?_|refine bn ?_ ?_|refine bK ?_ ?_|refine bI ?_ ?_|refine bo ?_ ?_)<;>intro h<;>(try simp only [decide_eq_true_eq,decide_eq_false_iff_not,Bool.not_eq_true] at h)<;>simp [h,oG,aa,bH,a8])
 all_goals simp_all [Tm.under]
theorem nX (t:Tm) (i:Int):az TT HH [] jl [t.enc,.i i] []=some (.ret (.i (t.under i)),[]):=by
 rw [BM]
 simp [nk,aa,bH,a8]
 repeat' ((first|refine bJ ?_ ?_|refine bn ?_ ?_|refine bK ?_ ?_|refine bI ?_ ?_|refine bo ?_ ?_)<;>intro h<;>(try simp only [decide_eq_true_eq,decide_eq_false_iff_not,Bool.not_eq_true] at h)<;>simp [h,nk,aa,bH,a8])
 all_goals simp_all [Tm.under]
def lg (op hd n len:Int):Bool :=
 (decide (op=1) && (decide (len=0) && decide (hd=0) && decide (n=0))) ||
 (decide (op=2) && (decide (len=2) && decide (hd=0) && decide (n=0))) ||
 (decide (op=3) && (decide (len=1) && decide (hd=0) && decide (n=0))) ||
 (decide (op=4) && (decide (1≤hd) && decide (hd≤3) && decide (0≤n) && decide (n≤9999)))
mutual
def Tm.formed:Tm→Int→Bool
 | .mk op hd n args,d=>decide (d≤40) && (lg op hd n args.length && Tm.formedL args (d+1))
def Tm.formedL:List Tm→Int→Bool
 | [],_=>true
 | t::r,d=>t.formed d && Tm.formedL r d
end
theorem nY:∀ (t:Tm) (d:Int),t.formed d=(decide (d≤40) && (lg t.op t.hd t.n t.args.length && Tm.formedL t.args (d+1)))
 | .mk op hd n args,d=>by rw [Tm.formed]; rfl
theorem formedL_mem {l:List Tm} {d:Int}:Tm.formedL l d=true ↔ ∀ x∈l,x.formed d=true:=by
 induction l with
 | nil=>simp [Tm.formedL]
 | cons a r ih=>simp [Tm.formedL,ih]
mutual
def Tm.nodes:Tm→Nat
 | .mk _ _ _ args=>1+Tm.nodesL args
def Tm.nodesL:List Tm→Nat
 | []=>0
 | t::r=>t.nodes+Tm.nodesL r
end
theorem en:∀ t:Tm,t.nodes=1+Tm.nodesL t.args
 | .mk _ _ _ _=>by rw [Tm.nodes]; rfl
theorem IB {l:List Tm} {t:Tm} (h:t∈l):t.nodes≤Tm.nodesL l:=by
 induction l with
 | nil=>cases h
 | cons x r ih =>
  unfold Tm.nodesL
  rcases List.mem_cons.1 h with rfl|h
  ·omega
  ·have:=ih h; omega
def Tm.proper (t:Tm):Bool:=decide (t.nodes≤600) && t.formed 1
theorem ml {n:Nat} (h:n≤maxLen):n<2 ^ 63:=by unfold maxLen at h; omega
theorem Tm.ok.len {t:Tm} (h:t.ok):t.args.length≤maxLen:=h.here.2.2.2
theorem wZ:∀ t:Tm,t.ok→∀ d:Int,0≤d→d≤41→az TT HH [] jO [t.enc,.i d] []=some (.ret (.b (t.formed d)),[]) :=
 Tm.ind fun t ih hok d h0 h1=>by
  rw [zI,nY]
  have e3:=ml hok.len
  by_cases hd40:d≤40
  rotate_left
  ·have g1:40<d:=by omega
   simp [jd,g1,hd40]
  have g1:¬ (40<d):=by omega
  have hlo:=be (T:=TT) (H:=HH) (b:=[0]) (A:=jz) t.args
   (fun i (_:Unit)=>([(1,.i d),(2,.ptr 0 0),(5,.i i)],[.var (Enc.cells t)]))
   (fun r i _=>if Tm.formedL r (d+1) then (.exit 1,[],[.var (Enc.cells t)]) else (.ret,[(4,.b false)],[.var (Enc.cells t)]))
   (fun _ _=>True)
   (fun _ _=>by
    rw [aF]
    simp [jz,e3,Tm.formedL])
   (fun i x r _ hx hm hd hi _=>by
    have hc:=au (ih x hm (hok.sub x hm) (d+1) (by omega) (by omega)) (by simp) (by simp)
    have e1:(i:Int)<t.args.length:=by omega
    have hw:IntKind.i64.wrap ((i:Int)+1)=(i:Int)+1:=ai _ (by omega) (by omega)
    have hw1:IntKind.i64.wrap (d+1)=d+1:=ai _ (by omega) (by omega)
    rw [aF]
    cases h:x.formed (d+1)<;>simp [jz,e1,e3,hx,aa,hc,hw,hw1,h,Tm.formedL]) 0 () (by omega) trivial
  cases hf:Tm.formedL t.args (d+1)<;>simp [hf] at hlo
  all_goals simp [jd,g1,hd40,e3,hlo,aa,bH,a8]
  all_goals repeat' ((first|refine bJ ?_ ?_|refine bn ?_ ?_|refine bK ?_ ?_|refine bI ?_ ?_|refine bo ?_ ?_)<;>intro h<;>(try simp only [decide_eq_true_eq,decide_eq_false_iff_not,Bool.not_eq_true] at h)<;>simp [h,jd,g1,hd40,e3,hlo,aa,bH,a8])
  all_goals (simp_all [lg]<;>omega)
mutual
def Tm.rnodes:Tm→Int→Int
 | .mk _ _ _ args,m=>min (Tm.rnodesL args m 1) (m+1)
def Tm.rnodesL:List Tm→Int→Int→Int
 | [],_,n=>n
 | t::r,m,n=>if n≤m then Tm.rnodesL r m (n+t.rnodes (m - n)) else n
end
theorem ID:∀ (t:Tm) (m:Int),t.rnodes m=min (Tm.rnodesL t.args m 1) (m+1)
 | .mk _ _ _ _,_=>by rw [Tm.rnodes]; rfl
mutual
theorem ym:∀ (t:Tm) (m:Int),0≤m→t.rnodes m=min (t.nodes:Int) (m+1)
 | .mk op hd n args,m,h=>by
  unfold Tm.rnodes Tm.nodes
  have:=Cb args m 1 (by omega) (by omega)
  push_cast
  omega
theorem Cb:∀ (l:List Tm) (m n:Int),0≤n→n≤m+1→min (Tm.rnodesL l m n) (m+1)=min (n+Tm.nodesL l:Int) (m+1)∧0≤Tm.rnodesL l m n∧Tm.rnodesL l m n≤m+1
 | [],m,n,h0,h1=>by unfold Tm.rnodesL Tm.nodesL; refine ⟨by simp,h0,h1⟩
 | t::r,m,n,h0,h1=>by
  unfold Tm.rnodesL Tm.nodesL
  have ht:=en t
  push_cast
  split
  ·rename_i hn
   have g:=ym t (m - n) (by omega)
   have:=Cb r m (n+t.rnodes (m - n)) (by omega) (by omega)
   omega
  ·omega
end
theorem so:∀ t:Tm,t.ok→∀ m:Int,0≤m→m≤100000→az TT HH [] jk [t.enc,.i m] []=some (.ret (.i (t.rnodes m)),[]) :=
 Tm.ind fun t ih hok m h0 h1=>by
  rw [Bz,ID]
  have e3:=ml hok.len
  have hlo:=be (T:=TT) (H:=HH) (b:=[0]) (A:=io) t.args
   (fun i (n:Int)=>([(1,.i m),(2,.ptr 0 0),(5,.i n),(6,.i i)],[.var (Enc.cells t)]))
   (fun r i n=>(.exit 0,[(1,.i m),(5,.i (Tm.rnodesL r m n))],[.var (Enc.cells t)]))
   (fun _ n=>1≤n∧n≤m+1)
   (fun n _=>by
    rw [aF]
    simp [io,e3,Tm.rnodesL])
   (fun i x r n hx hm hd hi ⟨q0,q1⟩=>by
    have e1:(i:Int)<t.args.length:=by omega
    by_cases hn:n≤m
    ·have hc:=au (ih x hm (hok.sub x hm) (m - n) (by omega) (by omega)) (by simp) (by simp)
     have hr:=ym x (m - n) (by omega)
     have hw:IntKind.i64.wrap ((i:Int)+1)=(i:Int)+1:=ai _ (by omega) (by omega)
     have hw1:IntKind.i64.wrap (m - n)=m - n:=ai _ (by omega) (by omega)
     have hw2:IntKind.i64.wrap (n+x.rnodes (m - n))=n+x.rnodes (m - n):=ai _ (by omega) (by omega)
     refine .inr ⟨n+x.rnodes (m - n),?_,by omega,by simp [Tm.rnodesL,hn]⟩
     rw [aF]
     simp [io,e1,e3,hx,aa,hc,hw,hw1,hw2,hn]
    ·refine .inl ⟨?_,by simp⟩
     rw [aF]
     simp [io,e1,e3,hn,Tm.rnodesL]) 0 1 (by omega) ⟨by omega,by omega⟩
  simp at hlo
  have hw:IntKind.i64.wrap (m+1)=m+1:=ai _ (by omega) (by omega)
  simp [qv,hlo,hw]
theorem bN (t:Tm) (h:t.ok):az TT HH [] bt [t.enc] []=some (.ret (.b t.proper),[]):=by
 rw [zF]
 have h1:=au (so t h 600 (by omega) (by omega)) (by simp) (by simp)
 have h2:=au (wZ t h 1 (by omega) (by omega)) (by simp) (by simp)
 have h3:=ym t 600 (by omega)
 have h4:decide (t.rnodes 600≤600)=decide (t.nodes≤600):=decide_eq_decide.2 (by omega)
 simp [lC,h1,h2,h4,aa,bH,a8]
 repeat' ((first|refine bJ ?_ ?_|refine bn ?_ ?_|refine bK ?_ ?_|refine bI ?_ ?_|refine bo ?_ ?_)<;>intro h<;>(try simp only [decide_eq_true_eq,decide_eq_false_iff_not,Bool.not_eq_true] at h)<;>simp [h,lC,h1,h2,h4,aa,bH,a8])
 all_goals (simp_all [Tm.proper]<;>omega)
end Go.Ev

namespace Go.Ev
def und (op i:Int):Int:=if op=3∨(op=2∧i=1) then 1 else 0
theorem fb (t:Tm) (i:Int):t.under i=und t.op i:=rfl
theorem iX (op i:Int):0≤und op i:=by unfold und; split<;>omega
theorem kz (op i:Int):und op i≤1:=by unfold und; split<;>omega
mutual
def Tm.nds:Tm→Int→List (Tm×Int)
 | .mk op hd n args,b=>(.mk op hd n args,b)::Tm.ndsL op args 0 b
def Tm.ndsL (op:Int):List Tm→Int→Int→List (Tm×Int)
 | [],_,_=>[]
 | t::r,i,b=>t.nds (b+und op i)++Tm.ndsL op r (i+1) b
end
theorem qI:∀ (t:Tm) (b:Int),t.nds b=(t,b)::Tm.ndsL t.op t.args 0 b
 | .mk _ _ _ _,_=>by rw [Tm.nds]; rfl
mutual
theorem p9:∀ (t:Tm) (b:Int),(t.nds b).length=t.nodes
 | .mk op hd n args,b=>by rw [Tm.nds,Tm.nodes,List.length_cons,GM args op 0 b,Nat.add_comm]
theorem GM:∀ (l:List Tm) (op i b:Int),(Tm.ndsL op l i b).length=Tm.nodesL l
 | [],_,_,_=>rfl
 | t::r,op,i,b=>by rw [Tm.ndsL,Tm.nodesL,List.length_append,p9 t,GM r]
end
mutual
theorem Cc:∀ (t:Tm) (b d:Int),t.formed d=true→b<d→∀ x∈t.nds b,lg x.1.op x.1.hd x.1.n x.1.args.length=true∧b≤x.2∧x.2 - b≤40 - d
 | .mk op hd n args,b,d,hf,hb,x,hx=>by
  rw [Tm.formed] at hf
  simp only [Bool.and_eq_true,decide_eq_true_eq] at hf
  rw [Tm.nds] at hx
  rcases List.mem_cons.1 hx with rfl|hx
  ·exact ⟨hf.2.1,by simp,by simp; omega⟩
  ·have:=zn args op 0 b (d+1) hf.2.2 (by omega) x hx
   exact ⟨this.1,this.2.1,by omega⟩
theorem zn:∀ (l:List Tm) (op i b d:Int),Tm.formedL l d=true→b+1<d→∀ x∈Tm.ndsL op l i b,lg x.1.op x.1.hd x.1.n x.1.args.length=true∧b≤x.2∧x.2 - b≤40 - d+1
 | [],op,i,b,d,hf,hb,x,hx=>by cases hx
 | t::r,op,i,b,d,hf,hb,x,hx=>by
  rw [Tm.formedL] at hf
  simp only [Bool.and_eq_true] at hf
  have h0:=iX op i
  have h1:=kz op i
  rw [Tm.ndsL] at hx
  rcases List.mem_append.1 hx with hx|hx
  ·have:=Cc t (b+und op i) d hf.1 (by omega) x hx
   exact ⟨this.1,by omega,by omega⟩
  ·exact zn r op (i+1) b d hf.2 hb x hx
end
theorem kA {t:Tm} {b d:Int} (h:t.formed d=true) (hb:b<d) {x:Tm×Int} (hx:x∈t.nds b):lg x.1.op x.1.hd x.1.n x.1.args.length=true∧b≤x.2∧x.2 - b≤40 - d:=Cc t b d h hb x hx
mutual
def Tm.moved:Tm→Int→Int→Tm
 | .mk op hd n args,k,f=>.mk op hd (if op=4∧hd=1∧f≤n then n+k else n) (Tm.movedL op args 0 k f)
def Tm.movedL (op:Int):List Tm→Int→Int→Int→List Tm
 | [],_,_,_=>[]
 | t::r,i,k,f=>t.moved k (f+und op i)::Tm.movedL op r (i+1) k f
end
theorem uw:∀ (t:Tm) (k f:Int),t.moved k f=.mk t.op t.hd (if t.op=4∧t.hd=1∧f≤t.n then t.n+k else t.n) (Tm.movedL t.op t.args 0 k f)
 | .mk _ _ _ _,_,_=>by rw [Tm.moved]; rfl
theorem qJ:∀ (l:List Tm) (op i k f:Int),(Tm.movedL op l i k f).length=l.length
 | [],_,_,_,_=>rfl
 | _::r,op,i,k,f=>by rw [Tm.movedL,List.length_cons,List.length_cons,qJ r]
mutual
theorem ux:∀ (t:Tm) (k f:Int),(t.moved k f).nodes=t.nodes
 | .mk op hd n args,k,f=>by rw [Tm.moved,Tm.nodes,Tm.nodes,w3 args]
theorem w3:∀ (l:List Tm) (op i k f:Int),Tm.nodesL (Tm.movedL op l i k f)=Tm.nodesL l
 | [],_,_,_,_=>rfl
 | t::r,op,i,k,f=>by rw [Tm.movedL,Tm.nodesL,Tm.nodesL,ux t,w3 r]
end
def isV (k:Int) (x:Tm×Int):Bool:=decide (x.1.op=4) && (decide (x.1.hd=1) && decide (x.1.n=x.2+k))
mutual
theorem w4:∀ (t:Tm) (f d:Int),0≤f→t.formed d=true→(t.nds f).all (fun x=>!isV 0 x)=true→(t.moved (-1) f).formed d=true
 | .mk op hd n args,f,d,h0,hf,hv=>by
  rw [Tm.formed] at hf
  simp only [Bool.and_eq_true,decide_eq_true_eq] at hf
  rw [Tm.nds,List.all_cons] at hv
  simp only [Bool.and_eq_true] at hv
  rw [Tm.moved,Tm.formed,qJ,vC args op 0 f (d+1) h0 hf.2.2 hv.2]
  simp only [hf.1,decide_true,Bool.true_and,Bool.and_true]
  have h1:=hf.2.1
  have h2:=hv.1
  by_cases hc:op=4∧hd=1∧f≤n
  ·rw [if_pos hc]
   obtain ⟨rfl,rfl,hc⟩:=hc
   simp [lg,isV] at h1 h2 ⊢
   omega
  ·rw [if_neg hc]; exact h1
theorem vC:∀ (l:List Tm) (op i f d:Int),0≤f→Tm.formedL l d=true→(Tm.ndsL op l i f).all (fun x=>!isV 0 x)=true→Tm.formedL (Tm.movedL op l i (-1) f) d=true
 | [],_,_,_,_,_,_,_=>rfl
 | t::r,op,i,f,d,h0,hf,hv=>by
  rw [Tm.formedL] at hf
  simp only [Bool.and_eq_true] at hf
  rw [Tm.ndsL,List.all_append] at hv
  simp only [Bool.and_eq_true] at hv
  have hu:=iX op i
  rw [Tm.movedL,Tm.formedL,w4 t _ d (by omega) hf.1 hv.1,vC r op (i+1) f d h0 hf.2 hv.2]
  rfl
end
mutual
theorem AD:∀ (t:Tm) (b k:Int),t.nds (b+k)=(t.nds b).map fun x=>(x.1,x.2+k)
 | .mk op hd n args,b,k=>by rw [Tm.nds,Tm.nds,List.map_cons,GN args op 0 b k]
theorem GN:∀ (l:List Tm) (op i b k:Int),Tm.ndsL op l i (b+k)=(Tm.ndsL op l i b).map fun x=>(x.1,x.2+k)
 | [],_,_,_,_=>rfl
 | t::r,op,i,b,k=>by
  rw [Tm.ndsL,Tm.ndsL,List.map_append,← AD t,GN r op (i+1) b k]
  congr 2; omega
end
def vo:List Int→Int→List Int
 | [],n=>[n]
 | a::r,n=>if a<n then a::vo r n else if a=n then a::r else n::a::r
theorem GP (l:List Int) (n x:Int):x∈vo l n ↔ x∈l∨x=n:=by
 induction l with
 | nil=>simp [vo]
 | cons a r ih =>
  unfold vo
  split
  ·simp [ih,or_assoc]
  ·split
   ·subst_vars; simp only [List.mem_cons]; constructor<;>intro h<;>(rcases h with h|h<;>simp_all)
   ·simp only [List.mem_cons]; constructor<;>intro h<;>(rcases h with h|h|h<;>simp_all)
theorem GQ (l:List Int) (n:Int):(vo l n).length≤l.length+1:=by
 induction l with
 | nil=>simp [vo]
 | cons a r ih =>
  unfold vo
  split
  ·simp; omega
  ·split<;>simp
theorem GR {l:List Int} (n:Int) (h:l.Pairwise (·<·)):(vo l n).Pairwise (·<·):=by
 induction l with
 | nil=>simp [vo]
 | cons a r ih =>
  unfold vo
  obtain ⟨h1,h2⟩:=List.pairwise_cons.1 h
  split
  ·rename_i han
   refine List.pairwise_cons.2 ⟨fun x hx=>?_,ih h2⟩
   rcases (GP r n x).1 hx with h3|rfl
   ·exact h1 x h3
   ·exact han
  ·split
   ·exact h
   ·refine List.pairwise_cons.2 ⟨fun x hx=>?_,h⟩
    rcases List.mem_cons.1 hx with rfl|h3
    ·omega
    ·have:=h1 x h3; omega
theorem Pm {l:List Int} (h:l.Pairwise (·<·)) (hl:l≠[]) (n:Int):l.getLast hl<n ↔ ∀ x∈l,x<n:=by
 induction l with
 | nil=>exact absurd rfl hl
 | cons a r ih =>
  obtain ⟨h1,h2⟩:=List.pairwise_cons.1 h
  by_cases hr:r=[]
  ·subst hr; simp
  ·rw [List.getLast_cons hr,ih h2 hr]
   refine ⟨fun g x hx=>?_,fun g x hx=>g x (by simp [hx])⟩
   rcases List.mem_cons.1 hx with rfl|hx
   ·have h3:=List.getLast_mem hr
    have:=h1 _ h3
    have:=g _ h3
    omega
   ·exact g x hx
def cD (head:Int) (x:Tm×Int):Option Int :=
 if x.1.op=4∧x.1.hd=head then (if head≠1 then some x.1.n else if x.2≤x.1.n then some (x.1.n - x.2) else none) else none
def nJ (head:Int) (l:List Int) (x:Tm×Int):List Int:=match cD head x with
 | some n=>vo l n
 | none=>l
def cY (head:Int) (ns:List (Tm×Int)) (l:List Int):List Int:=ns.foldl (nJ head) l
theorem Kz (head:Int) (l:List Int):cY head [] l=l:=rfl
theorem KA (head:Int) (a b:List (Tm×Int)) (l:List Int):cY head (a++b) l=cY head b (cY head a l):=List.foldl_append ..
theorem tp (head:Int) (a:Tm×Int) (b:List (Tm×Int)) (l:List Int):cY head (a::b) l=cY head b (nJ head l a):=rfl
theorem sq (head:Int) (ns:List (Tm×Int)):∀ l,(cY head ns l).length≤l.length+ns.length:=by
 induction ns with
 | nil=>intro l; simp [cY]
 | cons a r ih =>
  intro l
  rw [tp]
  have h1:=ih (nJ head l a)
  have h2:(nJ head l a).length≤l.length+1:=by
   unfold nJ
   split
   ·exact GQ ..
   ·omega
  simp; omega
theorem Fk (head:Int) (ns:List (Tm×Int)):∀ l,l.Pairwise (·<·)→(cY head ns l).Pairwise (·<·):=by
 induction ns with
 | nil=>intro l h; exact h
 | cons a r ih =>
  intro l h
  rw [tp]
  refine ih _ ?_
  unfold nJ
  split
  ·exact GR _ h
  ·exact h
theorem u4 (head:Int) (ns:List (Tm×Int)):∀ l x,x∈cY head ns l ↔ x∈l∨∃ y∈ns,cD head y=some x:=by
 induction ns with
 | nil=>intro l x; simp [cY]
 | cons a r ih =>
  intro l x
  rw [tp,ih]
  unfold nJ
  cases h:cD head a with
  | none=>simp [h]
  | some n =>
   simp only [GP,List.mem_cons,exists_eq_or_imp,h,Option.some.injEq]
   constructor
   ·rintro ((h1|rfl)|h1)
    ·exact .inl h1
    ·exact .inr (.inl rfl)
    ·exact .inr (.inr h1)
   ·rintro (h1|rfl|h1)
    ·exact .inl (.inl h1)
    ·exact .inl (.inr rfl)
    ·exact .inr h1
def yn (l:List Int) (n:Int):Bool:=match l.getLast? with
 | some x=>decide (x<n)
 | none=>true
theorem Fl (head:Int) (ns:List (Tm×Int)) (n:Int):yn (cY head ns []) n=ns.all fun x=>match cD head x with|some k=>decide (k<n)|none=>true:=by
 have hs:=Fk head ns [] List.Pairwise.nil
 have hm:=u4 head ns []
 have key:yn (cY head ns []) n=true ↔ ∀ x∈cY head ns [],x<n:=by
  unfold yn
  by_cases hl:cY head ns []=[]
  ·simp [hl]
  ·rw [List.getLast?_eq_some_getLast hl]
   simp only [decide_eq_true_eq]
   exact Pm hs hl n
 rw [Bool.eq_iff_iff,key,List.all_eq_true]
 constructor
 ·intro h x hx
  cases hv:cD head x with
  | none=>rfl
  | some k=>exact decide_eq_true (h k ((hm k).2 (.inr ⟨x,hx,hv⟩)))
 ·intro h x hx
  rcases (hm x).1 hx with h1|⟨y,hy,hv⟩
  ·cases h1
  ·have:=h y hy
   rw [hv] at this
   exact of_decide_eq_true this
theorem zo (head:Int) (ns:List (Tm×Int)):decide (cY head ns []=[])=ns.all fun x=>(cD head x).isNone:=by
 have hm:=u4 head ns []
 rw [Bool.eq_iff_iff,decide_eq_true_eq,List.all_eq_true,List.eq_nil_iff_forall_not_mem]
 constructor
 ·intro h x hx
  cases hv:cD head x with
  | none=>rfl
  | some k=>exact absurd ((hm k).2 (.inr ⟨x,hx,hv⟩)) (h k)
 ·intro h x hx
  rcases (hm x).1 hx with h1|⟨y,hy,hv⟩
  ·cases h1
  ·have:=h y hy
   rw [hv] at this
   cases this
def Tm.doms:Nat→Tm→List Tm
 | 0,_=>[]
 | k+1,t=>if t.op=2 then (match t.args with|[a,b]=>a::Tm.doms k b|_=>[]) else []
def Tm.core:Nat→Tm→Tm
 | 0,t=>t
 | k+1,t=>if t.op=2 then (match t.args with|[_,b]=>Tm.core k b|_=>t) else t
theorem cz {t:Tm} {d:Int} (h:t.formed d=true) (h2:t.op=2):∃ a b,t.args=[a,b]∧a.formed (d+1)=true∧b.formed (d+1)=true:=by
 rw [nY] at h
 simp only [Bool.and_eq_true,decide_eq_true_eq] at h
 obtain ⟨_,h3,h4⟩:=h
 simp [lg,h2] at h3
 match hl:t.args,h3 with
 | [a,b],_ =>
  rw [hl] at h4
  simp only [Tm.formedL,Bool.and_eq_true] at h4
  exact ⟨a,b,rfl,h4.1,h4.2.1⟩
 | [],h=>simp [hl] at h
 | [_],h=>simp [hl] at h
 | _::_::_::_,h=>simp [hl] at h; omega
theorem u5 {t a b:Tm} (h:t.op=2) (ha:t.args=[a,b]) (k:Nat):Tm.doms (k+1) t=a::Tm.doms k b:=by simp [Tm.doms,h,ha]
theorem mw {t a b:Tm} (h:t.op=2) (ha:t.args=[a,b]) (k:Nat):Tm.core (k+1) t=Tm.core k b:=by simp [Tm.core,h,ha]
theorem w5 {t:Tm} (h:t.op≠2) (k:Nat):Tm.doms k t=[]:=by cases k<;>simp [Tm.doms,h]
theorem oZ {t:Tm} (h:t.op≠2) (k:Nat):Tm.core k t=t:=by cases k<;>simp [Tm.core,h]
theorem lh (k:Nat):∀ t:Tm,(Tm.doms k t).length≤k:=by
 induction k with
 | zero=>intro t; simp [Tm.doms]
 | succ k ih =>
  intro t
  unfold Tm.doms
  split
  ·split
   ·rename_i a b _
    have:=ih b; simp; omega
   ·simp
  ·simp
end Go.Ev

namespace Go.Ev
def fd (sig:List Dc) (n:Int):Bool:=match sig[n.toNat]? with
 | some d=>decide ((Tm.core 40 d.class_).op=1)
 | none=>false
def clN (m:Int) (x:Tm×Int):Bool:=!decide (x.1.op=4) || (!decide (x.1.hd=3) && (!decide (x.1.hd=1) || decide (x.1.n<x.2)) && (!decide (x.1.hd=2) || decide (x.1.n<m)))
def clT (t:Tm) (m:Int):Bool:=(t.nds 0).all (clN m)
def tgt (before:List Dc) (t:Tm):Bool:=decide (t.op=1) || (decide (t.op=4) && (decide (t.hd=2) && fd before t.n))
def okD (before:List Dc) (d:Dc):Bool :=
 d.class_.proper && wT d.name && decide (0≤d.imp) && decide (d.imp≤(Tm.doms 40 d.class_).length) && clT d.class_ before.length && tgt before (Tm.core 40 d.class_)
def sgF (before:List Dc):List Dc→Bool
 | []=>true
 | d::r=>okD before d && !(before.any fun x=>decide (x.name=d.name)) && sgF (before++[d]) r
def fD (sig:List Dc):Bool:=decide (sig.length≤100) && sgF [] sig
theorem KB (t:Tm) (m:Int):clT t m=(decide (cY 1 (t.nds 0) []=[]) && decide (cY 3 (t.nds 0) []=[]) && yn (cY 2 (t.nds 0) []) m):=by
 rw [zo,zo,Fl,clT,Bool.eq_iff_iff]
 simp only [Bool.and_eq_true,List.all_eq_true]
 constructor
 ·intro h
  refine ⟨⟨fun x hx=>?_,fun x hx=>?_⟩,fun x hx=>?_⟩ <;>
  ·have:=h x hx
   simp only [clN,cD] at this ⊢
   repeat' split<;>simp_all
   all_goals omega
 ·rintro ⟨⟨h1,h2⟩,h3⟩ x hx
  have h1:=h1 x hx
  have h2:=h2 x hx
  have h3:=h3 x hx
  simp only [clN,cD] at h1 h2 h3 ⊢
  by_cases a:x.1.op=4<;>by_cases b:x.1.hd=1<;>by_cases c:x.1.hd=2<;>by_cases d:x.1.hd=3<;>simp [a,b,c,d] at h1 h2 h3 ⊢<;>omega
def occ (t:Tm) (k:Int):Bool:=(t.nds 0).any (isV k)
mutual
def Rw.nodes:Rw→Nat
 | .mk _ _ args=>1+Rw.nodesL args
def Rw.nodesL:List Rw→Nat
 | []=>0
 | t::r=>t.nodes+Rw.nodesL r
end
def RI (op:Int) (name:ByteArray) (len:Int):Bool :=
 ((decide (op=1) || decide (op=3)) && (decide (len=0) && decide (name=ByteArray.empty))) ||
 (decide (op=2) && (decide (len=0) && T0 name)) ||
 ((decide (op=4) || decide (op=6)) && (decide (len=2) && decide (name=ByteArray.empty))) ||
 ((decide (op=5) || decide (op=7)) && (decide (len=2) && T0 name))
mutual
def Rw.formed:Rw→Int→Bool
 | .mk op name args,d=>decide (d≤40) && (RI op name args.length && Rw.formedL args (d+1))
def Rw.formedL:List Rw→Int→Bool
 | [],_=>true
 | t::r,d=>t.formed d && Rw.formedL r d
end
def wide (op:Int):Bool:=decide (op=6) || decide (op=5) || decide (op=7)
end Go.Ev

namespace Go.Ev
theorem GS:∀ (k:Nat) (t:Tm) (d:Int),t.formed d=true→41 - d≤k→(Tm.core k t).op≠2:=by
 intro k
 induction k with
 | zero =>
  intro t d h hk
  rw [nY] at h
  simp only [Bool.and_eq_true,decide_eq_true_eq] at h
  omega
 | succ k ih =>
  intro t d h hk
  by_cases h2:t.op=2
  ·obtain ⟨a,b,hl,_,hb⟩:=cz h h2
   rw [mw h2 hl]
   exact ih b (d+1) hb (by push_cast at hk; omega)
  ·rw [oZ h2]; exact h2
theorem GT:∀ (k:Nat) (t:Tm) (d:Int),t.formed d=true→∃ d',(Tm.core k t).formed d'=true:=by
 intro k
 induction k with
 | zero=>intro t d h; exact ⟨d,h⟩
 | succ k ih =>
  intro t d h
  by_cases h2:t.op=2
  ·obtain ⟨a,b,hl,_,hb⟩:=cz h h2
   rw [mw h2 hl]
   exact ih b (d+1) hb
  ·rw [oZ h2]; exact ⟨d,h⟩
theorem fw {t:Tm} {d:Int} (h:t.formed d=true):lg t.op t.hd t.n t.args.length=true:=by
 rw [nY] at h
 simp only [Bool.and_eq_true] at h
 exact h.2.1
theorem jq {op hd n l:Int} (h:lg op hd n l=true) (h4:op=4):1≤hd∧hd≤3∧0≤n∧n≤9999:=by
 subst h4; simpa [lg,and_assoc] using h
theorem ar {t:Tm} (h:t.proper=true):t.formed 1=true:=by
 simp only [Tm.proper,Bool.and_eq_true] at h; exact h.2
theorem aI {t:Tm} (h:t.proper=true):t.nodes≤600:=by
 simp only [Tm.proper,Bool.and_eq_true,decide_eq_true_eq] at h; exact h.1
theorem GU:∀ (k:Nat) (t:Tm) (b:Int),∃ c,(Tm.core k t,c)∈t.nds b:=by
 intro k
 induction k with
 | zero=>intro t b; exact ⟨b,by rw [qI]; exact List.mem_cons_self ..⟩
 | succ k ih =>
  intro t b
  unfold Tm.core
  split
  ·split
   ·rename_i x y hl
    obtain ⟨c,hc⟩:=ih y (b+und t.op (0+1))
    refine ⟨c,?_⟩
    rw [qI,hl,Tm.ndsL,Tm.ndsL]
    simp only [List.mem_cons,List.mem_append]
    exact .inr (.inr (.inl hc))
   ·exact ⟨b,by rw [qI]; exact List.mem_cons_self ..⟩
  ·exact ⟨b,by rw [qI]; exact List.mem_cons_self ..⟩
theorem yo (t:Tm):1≤t.nodes:=by rw [en]; omega
theorem dJ {t x:Tm} (h:x∈t.args):x.nodes+1≤t.nodes:=by
 have h1:=en t; have h2:=IB h; omega
theorem cR {t x:Tm} {d:Int} (h:t.formed d=true) (hx:x∈t.args):x.formed (d+1)=true:=by
 rw [nY] at h
 simp only [Bool.and_eq_true] at h
 exact formedL_mem.1 h.2.2 x hx
theorem dK {t:Tm} {d:Int} (h:t.formed d=true):d≤40:=by
 rw [nY] at h
 simp only [Bool.and_eq_true,decide_eq_true_eq] at h
 exact h.1
mutual
theorem jW:∀ (t:Tm) (d e:Int),e≤d→t.formed d=true→t.formed e=true
 | .mk op hd n args,d,e,h,hf=>by
  rw [Tm.formed] at hf ⊢
  simp only [Bool.and_eq_true,decide_eq_true_eq] at hf ⊢
  exact ⟨by omega,hf.2.1,w6 args (d+1) (e+1) (by omega) hf.2.2⟩
theorem w6:∀ (l:List Tm) (d e:Int),e≤d→Tm.formedL l d=true→Tm.formedL l e=true
 | [],_,_,_,_=>rfl
 | t::r,d,e,h,hf=>by
  rw [Tm.formedL] at hf ⊢
  simp only [Bool.and_eq_true] at hf ⊢
  exact ⟨jW t d e h hf.1,w6 r d e h hf.2⟩
end
theorem aR {t x:Tm} (h:t.proper=true) (hx:x∈t.args):x.proper=true:=by
 have h1:=aI h
 have h2:=dJ hx
 have h3:=jW x 2 1 (by omega) (cR (ar h) hx)
 simp only [Tm.proper,Bool.and_eq_true,decide_eq_true_eq]
 exact ⟨by omega,h3⟩
theorem Pn:∀ (l b:List Dc),sgF b l=true→∀ d∈l,d.class_.proper=true∧wT d.name=true∧0≤d.imp:=by
 intro l
 induction l with
 | nil=>intro b h d hd; cases hd
 | cons x r ih =>
  intro b h d hd
  simp only [sgF,Bool.and_eq_true] at h
  rcases List.mem_cons.1 hd with rfl|hd
  ·have:=h.1.1
   simp only [okD,Bool.and_eq_true,decide_eq_true_eq] at this
   exact ⟨this.1.1.1.1.1,this.1.1.1.1.2,this.1.1.1.2⟩
  ·exact ih _ h.2 d hd
theorem nZ {l:List Dc} (h:fD l=true) {d:Dc} (hd:d∈l):d.class_.proper=true∧wT d.name=true∧0≤d.imp:=by
 simp only [fD,Bool.and_eq_true] at h
 exact Pn l [] h.2 d hd
theorem KC {l:List Dc} (h:fD l=true):l.length≤100:=by
 simp only [fD,Bool.and_eq_true,decide_eq_true_eq] at h
 exact h.1
end Go.Ev

namespace Go.Ev
noncomputable section
section
variable {T:FuncId→Option IF} {H:gk} {α:Type}
theorem Po {f:FuncId} {h:List PV→Sto→Option (Out×Sto)} (hH:H f=some h) (hf:f<YB) {args:List PV} (h1:below.belowAll 0 args=false) (h2:below.belowAll 0 (norm.normAll args)=false) (bars:List Nat) (σ:Sto):RR T H bars f args σ=h args σ:=by
 rw [aX h1 h2,uX,body,if_neg (Nat.not_le.2 hf),hH]
theorem Nh (bars:List Nat) (l:Nat) (args:List PV) (σ:Sto):RR T H bars (YB+l) args σ=nM (RR T H) fI bars l args σ:=by
 unfold RR
 rw [Gw,uX,body,if_pos (Nat.le_add_right ..),Nat.add_sub_cancel_left]
def kR2 (l n:Nat):KT (Out×Sto):=fun e _ σ2=>match σ2[l]? with
 | some (.loop env' ps' a' b' 1 none)=>(DE e).bind fun p=>some (.ret (.b p.isNone),(σ2.set l (.loop env' ps' a' b' (if p.isNone then 0 else 2) p)).take n)
 | _=>none
def kR1 (T:FuncId→Option IF) (H:gk) (bars:List Nat) (l n:Nat) (bd:IC):KT (Out×Sto):=fun x env1 σ1=>match x with
 | .norm=>match σ1[l]? with
  | some (.loop env' ps' a' b' 0 none)=>EK T H (n::bars) bd env1 (σ1.set l (.loop env' ps' a' b' 1 none)) (kR2 l n)
  | _=>none
 | _=>none
theorem Ni {bars:List Nat} {l n:Nat} {bd:IC} {env1:Env} {σ1:Sto} {env' ps' a' b'} (h:σ1[l]? = some (.loop env' ps' a' b' 0 none)):kR1 T H bars l n bd .norm env1 σ1=EK T H (n::bars) bd env1 (σ1.set l (.loop env' ps' a' b' 1 none)) (kR2 l n):=by
 unfold kR1; simp only [h]
theorem Nj {l n:Nat} {env:Env} {σ2:Sto} {env' ps' a' b'} (h:σ2[l]? = some (.loop env' ps' a' b' 1 none)):kR2 l n .norm env σ2=some (.ret (.b true),(σ2.set l (.loop env' ps' a' b' 0 none)).take n):=by
 unfold kR2; rw [h]; rfl
theorem Nk {bars:List Nat} {l:Nat} {args:List PV} {σ:Sto} {env:Env} {ps:List Nat} {asg bd:IC} (h:σ[l]? = some (.loop env ps asg bd 0 none)) (hl:args.length=ps.length) :
  RR T H bars (YB+l) args σ=EK T H (σ.length::bars) asg (lm ps args env) σ (kR1 T H bars l σ.length bd):=by
 rw [Nh,nM,h]
 simp only []
 rw [if_pos hl]
 unfold EK bX kR1 E
 rcases evC (RR T H) fI (σ.length::bars) asg (lm ps args env) σ with _|⟨x,e,s⟩
 ·rfl
 cases x with
 | norm =>
  simp only []
  rcases hs:s[l]? with _|ob
  ·rfl
  cases ob with
  | loop env' ps' a' b' st pend =>
   cases st with
   | zero =>
    cases pend with
    | none =>
     simp only []
     unfold EK bX kR2 E
     rcases evC (RR T H) fI (σ.length::bars) bd e (s.set l (.loop env' ps' a' b' 1 none)) with _|⟨y,e2,s2⟩
     ·rfl
     ·rfl
    | some p=>rfl
   | succ n=>rfl
  | _=>rfl
 | _=>rfl
theorem AE {b:List Nat} {f:Opd} {ps keep:List Nat} {asg bd:IC} {env:Env} {σ:Sto} {K:KT α} {g:FuncId} {cap:List PV} {v:PV} {σ':Sto} {env' ps' a' b' st pend e} (hf:ev env f=some (.fn (.func g) cap)) (hg:g<YB)
  (hr:RR T H b g (.yld σ.length::cap) (σ++[.loop (restrict keep env) ps asg bd 0 none])=some (.ret v,σ')) (hl:σ'[σ.length]? = some (.loop env' ps' a' b' st pend)) (he:sc st pend=some e) :
  EK T H b (.rfunc f ps keep asg bd) env σ K=K e env (σ'.set σ.length (.loop env' ps' a' b' 3 pend)):=by
 unfold EK
 rw [OP,hf]
 simp only []
 rw [if_pos hg,hr]
 simp only []
 rw [hl]
 simp only [he]
 rfl
end
end
end Go.Ev

namespace Go.Ev
theorem aw {σ:Sto} {p:Nat} (l:Sto) (h:σ.length≤p):(σ++l)[p]? = l[p - σ.length]?:=List.getElem?_append_right h
theorem ax {σ:Sto} {p:Nat} (l:Sto) (x:Ob) (h:σ.length≤p):(σ++l).set p x=σ++l.set (p - σ.length) x:=List.set_append_right _ _ h
theorem ay {σ:Sto} {p:Nat} (x:Ob) (h:p<σ.length):(σ.set p x)[p]? = some x:=List.getElem?_set_self h
theorem ag {σ:Sto} (l:Sto):(σ++l).take σ.length=σ:=List.take_left
theorem af {σ:Sto} (l:Sto) (k:Nat):(σ++l).take (σ.length+k)=σ++l.take k:=by rw [List.take_append,List.take_of_length_le (by omega)]; congr 2; omega
theorem take_set {σ:Sto} {p:Nat} (x:Ob) (l:Sto):(σ.set p x++l).take σ.length=σ.set p x:=List.take_left' (by simp)
theorem ae {σ:Sto} {p:Nat} (x:Ob) (l:Sto) (k:Nat):(σ.set p x++l).take (σ.length+k)=σ.set p x++l.take k:=by rw [List.take_append,List.take_of_length_le (by simp)]; congr 2; simp
mutual
def Tm.pr:Tm→Int→Int→Bool×Int
 | .mk op hd n args,d,c=>if 600<c+1∨40<d then (false,c+1) else Tm.prL args (d+1) (c+1) (lg op hd n args.length)
def Tm.prL:List Tm→Int→Int→Bool→Bool×Int
 | [],_,c,ok=>(ok,c)
 | t::r,d,c,ok=>if ok then Tm.prL r d (t.pr d c).2 (t.pr d c).1 else (false,c)
end
theorem RJ:∀ (t:Tm) (d c:Int),t.pr d c=if 600<c+1∨40<d then (false,c+1) else Tm.prL t.args (d+1) (c+1) (lg t.op t.hd t.n t.args.length)
 | .mk _ _ _ _,_,_=>by rw [Tm.pr]; rfl
theorem D5 (l:List Tm) (d c:Int):Tm.prL l d c false=(false,c):=by cases l<;>simp [Tm.prL]
mutual
theorem Nl:∀ (t:Tm) (d c:Int),0≤c→(t.pr d c).1=(decide (c+t.nodes≤600) && t.formed d)∧((t.pr d c).1=true→(t.pr d c).2=c+t.nodes)∧c≤(t.pr d c).2∧(t.pr d c).2≤c+t.nodes
 | .mk op hd n args,d,c,h0=>by
  unfold Tm.pr Tm.formed Tm.nodes
  push_cast
  split
  ·rename_i h
   refine ⟨?_,by simp,by simp; omega,by simp; omega⟩
   rcases h with h|h
   ·have:¬ (c+(1+(Tm.nodesL args:Int))≤600):=by omega
    simp [this]
   ·have:¬ (d≤40):=by omega
    simp [this]
  ·rename_i h
   have h40:d≤40:=by omega
   obtain ⟨h1,h2,h3,h4⟩:=Nm args (d+1) (c+1) (lg op hd n args.length) (by omega) (by omega)
   refine ⟨?_,fun hh=>by have:=h2 hh; omega,by omega,by omega⟩
   rw [h1]
   have e:(c+1+(Tm.nodesL args:Int)≤600)=(c+(1+(Tm.nodesL args:Int))≤600):=by rw [Int.add_assoc]
   simp only [e,h40,decide_true,Bool.true_and]
   cases lg op hd n args.length<;>simp
theorem Nm:∀ (l:List Tm) (d c:Int) (ok:Bool),0≤c→c≤600→(Tm.prL l d c ok).1=(ok && (decide (c+Tm.nodesL l≤600) && Tm.formedL l d))∧((Tm.prL l d c ok).1=true→(Tm.prL l d c ok).2=c+Tm.nodesL l)∧c≤(Tm.prL l d c ok).2∧(Tm.prL l d c ok).2≤c+Tm.nodesL l
 | [],d,c,ok,h0,h1=>by
  unfold Tm.prL Tm.nodesL Tm.formedL
  simp [h1]
 | t::r,d,c,ok,h0,h1=>by
  unfold Tm.prL Tm.nodesL Tm.formedL
  push_cast
  cases ok with
  | false=>simp; omega
  | true =>
   simp only [if_true,Bool.true_and]
   obtain ⟨g1,g2,g3,g4⟩:=Nl t d c h0
   cases hp:(t.pr d c).1 with
   | false =>
    rw [D5]
    rw [hp] at g1
    refine ⟨?_,by simp,by simp; omega,by simp; omega⟩
    by_cases hn:c+t.nodes≤600
    ·simp [hn] at g1
     simp [g1]
    ·have:¬ (c+((t.nodes:Int)+(Tm.nodesL r:Int))≤600):=by omega
     simp [this]
   | true =>
    rw [hp] at g1
    have g2:=g2 hp
    have g1':=g1.symm
    simp only [Bool.and_eq_true,decide_eq_true_eq] at g1'
    rw [g2]
    obtain ⟨k1,k2,k3,k4⟩:=Nm r d (c+t.nodes) true (by omega) (by omega)
    refine ⟨?_,fun hh=>by have:=k2 hh; omega,by omega,by omega⟩
    rw [k1,g1'.2,Int.add_assoc]
    simp
end
theorem KE (t:Tm):(t.pr 1 0).1=t.proper:=by
 rw [(Nl t 1 0 (by omega)).1]
 unfold Tm.proper
 rw [show decide ((0:Int)+(t.nodes:Int)≤600)=decide (t.nodes≤600) from decide_eq_decide.2 (by omega)]
set_option maxHeartbeats 1000000 in
theorem yp:∀ t:Tm,t.ok→∀ (p:Nat) (bars:List Nat) (σ:Sto) (d c:Int),0≤d→d≤41→0≤c→c≤600→σ[p]? = some (.var [.i c])→az TT HH bars gT [t.enc,.i d,.ptr p 0] σ=some (.ret (.b (t.pr d c).1),σ.set p (.var [.i (t.pr d c).2])) :=
 Tm.ind fun t ih hok p bars σ d c h0 h1 h2 h3 hp=>by
  rw [BW,RJ]
  have e3:=ml hok.len
  have hpl:p<σ.length:=bE hp
  have hpl1:p<σ.length+1:=by omega
  have hw:IntKind.i64.wrap (c+1)=c+1:=ai _ (by omega) (by omega)
  by_cases g:600<c+1∨40<d
  ·rw [if_pos g]
   by_cases g1:600<c+1
   ·simp [ga,g1,hw,hp,hpl,-getElem?_pos,List.getElem?_cons_zero,List.getElem?_cons_succ,List.getElem?_nil,ak,aw,aq,ax,ay,ag,af,take_set,ae,aa]
   ·have g2:40<d:=by omega
    simp [ga,g1,g2,hw,hp,hpl,-getElem?_pos,List.getElem?_cons_zero,List.getElem?_cons_succ,List.getElem?_nil,ak,aw,aq,ax,ay,ag,af,take_set,ae,aa]
  rw [if_neg g]
  have g1:¬ 600<c+1:=by omega
  have g2:¬ 40<d:=by omega
  have hlo:=fun ok (o1 o2 o3:Int)=>be (T:=TT) (H:=HH) (b:=σ.length::bars) (A:=iC) t.args
   (fun i (s:Int×Bool)=>([(1,.i d),(2,.ptr p 0),(3,.ptr σ.length 0),(7,.i t.args.length),(8,.b s.2),(9,.i i)],σ.set p (.var [.i s.1])++[.var [.i o1,.i o2,.i o3,.sl false (ab t.args)]]))
   (fun r i s=>(.exit 1,[(8,.b (Tm.prL r (d+1) s.1 s.2).1)],σ.set p (.var [.i (Tm.prL r (d+1) s.1 s.2).2])++[.var [.i o1,.i o2,.i o3,.sl false (ab t.args)]]))
   (fun _ s=>0≤s.1∧(s.2=true→s.1≤600))
   (fun s _=>by
    rw [aF]
    simp [iC,e3,Tm.prL,hpl,-getElem?_pos,List.getElem?_cons_zero,List.getElem?_cons_succ,List.getElem?_nil,ak,aw,aq,ax,ay,ag,af,take_set,ae])
   (fun i x r s hx hm hd hi ⟨q0,q1⟩=>by
    obtain ⟨c,ok⟩:=s
    have e1:(i:Int)<t.args.length:=by omega
    have hw:IntKind.i64.wrap ((i:Int)+1)=(i:Int)+1:=ai _ (by omega) (by omega)
    have hw1:IntKind.i64.wrap (d+1)=d+1:=ai _ (by omega) (by omega)
    cases ok with
    | false =>
     refine .inl ⟨?_,by simp⟩
     rw [aF]
     simp [iC,e1,e3,Tm.prL,hpl,-getElem?_pos,List.getElem?_cons_zero,List.getElem?_cons_succ,List.getElem?_nil,ak,aw,aq,ax,ay,ag,af,take_set,ae]
    | true =>
     have q1:c≤600:=q1 rfl
     obtain ⟨g1,g2,g3,g4⟩:=Nl x (d+1) c q0
     refine .inr ⟨((x.pr (d+1) c).2,(x.pr (d+1) c).1),?_,⟨by simp; omega,fun h=>?_⟩,by simp [Tm.prL]⟩
     ·have hc:∀ bars,RR TT HH bars gT [x.enc,.i (d+1),.ptr p 0] (σ.set p (.var [.i c])++[.var [.i o1,.i o2,.i o3,.sl false (ab t.args)]])=some (.ret (.b (x.pr (d+1) c).1),σ.set p (.var [.i (x.pr (d+1) c).2])++[.var [.i o1,.i o2,.i o3,.sl false (ab t.args)]]):=by
       intro bars
       rw [aX (by simp) (by simp),ih x hm (hok.sub x hm) p bars _ (d+1) c (by omega) (by omega) q0 q1 (by simp [hpl,-getElem?_pos,List.getElem?_cons_zero,List.getElem?_cons_succ,List.getElem?_nil,ak,aw,aq,ax,ay,ag,af,take_set,ae])]
       simp [hpl,-getElem?_pos,List.getElem?_cons_zero,List.getElem?_cons_succ,List.getElem?_nil,ak,aw,aq,ax,ay,ag,af,take_set,ae]
      rw [aF]
      simp [iC,e1,e3,hx,hc,hw,hw1,aa,hpl,hpl1,-getElem?_pos,List.getElem?_cons_zero,List.getElem?_cons_succ,List.getElem?_nil,ak,aw,aq,ax,ay,ag,af,take_set,ae]
     ·simp only at h ⊢
      rw [h] at g1
      have:=g1.symm
      simp only [Bool.and_eq_true,decide_eq_true_eq] at this
      have:=g2 h
      omega) 0 (c+1,ok) (by omega) ⟨by simp; omega,fun _=>by simp; omega⟩
  simp [-Bool.forall_bool] at hlo
  generalize hok':lg t.op t.hd t.n t.args.length=ok at *
  have key:∀ ok',ok'=ok→aE TT HH ga bars [t.enc,.i d,.ptr p 0] σ=some (.ret (.b (Tm.prL t.args (d+1) (c+1) ok').1),σ.set p (.var [.i (Tm.prL t.args (d+1) (c+1) ok').2])):=by
   intro ok' he
   clear ih
   have hl:=D5 t.args (d+1) (c+1)
   simp [ga,g1,g2,hw,hp,hpl,e3,hlo,-getElem?_pos,List.getElem?_cons_zero,List.getElem?_cons_succ,List.getElem?_nil,ak,aw,aq,ax,ay,ag,af,take_set,ae,aa,bH,a8]
   repeat' ((first|refine bJ ?_ ?_|refine bn ?_ ?_|refine bK ?_ ?_|refine bI ?_ ?_|refine bo ?_ ?_)<;>intro h<;>(try simp only [decide_eq_true_eq,decide_eq_false_iff_not,Bool.not_eq_true] at h)<;>simp [h,ga,g1,g2,hw,hp,hpl,e3,hlo,-getElem?_pos,List.getElem?_cons_zero,List.getElem?_cons_succ,List.getElem?_nil,ak,aw,aq,ax,ay,ag,af,take_set,ae,aa,bH,a8])
   all_goals (clear hlo; simp_all [lg])
  exact key ok rfl
theorem bO (t:Tm) (h:t.ok):az TT HH [] ci [t.enc] []=some (.ret (.i (if t.proper then 0 else 2)),[]):=by
 rw [Dh]
 have hc:∀ bars,RR TT HH bars gT [t.enc,.i 1,.ptr 1 0] [.var (Enc.cells t),.var [.i 0]]=some (.ret (.b (t.pr 1 0).1),[.var (Enc.cells t),.var [.i (t.pr 1 0).2]]):=fun bars=>by rw [aX (by simp) (by simp),yp t h 1 bars _ 1 0 (by omega) (by omega) (by omega) (by omega) (by simp)]; rfl
 simp only [fK] at hc
 have hp:=KE t
 simp [oE,hc,hp,aa,bH,a8]
 repeat' ((first|refine bJ ?_ ?_|refine bn ?_ ?_|refine bK ?_ ?_|refine bI ?_ ?_|refine bo ?_ ?_)<;>intro h<;>(try simp only [decide_eq_true_eq,decide_eq_false_iff_not,Bool.not_eq_true] at h)<;>simp [h,oE,hc,hp,aa,bH,a8])
 all_goals simp_all
end Go.Ev

namespace Go.Ev
@[simp] theorem RK (k:Nat) (e:List PV):bV k [e]=decide (e.length=k):=by simp [bV]
theorem w7:∀ (j:Nat) (t:Tm) (d:Int) (l:List Tm) (e:Env),t.formed d=true→41 - d≤j→l.length+j≤1000→bw e 1=some (.ptr 0 0)→bw e 3=some (.ptr 1 0)→bw e 4=some (.ow 2 l.length (ab l)) →
  LO TT HH [0] gF (e,[.var [.i t.op,.i t.hd,.i t.n,.sl false (ab t.args)],.var [.i 0,.i 0,.i 0,.sl true []],.tok 4 l.length]) =
  some (.exit 0,[(1,.ptr 0 0),(3,.ptr 1 0),(4,.ow 2 (l++Tm.doms j t).length (ab (l++Tm.doms j t)))],[.var [.i (Tm.core j t).op,.i (Tm.core j t).hd,.i (Tm.core j t).n,.sl false (ab (Tm.core j t).args)],.var [.i 0,.i 0,.i 0,.sl true []],.tok 4 (l++Tm.doms j t).length]):=by
 intro j
 induction j with
 | zero=>intro t d l e h hj hl k1 k3 k4; have:=dK h; omega
 | succ j ih =>
  intro t d l e h hj hl k1 k3 k4
  by_cases h2:t.op=2
  ·obtain ⟨a,b,hab,ha,hb⟩:=cz h h2
   have hl1:l.length+1≤LIM:=by unfold LIM; omega
   have hth:=ih b (d+1) (l++[a]) [(1,.ptr 0 0),(3,.ptr 1 0),(4,.ow 2 (l++[a]).length (ab (l++[a])))] hb (by omega) (by simp; omega) rfl rfl rfl
   simp only [List.length_append,List.length_cons,List.length_nil,Nat.zero_add,List.append_assoc,List.cons_append,List.nil_append] at hth
   rw [aP,aF,u5 h2 hab,mw h2 hab]
   generalize LO TT HH [0] gF=F at hth ⊢
   simp [gF,h2,hab,hl1,hth,aB,k1,k3,k4]
  ·rw [aP,aF,w5 h2,oZ h2]
   simp [gF,h2,k1,k3,k4]
theorem dX (t:Tm) (h:t.formed 1=true):az TT HH [] cF [t.enc] []=some (.ret (.tup [.sl false (ab (Tm.doms 40 t)),(Tm.core 40 t).enc]),[]):=by
 rw [zC]
 have hlo:=fun e=>w7 40 t 1 [] e h (by omega) (by simp)
 simp at hlo
 simp [pf,hlo,aa]
theorem yq:∀ (j:Nat) (t:Tm) (d:Int) (l:List Tm) (e:Env),t.formed d=true→41 - d≤j→l.length+j≤1000→bw e 1=some (.ptr 0 0)→bw e 3=some (.ptr 1 0)→bw e 4=some (.ow 2 l.length (ab l)) →
  LO TT HH [0] im (e,[.var [.i t.op,.i t.hd,.i t.n,.sl false (ab t.args)],.var [.i 0,.i 0,.i 0,.sl true []],.tok 4 l.length]) =
  some (.exit 0,[(1,.ptr 0 0),(3,.ptr 1 0),(4,.ow 2 (l++Tm.doms j t).length (ab (l++Tm.doms j t)))],[.var [.i (Tm.core j t).op,.i (Tm.core j t).hd,.i (Tm.core j t).n,.sl false (ab (Tm.core j t).args)],.var [.i 0,.i 0,.i 0,.sl true []],.tok 4 (l++Tm.doms j t).length]):=by
 intro j
 induction j with
 | zero=>intro t d l e h hj hl k1 k3 k4; have:=dK h; omega
 | succ j ih =>
  intro t d l e h hj hl k1 k3 k4
  by_cases h2:t.op=2
  ·obtain ⟨a,b,hab,ha,hb⟩:=cz h h2
   have hl1:l.length+1≤LIM:=by unfold LIM; omega
   have hth:=ih b (d+1) (l++[a]) [(1,.ptr 0 0),(3,.ptr 1 0),(4,.ow 2 (l++[a]).length (ab (l++[a])))] hb (by omega) (by simp; omega) rfl rfl rfl
   simp only [List.length_append,List.length_cons,List.length_nil,Nat.zero_add,List.append_assoc,List.cons_append,List.nil_append] at hth
   rw [aP,aF,u5 h2 hab,mw h2 hab]
   generalize LO TT HH [0] im=F at hth ⊢
   simp [im,h2,hab,hl1,hth,aB,k1,k3,k4]
  ·rw [aP,aF,w5 h2,oZ h2]
   simp [im,h2,k1,k3,k4]
theorem kB (t:Tm) (h:t.formed 1=true):az TT HH [] gP [t.enc] []=some (.ret (.tup [.sl false (ab (Tm.doms 40 t)),(Tm.core 40 t).enc]),[]):=by
 rw [By]
 have hlo:=fun e=>yq 40 t 1 [] e h (by omega) (by simp)
 simp at hlo
 simp [qu,hlo,aa]
theorem qK (t:Tm) (h:t.formed 1=true):az TT HH [] mo [t.enc] []=some (.ret (.b (decide ((Tm.core 40 t).op=1))),[]):=by
 rw [E8]
 have h1:=au (dX t h) (by simp) (by simp)
 simp [pX,h1,aa,bH,a8]
 repeat' ((first|refine bJ ?_ ?_|refine bn ?_ ?_|refine bK ?_ ?_|refine bI ?_ ?_|refine bo ?_ ?_)<;>intro h<;>(try simp only [decide_eq_true_eq,decide_eq_false_iff_not,Bool.not_eq_true] at h)<;>simp [h,pX,h1,aa,bH,a8])
theorem sr (t:Tm) (h:t.formed 1=true):az TT HH [] kX [t.enc] []=some (.ret (.tup [.i (Tm.core 40 t).n,.b (decide ((Tm.core 40 t).op=4) && decide ((Tm.core 40 t).hd=2))]),[]):=by
 rw [BS]
 have h1:=au (dX t h) (by simp) (by simp)
 simp [nu,h1,aa,bH,a8]
 repeat' ((first|refine bJ ?_ ?_|refine bn ?_ ?_|refine bK ?_ ?_|refine bI ?_ ?_|refine bo ?_ ?_)<;>intro h<;>(try simp only [decide_eq_true_eq,decide_eq_false_iff_not,Bool.not_eq_true] at h)<;>simp [h,nu,h1,aa,bH,a8])
 all_goals simp_all
theorem rn (sig:List Dc) (n:Int) (d:Dc) (h0:0≤n) (hd:sig[n.toNat]? = some d) (h:d.class_.formed 1=true):az TT HH [] jL [.sl false (ab sig),.i n] []=some (.ret (.b (fd sig n)),[]):=by
 rw [zB]
 have h1:=au (kB d.class_ h) (by simp) (by simp)
 simp [lz,h1,h0,hd,fd,aa,bH,a8]
 repeat' ((first|refine bJ ?_ ?_|refine bn ?_ ?_|refine bK ?_ ?_|refine bI ?_ ?_|refine bo ?_ ?_)<;>intro h<;>(try simp only [decide_eq_true_eq,decide_eq_false_iff_not,Bool.not_eq_true] at h)<;>simp [h,lz,h1,h0,hd,fd,aa,bH,a8])
theorem jX {St:Type} (g:FuncId) (cap:List PV) (hg:g<YB) (hc:below.belowAll 0 cap=false) (S:St→Sto) (step:St→Tm×Int→St) (L:Nat) (hL:∀ s,(S s).length=L)
  (hcb:∀ n,L≤n→below.belowAll n cap=true) (good:Tm×Int→Prop)
  (hv:∀ (x:Tm) (k:Int) (s:St) (bars:List Nat) (ext:Sto),good (x,k)→RR TT HH bars g (x.enc::.i k::cap) (S s++ext)=some (.ret (.tup []),S (step s (x,k))++ext)) :
  ∀ t:Tm,t.ok→∀ (b d:Int) (s:St) (bars:List Nat) (ext:Sto),t.formed d=true→0≤b→b≤d→(∀ y∈t.nds b,good y) →
   az TT HH bars ck [t.enc,.i b,.fn (.func g) cap] (S s++ext)=some (.ret (.tup []),S ((t.nds b).foldl step s)++ext) :=
 Tm.ind fun t ih hok b d s bars ext hf h0 h1 hgood=>by
  rw [wQ]
  have hd40:=dK hf
  rw [qI] at hgood ⊢
  have e3:=ml hok.len
  have hv0:=fun bars ext=>hv t b s bars ext (hgood _ (by simp))
  have htk:∀ s l,(S s++(ext++l)).take (L+ext.length)=S s++ext:=fun s l=>by rw [← List.append_assoc]; exact List.take_left' (by simp [hL])
  have htk1:∀ s x l,(S s++(ext++x::l)).take (L+(ext.length+1))=S s++(ext++[x]):=fun s x l=>by
   rw [show S s++(ext++x::l)=(S s++(ext++[x]))++l by simp]; exact List.take_left' (by simp [hL])
  have hlo:=fun s=>be (T:=TT) (H:=HH) (b:=(L+ext.length)::bars) (A:=fY) t.args
   (fun i (s:St)=>([(1,.i b),(2,.fn (.func g) cap),(3,.ptr (L+ext.length) 0),(13,.sl false (ab t.args)),(14,.i t.args.length),(15,.i i)],S s++(ext++[.var (Enc.cells t)])))
   (fun r i s=>(.exit 0,[],S ((Tm.ndsL t.op r i b).foldl step s)++(ext++[.var (Enc.cells t)])))
   (fun i _=>∀ y∈Tm.ndsL t.op (t.args.drop i) i b,good y)
   (fun s _=>by
    rw [aF]
    simp [fY,e3,hL,hcb,htk,htk1,Tm.ndsL,Nat.add_assoc])
   (fun i x r s hx hm hd hi hgd=>by
    have e1:(i:Int)<t.args.length:=by omega
    have hw:IntKind.i64.wrap ((i:Int)+1)=(i:Int)+1:=ai _ (by omega) (by omega)
    have u0:=iX t.op i
    have u1:=kz t.op i
    have hw1:IntKind.i64.wrap (b+t.under i)=b+und t.op i:=ai _ (by rw [fb]; omega) (by rw [fb]; omega)
    have hr:t.args.drop (i+1)=r:=by have:=congrArg List.tail hd; simpa using this
    rw [hd,Tm.ndsL] at hgd
    have hu:=au (lS t i) (by simp) (by simp)
    have hc1:∀ bars,RR TT HH bars ck [x.enc,.i (b+und t.op i),.fn (.func g) cap] (S s++(ext++[.var (Enc.cells t),.var (Enc.cells x)]))=some (.ret (.tup []),S ((x.nds (b+und t.op i)).foldl step s)++(ext++[.var (Enc.cells t),.var (Enc.cells x)])):=fun bars=>by
     rw [aX (by simp [hc]) (by simp [hc]),ih x hm (hok.sub x hm) (b+und t.op i) (d+1) s bars _ (cR hf hm) (by omega) (by omega) (fun y hy=>hgd y (by simp [hy]))]
    refine .inr ⟨(x.nds (b+und t.op i)).foldl step s,?_,fun y hy=>hgd y (by rw [hr] at hy; push_cast at hy; exact List.mem_append_right _ hy),by simp [Tm.ndsL]⟩
    simp only [fK] at hc1
    rw [aF]
    simp [fY,e1,e3,hx,hc1,hu,hw,hw1,aa,hL,hcb,htk,htk1,-getElem?_pos,List.getElem?_cons_zero,List.getElem?_cons_succ,List.getElem?_nil,ak,aw,aq,ax,ay,ag,af,take_set,ae,Nat.add_assoc]) 0 s (by omega)
  have hlo:=fun s=>hlo s (fun y hy=>hgood y (List.mem_cons_of_mem _ hy))
  simp at hlo
  simp [pY,hL,hv0,hg,e3,aa,hlo,htk,-getElem?_pos,List.getElem?_cons_zero,List.getElem?_cons_succ,List.getElem?_nil,ak,aw,aq,ax,ay,ag,af,take_set,ae,Nat.add_assoc]
end Go.Ev

namespace Go.Ev
@[simp] theorem RM (k:Nat):bV k []=true:=rfl
theorem RN (l:List Int) (n:Int):∀ x,l[(l.takeWhile (fun x=>decide (x<n))).length]? = some x→¬ x<n:=by
 induction l with
 | nil=>intro x h; simp at h
 | cons a r ih =>
  intro x h
  by_cases ha:a<n
  ·simp [List.takeWhile_cons,ha] at h; exact ih x h
  ·simp [List.takeWhile_cons,ha] at h; omega
theorem RO (l:List Int) (p:Int→Bool):(l.takeWhile p).length≤l.length:=by
 induction l with
 | nil=>simp
 | cons a r ih=>simp only [List.takeWhile_cons]; split<;>simp<;>omega
theorem Pp (l:List Int) (n:Int):vo l n=if l[(l.takeWhile (fun x=>decide (x<n))).length]? = some n then l else l.take (l.takeWhile (fun x=>decide (x<n))).length++n::l.drop (l.takeWhile (fun x=>decide (x<n))).length:=by
 induction l with
 | nil=>simp [vo]
 | cons a r ih =>
  unfold vo
  by_cases ha:a<n
  ·simp only [List.takeWhile_cons,ha,decide_true,if_true,List.length_cons,List.getElem?_cons_succ,ih,List.take_succ_cons,List.drop_succ_cons,List.cons_append]
   split<;>rfl
  ·by_cases h2:a=n<;>simp [List.takeWhile_cons,ha,h2]
theorem Cd (tt:Bool) (l:List Int) (n:Int) (hl:l.length+1≤LIM):az TT HH [] mr [.sl tt (ab l),.i n] []=some (.ret (.sl false (ab (vo l n))),[]):=by
 rw [Fh,Pp]
 have e3:l.length<2 ^ 63:=by unfold LIM at hl; omega
 have hlo:=be (T:=TT) (H:=HH) (b:=[0]) (A:=nx) l
  (fun i (_:Unit)=>([(0,.sl false (ab l)),(1,.i n),(5,.i i)],[]))
  (fun r i _=>(.exit 0,[(0,.sl false (ab l)),(1,.i n),(5,.i (i+(r.takeWhile (fun x=>decide (x<n))).length))],[]))
  (fun _ _=>True)
  (fun _ _=>by
   rw [aF]
   simp [nx,e3])
  (fun i x r _ hx hm hd hi _=>by
   have e1:(i:Int)<l.length:=by omega
   have hw:IntKind.i64.wrap ((i:Int)+1)=(i:Int)+1:=ai _ (by omega) (by omega)
   rw [aF]
   by_cases h:x<n<;>simp [nx,e1,e3,hx,hw,h,List.takeWhile_cons]
   omega) 0 () (by omega) trivial
 simp at hlo
 have hg:=RN l n
 have hk:=RO l (fun x=>decide (x<n))
 generalize (l.takeWhile (fun x=>decide (x<n))).length=k at hlo hg hk ⊢
 by_cases hkl:k<l.length
 ·obtain ⟨x,hx,-,-⟩:=eQ (l:=l) (i:=k) hkl
  have e1:(k:Int)<l.length:=by omega
  by_cases hxn:x=n
  ·subst hxn
   simp [iW,hlo,e3,e1,hx]
  ·have hn:¬ l[k]=n:=by rw [List.getElem?_eq_getElem hkl] at hx; simp only [Option.some.injEq] at hx; rw [hx]; exact hxn
   have h1:k+1≤LIM:=by omega
   have h2:k+1+(l.length - k)≤LIM:=by omega
   have h3:0<l.length - k:=by omega
   have h4:(k:Int)≤l.length:=by omega
   have h5:min k l.length=k:=by omega
   have h6:k≤LIM:=by omega
   by_cases k0:k=0
   ·subst k0
    have e0:0<l.length:=by omega
    have l1:1≤LIM:=by decide
    have l2:1+l.length≤LIM:=by omega
    have hcs:([PV.i n]::ab l)=ab (n::l):=rfl
    simp [iW,hlo,l1,l2,hcs,e3,e1,hx,hxn,hn,h2,h3,e0,-getElem?_pos,List.getElem?_cons_zero,List.getElem?_cons_succ]
   ·have h7:0<k:=by omega
    have h8:(l.drop k).take (l.length - k)=l.drop k:=List.take_of_length_le (by simp)
    simp [iW,hlo,e3,e1,hx,hxn,hn,h1,h2,h3,h4,h5,h6,h7,h8,hk,-getElem?_pos,List.getElem?_cons_zero,List.getElem?_cons_succ]
 ·have hkl:k=l.length:=by omega
  subst hkl
  have h1:l.length≤LIM:=by omega
  by_cases k0:l=[]
  ·subst k0
   simp at hlo
   have l1:1≤LIM:=by decide
   have hcs:[[PV.i n]]=ab [n]:=rfl
   simp [iW,hlo,l1,hcs]
  ·have h7:0<l.length:=by cases l<;>simp at k0 ⊢
   simp [iW,hlo,e3,h1,hl,h7]
theorem n8:∀ t:Tm,t.ok→∀ (head b d:Int) (tt:Bool) (l:List Int),t.formed d=true→0≤b→b≤d→l.length+t.nodes≤4000 →
  az TT HH [] gR [t.enc,.i head,.i b,.sl tt (ab l)] []=some (.ret (.sl false (ab (cY head (t.nds b) l))),[]) :=
 Tm.ind fun t ih hok head b d tt l hf h0 h1 hln=>by
  rw [BO,qI,tp]
  have e3:=ml hok.len
  have hd40:=dK hf
  have hn:=en t
  have hl1:(nJ head l (t,b)).length≤l.length+1:=by
   unfold nJ; split
   ·exact GQ ..
   ·omega
  have hlo:=fun l0:List Int=>be (T:=TT) (H:=HH) (b:=[0]) (A:=ku) t.args
   (fun i (l:List Int)=>([(1,.i head),(2,.i b),(3,.sl false (ab l)),(4,.ptr 0 0),(9,.i i)],[.var [.i t.op,.i t.hd,.i t.n,.sl false (ab t.args)]]))
   (fun r i l=>(.exit 0,[(3,.sl false (ab (cY head (Tm.ndsL t.op r i b) l)))],[.var [.i t.op,.i t.hd,.i t.n,.sl false (ab t.args)]]))
   (fun i l=>l.length+Tm.nodesL (t.args.drop i)≤4000)
   (fun l _=>by
    rw [aF]
    simp [ku,e3,Tm.ndsL,Kz])
   (fun i x r l hx hm hd hi hv=>by
    have e1:(i:Int)<t.args.length:=by omega
    have hw:IntKind.i64.wrap ((i:Int)+1)=(i:Int)+1:=ai _ (by omega) (by omega)
    have u0:=iX t.op i
    have u1:=kz t.op i
    have hw1:IntKind.i64.wrap (b+t.under i)=b+und t.op i:=ai _ (by rw [fb]; omega) (by rw [fb]; omega)
    have hr:t.args.drop (i+1)=r:=by have:=congrArg List.tail hd; simpa using this
    rw [hd,Tm.nodesL] at hv
    have hu:=au (nX t i) (by simp) (by simp)
    have hc:=au (ih x hm (hok.sub x hm) head (b+und t.op i) (d+1) false l (cR hf hm) (by omega) (by omega) (by omega)) (by simp) (by simp)
    have hl2:=sq head (x.nds (b+und t.op i)) l
    rw [p9] at hl2
    refine .inr ⟨cY head (x.nds (b+und t.op i)) l,?_,by rw [hr]; omega,by simp [Tm.ndsL,KA]⟩
    rw [aF]
    simp [ku,e1,e3,hx,hc,hu,hw,hw1,aa]) 0 l0 (by omega)
  have hlo:=fun l0 (h:l0.length+Tm.nodesL t.args≤4000)=>hlo l0 (by simpa using h)
  have hlo:=hlo (nJ head l (t,b)) (by omega)
  simp at hlo
  clear ih
  have hp:∀ n,RR TT HH [0] mr [.sl false (ab l),.i n] [.var [.i t.op,.i t.hd,.i t.n,.sl false (ab t.args)]]=some (.ret (.sl false (ab (vo l n))),[.var [.i t.op,.i t.hd,.i t.n,.sl false (ab t.args)]]):=fun n=>au (Cd false l n (by unfold LIM; omega)) (by simp) (by simp) _ _
  by_cases a1:t.op=4
  ·by_cases a2:t.hd=head
   ·by_cases a3:head=1
    ·by_cases a4:b≤t.n
     ·have hw:IntKind.i64.wrap (t.n - b)=t.n - b:=ai _ (by omega) (by have:=hok.here.2.2.1.2; omega)
      simp [nJ,cD,a1,a2,a3,a4] at hlo hp ⊢
      simp [f9,a1,a2,a3,a4,hlo,hp,hw]
     ·simp [nJ,cD,a1,a2,a3,a4] at hlo ⊢
      simp [f9,a1,a2,a3,a4,hlo]
    ·simp [nJ,cD,a1,a2,a3] at hlo hp ⊢
     simp [f9,a1,a2,a3,hlo,hp]
   ·simp [nJ,cD,a1,a2] at hlo ⊢
    simp [f9,a1,a2,hlo]
  ·simp [nJ,cD,a1] at hlo ⊢
   simp [f9,a1,hlo]
theorem tC (t:Tm) (h:t.ok) (d:Int) (hf:t.formed d=true) (hd:0≤d) (hn:t.nodes≤4000):az TT HH [] mP [t.enc] []=some (.ret (.sl false (ab (cY 1 (t.nds 0) []))),[]):=by
 rw [C9]
 have h1:=au (n8 t h 1 0 d true [] hf (by omega) (by omega) (by simpa using hn)) (by simp) (by simp)
 simp only [uf] at h1
 simp [oz,h1,aa,bH,a8]
 repeat' ((first|refine bJ ?_ ?_|refine bn ?_ ?_|refine bK ?_ ?_|refine bI ?_ ?_|refine bo ?_ ?_)<;>intro h<;>(try simp only [decide_eq_true_eq,decide_eq_false_iff_not,Bool.not_eq_true] at h)<;>simp [h,oz,h1,aa,bH,a8])
theorem uy (t:Tm) (h:t.ok) (d:Int) (hf:t.formed d=true) (hd:0≤d) (hn:t.nodes≤4000):az TT HH [] jw [t.enc] []=some (.ret (.sl false (ab (cY 2 (t.nds 0) []))),[]):=by
 rw [vZ]
 have h1:=au (n8 t h 2 0 d true [] hf (by omega) (by omega) (by simpa using hn)) (by simp) (by simp)
 simp only [uf] at h1
 simp [iV,h1,aa,bH,a8]
 repeat' ((first|refine bJ ?_ ?_|refine bn ?_ ?_|refine bK ?_ ?_|refine bI ?_ ?_|refine bo ?_ ?_)<;>intro h<;>(try simp only [decide_eq_true_eq,decide_eq_false_iff_not,Bool.not_eq_true] at h)<;>simp [h,iV,h1,aa,bH,a8])
theorem yr (t:Tm) (h:t.ok) (d:Int) (hf:t.formed d=true) (hd:0≤d) (hn:t.nodes≤4000):az TT HH [] ol [t.enc] []=some (.ret (.sl false (ab (cY 3 (t.nds 0) []))),[]):=by
 rw [BK]
 have h1:=au (n8 t h 3 0 d true [] hf (by omega) (by omega) (by simpa using hn)) (by simp) (by simp)
 simp only [uf] at h1
 simp [nj,h1,aa,bH,a8]
 repeat' ((first|refine bJ ?_ ?_|refine bn ?_ ?_|refine bK ?_ ?_|refine bI ?_ ?_|refine bo ?_ ?_)<;>intro h<;>(try simp only [decide_eq_true_eq,decide_eq_false_iff_not,Bool.not_eq_true] at h)<;>simp [h,nj,h1,aa,bH,a8])
theorem uz:∀ t:Tm,t.ok→∀ (f d:Int),t.formed d=true→0≤f→f≤d →
  az TT HH [] mn [t.enc,.i f,.i f] []=some (.ret (.b ((t.nds f).any (isV 0))),[]) :=
 Tm.ind fun t ih hok f d hf h0 h1=>by
  rw [E3,qI,List.any_cons]
  have e3:=ml hok.len
  have hd40:=dK hf
  have hlo:=be (T:=TT) (H:=HH) (b:=[0]) (A:=ng) t.args
   (fun i (_:Unit)=>([(1,.i f),(2,.i f),(3,.ptr 0 0),(7,.i i)],[.var [.i t.op,.i t.hd,.i t.n,.sl false (ab t.args)]]))
   (fun r i _=>if (Tm.ndsL t.op r i f).any (isV 0) then (.ret,[(6,.b true)],[.var [.i t.op,.i t.hd,.i t.n,.sl false (ab t.args)]]) else (.exit 0,[],[.var [.i t.op,.i t.hd,.i t.n,.sl false (ab t.args)]]))
   (fun _ _=>True)
   (fun _ _=>by
    rw [aF]
    simp [ng,e3,Tm.ndsL])
   (fun i x r _ hx hm hd hi _=>by
    have e1:(i:Int)<t.args.length:=by omega
    have hw:IntKind.i64.wrap ((i:Int)+1)=(i:Int)+1:=ai _ (by omega) (by omega)
    have u0:=iX t.op i
    have u1:=kz t.op i
    have hw1:IntKind.i64.wrap (f+t.under i)=f+und t.op i:=ai _ (by rw [fb]; omega) (by rw [fb]; omega)
    have hu:=au (nX t i) (by simp) (by simp)
    have hc:=au (ih x hm (hok.sub x hm) (f+und t.op i) (d+1) (cR hf hm) (by omega) (by omega)) (by simp) (by simp)
    rw [aF,Tm.ndsL,List.any_append]
    cases h:(x.nds (f+und t.op i)).any (isV 0)<;>simp [-List.any_eq_true,-List.any_eq_false,ng,e1,e3,hx,hc,hu,hw,hw1,aa,h]) 0 () (by omega) trivial
  simp [-List.any_eq_true,-List.any_eq_false] at hlo
  clear ih
  have hv:isV 0 (t,f)=(decide (t.op=4) && (decide (t.hd=1) && decide (t.n=f))):=by simp [isV]
  rw [hv]
  by_cases a1:t.op=4
  ·by_cases a2:t.hd=1
   ·by_cases a3:t.n=f
    ·simp [iU,a1,a2,a3]
    ·by_cases a4:f≤t.n
     ·have a5:¬ t.n≤f:=by omega
      cases h:(Tm.ndsL t.op t.args 0 f).any (isV 0)<;>simp [h,-List.any_eq_true,-List.any_eq_false] at hlo<;>(rw [a1] at h hlo; try rw [a2] at hlo)<;>simp [iU,a1,a2,a3,a4,a5,hlo,h,-List.any_eq_true,-List.any_eq_false]
     ·cases h:(Tm.ndsL t.op t.args 0 f).any (isV 0)<;>simp [h,-List.any_eq_true,-List.any_eq_false] at hlo<;>(rw [a1] at h hlo; try rw [a2] at hlo)<;>simp [iU,a1,a2,a3,a4,hlo,h,-List.any_eq_true,-List.any_eq_false]
   ·cases h:(Tm.ndsL t.op t.args 0 f).any (isV 0)<;>simp [h,-List.any_eq_true,-List.any_eq_false] at hlo<;>rw [a1] at h hlo<;>simp [iU,a1,a2,hlo,h,-List.any_eq_true,-List.any_eq_false]
  ·cases h:(Tm.ndsL t.op t.args 0 f).any (isV 0)<;>simp [h,-List.any_eq_true,-List.any_eq_false] at hlo<;>simp [iU,a1,hlo,h,-List.any_eq_true,-List.any_eq_false]
theorem w8 (t:Tm) (h:t.ok) (d:Int) (hf:t.formed d=true) (hd:0≤d):az TT HH [] mU [t.enc,.i 0] []=some (.ret (.b (occ t 0)),[]):=by
 rw [zJ]
 have h1:=au (uz t h 0 d hf (by omega) (by omega)) (by simp) (by simp)
 simp [lH,h1,occ,aa,bH,a8]
 repeat' ((first|refine bJ ?_ ?_|refine bn ?_ ?_|refine bK ?_ ?_|refine bI ?_ ?_|refine bo ?_ ?_)<;>intro h<;>(try simp only [decide_eq_true_eq,decide_eq_false_iff_not,Bool.not_eq_true] at h)<;>simp [h,lH,h1,occ,aa,bH,a8])
end Go.Ev

namespace Go.Ev
theorem eG (l:List Tm):l.length≤Tm.nodesL l:=by
 induction l with
 | nil=>simp
 | cons a r ih=>have:=yo a; simp [Tm.nodesL]; omega
theorem su:∀ t:Tm,t.ok→∀ (k f d:Int),-9999≤k→k≤9999→t.formed d=true→0≤f→f≤20000+d→t.nodes≤4000 →
  az TT HH [] kV [t.enc,.i k,.i f] []=some (.ret (t.moved k f).enc,[]) :=
 Tm.ind fun t ih hok k f d hk0 hk1 hf h0 h1 hln=>by
  rw [BC,uw]
  have e3:=ml hok.len
  have hd40:=dK hf
  have hn:=en t
  have hal:=eG t.args
  have hsh:=fw hf
  have hlo:=fun (n':Int)=>be (T:=TT) (H:=HH) (b:=[0]) (A:=kq) t.args
   (fun i (l:List Tm)=>([(1,.i k),(2,.i f),(3,.ptr 0 0),(6,.ptr 1 0),(7,.ptr 2 0),(8,.i i)],[.var [.i t.op,.i t.hd,.i t.n,.sl false (ab t.args)],.var [.i 0,.i 0,.i 0,.sl true []],.var [.i t.op,.i t.hd,.i n',.ow 3 l.length (ab l)],.tok 4 l.length]))
   (fun r i l=>(.exit 0,[(6,.ptr 1 0),(7,.ptr 2 0)],[.var [.i t.op,.i t.hd,.i t.n,.sl false (ab t.args)],.var [.i 0,.i 0,.i 0,.sl true []],.var [.i t.op,.i t.hd,.i n',.ow 3 (l++Tm.movedL t.op r i k f).length (ab (l++Tm.movedL t.op r i k f))],.tok 4 (l++Tm.movedL t.op r i k f).length]))
   (fun i l=>l.length≤i)
   (fun l _=>by
    rw [aF]
    simp [kq,e3,Tm.movedL])
   (fun i x r l hx hm hd hi hv=>by
    have e1:(i:Int)<t.args.length:=by omega
    have hw:IntKind.i64.wrap ((i:Int)+1)=(i:Int)+1:=ai _ (by omega) (by omega)
    have u0:=iX t.op i
    have u1:=kz t.op i
    have hw1:IntKind.i64.wrap (f+t.under i)=f+und t.op i:=ai _ (by rw [fb]; omega) (by rw [fb]; omega)
    have hu:=au (nX t i) (by simp) (by simp)
    have hns:=dJ hm
    have hc:=au (ih x hm (hok.sub x hm) k (f+und t.op i) (d+1) hk0 hk1 (cR hf hm) (by omega) (by omega) (by omega)) (by simp) (by simp)
    have hl1:l.length+1≤LIM:=by unfold LIM; omega
    refine .inr ⟨l++[x.moved k (f+und t.op i)],?_,by simp; omega,by simp [Tm.movedL]⟩
    rw [aF]
    simp [kq,e1,e3,hx,hc,hu,hw,hw1,hl1,aa,aj]) 0 [] (by omega) (by simp)
  simp at hlo
  clear ih
  by_cases a1:t.op=4∧t.hd=1∧f≤t.n
  ·have hnb:=(jq hsh a1.1).2.2
   have hw:IntKind.i64.wrap (t.n+k)=t.n+k:=ai _ (by omega) (by omega)
   have hlo:=hlo (t.n+k)
   rw [if_pos a1]
   obtain ⟨a1,a2,a3⟩:=a1
   simp [a1,a2] at hlo
   simp [ip,a1,a2,a3,hw,hlo,Tm.enc,aj]
  ·have hlo:=hlo t.n
   rw [if_neg a1]
   by_cases a2:t.op=4
   ·by_cases a3:t.hd=1
    ·have a4:¬ f≤t.n:=fun h=>a1 ⟨a2,a3,h⟩
     simp [a2,a3] at hlo
     simp [ip,a2,a3,a4,hlo,Tm.enc,aj]
    ·simp [a2] at hlo
     simp [ip,a2,a3,hlo,Tm.enc,aj]
   ·simp [ip,a2,hlo,Tm.enc,aj]
theorem uA {t:Tm} (h:t.proper=true) (ho:occ t 0=false):(t.moved (-1) 0).proper=true:=by
 have h1:=aI h
 have h2:=ar h
 have h3:(t.nds 0).all (fun x=>!isV 0 x)=true:=by
  rw [List.all_eq_true]
  intro x hx
  unfold occ at ho
  rw [List.any_eq_false] at ho
  simpa using ho x hx
 have h4:=w4 t 0 1 (by omega) h2 h3
 have h5:=ux t (-1) 0
 simp only [Tm.proper,h4,Bool.and_true,decide_eq_true_eq]
 omega
mutual
theorem o0:∀ (t:Tm),t.ok→∀ (k f d:Int),-9999≤k→k≤9999→t.formed d=true→(t.moved k f).ok
 | .mk op hd n args,h,k,f,d,k0,k1,hf=>by
  have hh:=h.here
  refine ⟨?_,?_⟩
  ·rw [Tm.moved]
   simp only [Tm.Ok,Tm.op_mk,Tm.hd_mk,Tm.n_mk,Tm.args_mk,qJ] at hh ⊢
   refine ⟨hh.1,hh.2.1,?_,hh.2.2.2⟩
   split
   ·rename_i hc
    have:=(jq (fw hf) hc.1).2.2; simp only [Tm.n_mk] at this; unfold I64; omega
   ·exact hh.2.2.1
  ·rw [Tm.moved,Tm.args_mk]
   exact D6 args op 0 k f (d+1) k0 k1 h.sub (fun x hx=>cR hf hx)
theorem D6:∀ (l:List Tm) (op i k f d:Int),-9999≤k→k≤9999→(∀ x∈l,x.ok)→(∀ x∈l,x.formed d=true)→∀ x∈Tm.movedL op l i k f,x.ok
 | [],_,_,_,_,_,_,_,_,_,x,hx=>by cases hx
 | t::r,op,i,k,f,d,k0,k1,h,hf,x,hx=>by
  rw [Tm.movedL] at hx
  rcases List.mem_cons.1 hx with rfl|hx
  ·exact o0 t (h t (by simp)) k _ d k0 k1 (hf t (by simp))
  ·exact D6 r op (i+1) k f d k0 k1 (fun x hx=>h x (by simp [hx])) (fun x hx=>hf x (by simp [hx])) x hx
end
theorem yt (t:Tm) (h:t.ok) (hp:t.proper=true) (ho:occ t 0=false):az TT HH [] jj [t.enc,.i (-1),.i 0] []=some (.ret (.tup [(t.moved (-1) 0).enc,.i 0]),[]):=by
 rw [um]
 have hf:=ar hp
 have hn:=aI hp
 have h1:=au (bN t h) (by simp) (by simp)
 have h2:=au (uz t h 0 1 hf (by omega) (by omega)) (by simp) (by simp)
 have h3:=au (su t h (-1) 0 1 (by omega) (by omega) hf (by omega) (by omega) (by omega)) (by simp) (by simp)
 have h4:=au (bN (t.moved (-1) 0) (o0 t h (-1) 0 1 (by omega) (by omega) hf)) (by simp) (by simp)
 rw [uA hp ho] at h4
 unfold occ at ho
 rw [ho] at h2
 rw [hp] at h1
 have w1:IntKind.i64.wrap 1=1:=ai _ (by omega) (by omega)
 have w0:IntKind.i64.wrap 0=0:=ai _ (by omega) (by omega)
 simp [jT,h1,h2,h3,h4,w1,w0,aa]
end Go.Ev

namespace Go.Ev
theorem dq {id:Nat} (x:PV):∀ {bars:List Nat},(∀ b∈bars,b≤id)→aj bars id x=true
 | [],_=>rfl
 | b::r,h=>by
  simp only [aj,Bool.and_eq_true,Bool.or_eq_true,decide_eq_true_eq]
  exact ⟨.inl (h b (by simp)),dq x fun b hb=>h b (by simp [hb])⟩
theorem w9 (k:Int) (hk0:-9999≤k) (hk1:k≤9999) (op hd n b f:Int) (p q:Nat) (bars:List Nat) (σ:Sto) (hq:σ[q]? = some (.var [.i f])) (hp:σ[p]? = some (.var [.i k])) (hn:op=4→0≤n∧n≤9999) (hb:0≤b) (hb1:b≤100) :
  az TT HH bars ii [.agg [.i op,.i hd,.i n,.sl true []],.i b,.ptr q 0,.ptr p 0] σ=some (.ret (.agg [.i op,.i hd,.i (if op=4∧hd=1∧f+b≤n then n+k else n),.sl true []]),σ):=by
 rw [zQ]
 have hql:=bE hq
 have hpl:=bE hp
 have t1:∀ a b:Ob,(σ++[a,b]).take σ.length=σ:=fun a b=>List.take_left
 by_cases a1:op=4
 ·obtain ⟨n0,n1⟩:=hn a1
  have hw:IntKind.i64.wrap (n - b)=n - b:=ai _ (by omega) (by omega)
  have hw1:IntKind.i64.wrap (n+k)=n+k:=ai _ (by omega) (by omega)
  by_cases a2:hd=1
  ·by_cases a3:f+b≤n
   ·have a4:f≤n - b:=by omega
    simp [gw,a1,a2,a3,a4,hw,hw1,hp,hq,hpl,hql,t1,-getElem?_pos,List.getElem?_cons_zero,List.getElem?_cons_succ,List.getElem?_nil,ak,aw,aq,ax,ay,ag,af,take_set,ae]
   ·have a4:¬ f≤n - b:=by omega
    simp [gw,a1,a2,a3,a4,hw,hw1,hp,hq,hpl,hql,t1,-getElem?_pos,List.getElem?_cons_zero,List.getElem?_cons_succ,List.getElem?_nil,ak,aw,aq,ax,ay,ag,af,take_set,ae]
  ·simp [gw,a1,a2,hw,hw1,hp,hq,hpl,hql,t1,-getElem?_pos,List.getElem?_cons_zero,List.getElem?_cons_succ,List.getElem?_nil,ak,aw,aq,ax,ay,ag,af,take_set,ae]
 ·simp [gw,a1,hp,hq,hpl,hql,t1,-getElem?_pos,List.getElem?_cons_zero,List.getElem?_cons_succ,List.getElem?_nil,ak,aw,aq,ax,ay,ag,af,take_set,ae]
mutual
def Tm.mapN (F:Int→Int→Int→Int→Int):Tm→Int→Tm
 | .mk op hd n args,b=>.mk op hd (F op hd n b) (Tm.mapNL F op args 0 b)
def Tm.mapNL (F:Int→Int→Int→Int→Int) (op:Int):List Tm→Int→Int→List Tm
 | [],_,_=>[]
 | t::r,i,b=>t.mapN F (b+und op i)::Tm.mapNL F op r (i+1) b
end
theorem JA (F:Int→Int→Int→Int→Int):∀ (t:Tm) (b:Int),t.mapN F b=.mk t.op t.hd (F t.op t.hd t.n b) (Tm.mapNL F t.op t.args 0 b)
 | .mk _ _ _ _,_=>by rw [Tm.mapN]; rfl
theorem tq (g:FuncId) (hg:g<YB) (cap:List PV) (F:Int→Int→Int→Int→Int) (σ0:Sto) (hcl:(below.belowAll 0 cap=false)∨(below.belowAll 0 cap=true∧σ0=[])) (hcb:∀ n,σ0.length≤n→below.belowAll n cap=true) (good:Tm×Int→Prop)
  (hv:∀ (x:Tm) (b:Int) (bars:List Nat) (ext:Sto),good (x,b)→RR TT HH bars g (.agg [.i x.op,.i x.hd,.i x.n,.sl true []]::.i b::cap) (σ0++ext)=some (.ret (.agg [.i x.op,.i x.hd,.i (F x.op x.hd x.n b),.sl true []]),σ0++ext)) :
  ∀ t:Tm,t.ok→∀ (b d:Int) (bars:List Nat) (ext:Sto),t.formed d=true→0≤b→b≤d→t.nodes≤4000→(∀ x∈bars,x≤(σ0++ext).length)→(∀ y∈t.nds b,good y) →
  az TT HH bars fL [t.enc,.i b,.fn (.func g) cap] (σ0++ext)=some (.ret (t.mapN F b).enc,σ0++ext) :=
 Tm.ind fun t ih hok b d bars ext hf h0 h1 hln hbars hgood=>by
  rw [GI,JA]
  have e3:=ml hok.len
  have hd40:=dK hf
  have hn:=en t
  have hal:=eG t.args
  rw [qI] at hgood
  have hm:=fun bars ext'=>hv t b bars (ext++ext') (hgood (t,b) (List.mem_cons_self ..))
  have hgd:∀ y∈Tm.ndsL t.op t.args 0 b,good y:=fun y hy=>hgood y (List.mem_cons_of_mem _ hy)
  have hcbL:∀ n,(σ0++ext).length≤n→below.belowAll n cap=true:=fun n hn=>hcb n (by rw [List.length_append] at hn; omega)
  have hrec:∀ (bars:List Nat) (x:Tm) (b':Int) (l:Sto),x∈t.args→0≤b'→b'≤d+1→(∀ y∈bars,y≤((σ0++ext)++l).length)→(∀ y∈x.nds b',good y)→RR TT HH bars fL [x.enc,.i b',.fn (.func g) cap] ((σ0++ext)++l)=some (.ret (x.mapN F b').enc,(σ0++ext)++l):=fun bars x b' l hx hb0 hb1 hbr hgx=>by
   have hns:=dJ hx
   rcases hcl with hcl|⟨hcl,rfl⟩
   ·rw [aX (by simp [hcl]) (by simp [hcl]),List.append_assoc,ih x hx (hok.sub x hx) b' (d+1) bars (ext++l) (cR hf hx) hb0 hb1 (by omega) (by rw [← List.append_assoc]; exact hbr) hgx]
   ·exact au (by simpa using ih x hx (hok.sub x hx) b' (d+1) [] [] (cR hf hx) hb0 hb1 (by omega) (by simp) hgx) (by simp [hcl]) (by simp) _ _
  clear ih hv hgood
  simp only [← List.append_assoc] at hm
  generalize σ0++ext=σ at *
  generalize hL:σ.length=L at *
  have tk:∀ l:Sto,(σ++l).take L=σ:=fun l=>List.take_left' hL
  have tk4:∀ (a b c d:Ob) (l:Sto),(σ++a::b::c::d::l).take (L+4)=σ++[a,b,c,d]:=fun a b c d l=>by
   rw [show σ++a::b::c::d::l=(σ++[a,b,c,d])++l by simp]; exact List.take_left' (by simp [hL])
  have hB1:∀ x,aj (L::bars) (L+2) x=true:=fun x=>dq x fun b hb=>by
   rcases List.mem_cons.1 hb with rfl|hb
   ·omega
   ·have:=hbars b hb; omega
  have hB2:∀ x,aj bars (L+2) x=true:=fun x=>dq x fun b hb=>by have:=hbars b hb; omega
  have hB3:∀ x,aj bars (L+1) x=true:=fun x=>dq x fun b hb=>by have:=hbars b hb; omega
  have hlo:=fun (n':Int)=>be (T:=TT) (H:=HH) (b:=L::bars) (A:=oy) t.args
   (fun i (l:List Tm)=>([(1,.i b),(2,.fn (.func g) cap),(3,.ptr L 0),(6,.ptr (L+1) 0),(7,.ptr (L+2) 0),(21,.sl false (ab t.args)),(22,.i t.args.length),(23,.i i)],σ++[.var [.i t.op,.i t.hd,.i t.n,.sl false (ab t.args)],.var [.i 0,.i 0,.i 0,.sl true []],.var [.i t.op,.i t.hd,.i n',.ow (L+3) l.length (ab l)],.tok 4 l.length]))
   (fun r i l=>(.exit 0,[(6,.ptr (L+1) 0),(7,.ptr (L+2) 0)],σ++[.var [.i t.op,.i t.hd,.i t.n,.sl false (ab t.args)],.var [.i 0,.i 0,.i 0,.sl true []],.var [.i t.op,.i t.hd,.i n',.ow (L+3) (l++Tm.mapNL F t.op r i b).length (ab (l++Tm.mapNL F t.op r i b))],.tok 4 (l++Tm.mapNL F t.op r i b).length]))
   (fun i l=>l.length≤i∧∀ y∈Tm.ndsL t.op (t.args.drop i) i b,good y)
   (fun l _=>by
    rw [aF]
    simp [oy,e3,hL,tk4,Tm.mapNL,hcbL])
   (fun i x r l hx hm hd hi ⟨hv,hgd⟩=>by
    have e1:(i:Int)<t.args.length:=by omega
    have hw:IntKind.i64.wrap ((i:Int)+1)=(i:Int)+1:=ai _ (by omega) (by omega)
    have u0:=iX t.op i
    have u1:=kz t.op i
    have hw1:IntKind.i64.wrap (b+t.under i)=b+und t.op i:=ai _ (by rw [fb]; omega) (by rw [fb]; omega)
    have hu:=au (lS t i) (by simp) (by simp)
    have hns:=dJ hm
    have hr:t.args.drop (i+1)=r:=by have:=congrArg List.tail hd; simpa using this
    rw [hd,Tm.ndsL] at hgd
    have hl1:l.length+1≤LIM:=by unfold LIM; omega
    have hc:∀ a0 a1 a2 a3 a4:Ob,RR TT HH ((L+4)::L::bars) fL [x.enc,.i (b+und t.op i),.fn (.func g) cap] (σ++[a0,a1,a2,a3,a4])=some (.ret (x.mapN F (b+und t.op i)).enc,σ++[a0,a1,a2,a3,a4]):=fun a0 a1 a2 a3 a4=>hrec _ x (b+und t.op i) _ hm (by omega) (by omega) (fun y hy=>by
      simp only [List.length_append,hL,List.length_cons,List.length_nil]
      simp only [List.mem_cons] at hy
      rcases hy with rfl|rfl|hy
      ·omega
      ·omega
      ·have:=hbars y hy; omega) (fun y hy=>hgd y (List.mem_append_left _ hy))
    refine .inr ⟨l++[x.mapN F (b+und t.op i)],?_,⟨by simp; omega,fun y hy=>hgd y (List.mem_append_right _ (by rw [hr] at hy; push_cast at hy; exact hy))⟩,by simp [Tm.mapNL]⟩
    rw [aF]
    simp [oy,e1,e3,hx,hc,hu,hw,hw1,hl1,aa,hL,tk4,hB1,hB2,hB3,aj,hcbL,-getElem?_pos,List.getElem?_cons_zero,List.getElem?_cons_succ,List.getElem?_nil,ak,aw,aq,ax,ay,ag,af,take_set,ae]) 0 [] (by omega) ⟨by simp,hgd⟩
  simp at hlo
  generalize F t.op t.hd t.n b=n' at *
  have hlo:=hlo n'
  have hm2:=fun bars (a0 a1:Ob)=>hm bars [a0,a1]
  simp [uj,hm2,hlo,hL,e3,tk,tk4,hB1,hB2,hB3,hg,hcbL,Tm.enc,aj,-getElem?_pos,List.getElem?_cons_zero,List.getElem?_cons_succ,List.getElem?_nil,ak,aw,aq,ax,ay,ag,af,take_set,ae]
mutual
theorem Ce (k f:Int):∀ (t:Tm) (b:Int),t.mapN (fun op hd n b=>if op=4∧hd=1∧f+b≤n then n+k else n) b=t.moved k (f+b)
 | .mk op hd n args,b=>by rw [Tm.mapN,Tm.moved,zp k f args]
theorem zp (k f:Int):∀ (l:List Tm) (op i b:Int),Tm.mapNL (fun op hd n b=>if op=4∧hd=1∧f+b≤n then n+k else n) op l i b=Tm.movedL op l i k (f+b)
 | [],_,_,_=>rfl
 | t::r,op,i,b=>by rw [Tm.mapNL,Tm.movedL,Ce k f t,zp k f r,Int.add_assoc]
end
mutual
theorem JB:∀ (t:Tm) (b:Int),t.mapN (fun _ _ n _=>n) b=t
 | .mk op hd n args,b=>by rw [Tm.mapN,GV args]
theorem GV:∀ (l:List Tm) (op i b:Int),Tm.mapNL (fun _ _ n _=>n) op l i b=l
 | [],_,_,_=>rfl
 | t::r,op,i,b=>by rw [Tm.mapNL,JB t,GV r]
end
theorem tD (t:Tm) (h:t.ok) (k f d:Int) (hk0:-9999≤k) (hk1:k≤9999) (hf0:0≤f) (hf:t.formed d=true) (hd:0≤d) (hn:t.nodes≤4000):az TT HH [] mS [t.enc,.i k,.i f] []=some (.ret (t.moved k f).enc,[]):=by
 rw [Dn]
 have hc:∀ a3 a0:Ob,RR TT HH [0] fL [t.enc,.i 0,.fn (.func ii) [.ptr 2 0,.ptr 1 0]] [a0,.var [.i k],.var [.i f],a3]=some (.ret (t.moved k f).enc,[a0,.var [.i k],.var [.i f],a3]):=fun a3 a0=>by
  rw [aX (by simp) (by simp)]
  have:=tq ii (by simp) [.ptr 2 0,.ptr 1 0] (fun op hd n b=>if op=4∧hd=1∧f+b≤n then n+k else n) [a0,.var [.i k],.var [.i f],a3] (.inl (by simp)) (fun n hn=>by simp at hn ⊢; omega) (fun y=>(y.1.op=4→0≤y.1.n∧y.1.n≤9999)∧0≤y.2∧y.2≤100)
   (fun x b bars ext hg=>by
    rw [aX (by simp) (by simp)]
    exact w9 k hk0 hk1 x.op x.hd x.n b f 1 2 bars _ rfl rfl hg.1 hg.2.1 hg.2.2) t h 0 d [0] [] hf (by omega) (by omega) hn (by simp) (fun y hy=>by
    by_cases hd1:0<d
    ·have h3:=kA hf hd1 hy
     exact ⟨fun h4=>(jq h3.1 h4).2.2,h3.2.1,by omega⟩
    ·have h3:=kA (jW t d (d - 1) (by omega) hf) (b:=d - 2) (by omega) (x:=(y.1,y.2+(d - 2))) (by
      have:=AD t 0 (d - 2)
      rw [Int.zero_add] at this
      rw [this]
      exact List.mem_map.2 ⟨y,hy,rfl⟩)
     simp only at h3
     exact ⟨fun h4=>(jq h3.1 h4).2.2,by omega,by omega⟩)
  rw [Ce,Int.add_zero] at this
  simpa using this
 simp [rX,hc,aa]
end Go.Ev

namespace Go.Ev
def sv (l:List Int) (n:Int) (i:Int):Int:=match l with
 | []=>-1
 | a::r=>if n=a then i else sv r n (i+1)
theorem Nn (l:List Int) (n:Int):∀ i:Int,0≤i→decide (0≤sv l n i)=decide (n∈l):=by
 induction l with
 | nil=>intro i h; simp [sv]
 | cons a r ih =>
  intro i h
  unfold sv
  by_cases ha:n=a
  ·simp [ha,h]
  ·simp only [ha,if_false,List.mem_cons,false_or]; exact ih (i+1) (by omega)
theorem pu (l:List Int) (n:Int) (hl:l.length<2 ^ 63):az TT HH [] eb [.sl false (ab l),.i n] []=some (.ret (.i (sv l n 0)),[]):=by
 rw [qG]
 have hlo:=be (T:=TT) (H:=HH) (b:=[0]) (A:=dw) l
  (fun i (_:Unit)=>([(0,.sl false (ab l)),(1,.i n),(7,.i l.length),(8,.i i)],[]))
  (fun r i _=>if n∈r then (.ret,[(4,.i (sv r n i))],[]) else (.exit 0,[],[]))
  (fun _ _=>True)
  (fun _ _=>by
   rw [aF]
   simp [dw])
  (fun i x r _ hx hm hd hi _=>by
   have e1:(i:Int)<l.length:=by omega
   have hw:IntKind.i64.wrap ((i:Int)+1)=(i:Int)+1:=ai _ (by omega) (by omega)
   rw [aF]
   by_cases h:n=x<;>simp [dw,e1,hx,hw,h,sv]) 0 () (by omega) trivial
 simp at hlo
 by_cases h:n∈l
 ·simp [h] at hlo
  simp [dW,hl,hlo]
 ·simp [h] at hlo
  have h2:sv l n 0=-1:=by
   have:∀ (l:List Int) (i:Int),n ∉ l→sv l n i=-1:=by
    intro l
    induction l with
    | nil=>intro i _; rfl
    | cons a r ih =>
     intro i hn
     simp only [List.mem_cons,not_or] at hn
     rw [sv,if_neg hn.1]; exact ih _ hn.2
   exact this l 0 h
  simp [dW,hl,hlo,h2]
theorem gW (l:List Int) (n:Int) (hl:l.length<2 ^ 63):az TT HH [] b0 [.sl false (ab l),.i n] []=some (.ret (.b (decide (n∈l))),[]):=by
 rw [oX]
 have h1:=au (pu l n hl) (by simp) (by simp)
 have h2:=Nn l n 0 (by omega)
 simp [dj,h1,h2,aa,bH,a8]
 repeat' ((first|refine bJ ?_ ?_|refine bn ?_ ?_|refine bK ?_ ?_|refine bI ?_ ?_|refine bo ?_ ?_)<;>intro h<;>(try simp only [decide_eq_true_eq,decide_eq_false_iff_not,Bool.not_eq_true] at h)<;>simp [h,dj,h1,h2,aa,bH,a8])
def wd (l:List Int) (n:Int):List Int:=if n∈l then l else l++[n]
def yu (l:List Int):List (Value×PV):=l.map fun n=>(.int .i64 n,.b true)
theorem yv (n:Int):∀ l,rE false (yu l) (.int .i64 n) (.b true)=some (yu (wd l n))
 | []=>by simp [yu,rE,mE,wd]
 | a::r=>by
  have ih:=yv n r
  by_cases h:a=n
  ·subst h; simp [yu,rE,mE,wd]
  ·have h':¬ n=a:=fun e=>h e.symm
   by_cases hr:n∈r
   ·simp only [wd,hr,if_true] at ih
    simp only [yu,List.map_cons,rE,mE,if_true,and_self,decide_eq_true_eq,h,decide_false] at ih ⊢
    rw [ih]
    simp [wd,h',hr]
   ·simp only [wd,hr,if_false] at ih
    simp only [yu,List.map_cons,rE,mE,if_true,and_self,decide_eq_true_eq,h,decide_false] at ih ⊢
    rw [ih]
    simp [wd,h',hr]
theorem GW:∀ l,Bk (yu l)=some l
 | []=>rfl
 | a::r=>by have ih:=GW r; simp only [yu,List.map_cons,Bk] at ih ⊢; rw [ih]; rfl
theorem Cf {l:List Int} (n:Int) (h:l.Nodup):(wd l n).Nodup:=by
 unfold wd
 split
 ·exact h
 ·rename_i hn
  rw [List.nodup_append]
  exact ⟨h,by simp,fun a ha b hb=>by simp at hb; subst hb; exact fun e=>hn (e ▸ ha)⟩
theorem D7:∀ l:List Int,l.Nodup→xU l=true
 | [],_=>rfl
 | a::r,h=>by
  rw [List.nodup_cons] at h
  simp only [xU,Bool.and_eq_true,Bool.not_eq_true',List.contains_eq_mem,decide_eq_false_iff_not]
  exact ⟨h.1,D7 r h.2⟩
def qL (l:List Int) (x:Tm×Int):List Int:=match cD 1 x with
 | some n=>wd l n
 | none=>l
theorem D8 (ns:List (Tm×Int)):∀ l,(ns.foldl qL l).length≤l.length+ns.length∧(l.Nodup→(ns.foldl qL l).Nodup)∧∀ x,x∈ns.foldl qL l ↔ x∈l∨∃ y∈ns,cD 1 y=some x:=by
 induction ns with
 | nil=>intro l; simp
 | cons a r ih =>
  intro l
  obtain ⟨h1,h2,h3⟩:=ih (qL l a)
  rw [List.foldl_cons]
  have hk:(qL l a).length≤l.length+1∧(l.Nodup→(qL l a).Nodup)∧∀ x,x∈qL l a ↔ x∈l∨cD 1 a=some x:=by
   unfold qL
   cases hv:cD 1 a with
   | none=>simp
   | some n =>
    refine ⟨?_,Cf n,fun x=>?_⟩
    ·simp only [wd]; split<;>simp
    ·simp only [wd]
     split
     ·rename_i hm
      simp only [Option.some.injEq]
      exact ⟨.inl,fun h=>h.elim id (fun e=>e ▸ hm)⟩
     ·simp only [List.mem_append,List.mem_singleton,Option.some.injEq]
      exact ⟨fun h=>h.imp id Eq.symm,fun h=>h.imp id Eq.symm⟩
  refine ⟨by simp; omega,fun h=>h2 (hk.2.1 h),fun x=>?_⟩
  rw [h3,hk.2.2 x]
  simp only [List.mem_cons,exists_eq_or_imp,or_assoc]
theorem yw (x:Tm) (k:Int) (h0:0≤k) (h1:k≤100) (hn:0≤x.n) (hn1:x.n≤9999):az TT HH [] fB [x.enc,.i k] []=some (.ret (.tup [.i (x.n - k),.b (decide (x.hd=1) && decide (k≤x.n))]),[]):=by
 rw [B0]
 have hw:IntKind.i64.wrap (x.n - k)=x.n - k:=ai _ (by omega) (by omega)
 by_cases a:x.hd=1<;>simp [qE,hw,a]
theorem Pq (bars:List Nat) (a0:PV) (σ:Sto):az TT HH bars 206 [a0] σ=aE TT HH Ik bars [a0] σ:=ES (by decide) (by kernel_rfl) (by kernel_rfl) (by decide) (by decide) bars _ σ rfl
theorem D9 (bars:List Nat) (j:Nat) (σ:Sto) (hj:j<σ.length):RR TT HH bars 206 [.map j] σ=some (.ret (.fn (.func 235) [.ptr σ.length 0]),σ++[.var [.map j]]):=by
 rw [aX (by simp) (by simp),Pq]
 simp [Ik,hj]
theorem GX:HH 205=some (uY 235):=by kernel_rfl
theorem zq (bars:List Nat) (id j:Nat) (σ:Sto) (l:List Int) (h1:σ[id]? = some (.var [.map j])) (h2:σ[j]? = some (.mp (yu l))) (hn:l.Nodup) (hf:∀ x∈l,ue x=true) (hl:l.length≤LIM) :
  RR TT HH bars 205 [.fn (.func 235) [.ptr id 0]] σ=some (.ret (.sl false (ab (gp l))),σ):=by
 rw [Po GX (by decide) (by simp) (by simp)]
 simp only [uY,if_true,h1,h2]
 rw [GW]
 simp only [Option.bind_some,D7 l hn,Bool.true_and]
 rw [if_pos]
 ·rfl
 ·simp only [Bool.and_eq_true,List.all_eq_true,decide_eq_true_eq]; exact ⟨hf,hl⟩
def NS (t:Tm) (l:List Int):Sto:=[.var (Enc.cells t),.var [.fn (.func fB) []],.mp (yu l),.var [.map 2]]
theorem vp (t x:Tm) (k:Int) (l:List Int) (bars:List Nat) (ext:Sto) (h0:0≤k) (h1:k≤100) (hs:x.op=4→0≤x.n∧x.n≤9999) :
  RR TT HH bars cx [x.enc,.i k,.ptr 1 0,.ptr 3 0] (NS t l++ext)=some (.ret (.tup []),NS t (qL l (x,k))++ext):=by
 rw [aX (by simp) (by simp),rk]
 obtain ⟨op,hd,n,args⟩:=x
 simp only [Tm.op_mk,Tm.n_mk] at hs
 by_cases a:op=4
 ·obtain ⟨n0,n1⟩:=hs a
  have hc:=au (yw (.mk op hd n args) k h0 h1 n0 n1) (by simp) (by simp)
  have hm:=yv (n - k) l
  subst a
  by_cases b:hd=1
  ·subst b
   by_cases c:k≤n
   ·simp [NS,qL,cD,c] at hc ⊢
    simp [cV,hc,eI,hm]
   ·simp [NS,qL,cD,c] at hc ⊢
    simp [cV,hc,eI]
  ·simp [NS,qL,cD,b] at hc ⊢
   simp [cV,hc,eI]
 ·simp [NS,qL,cD,a]
  simp [cV,a]
def li (t:Tm):List Int:=(t.nds 0).foldl qL []
theorem xa (t:Tm) (h:t.ok) (hp:t.proper=true):az TT HH [] hU [t.enc,.fn (.func fB) []] []=some (.ret (.tup [.sl false (ab (gp (li t))),.i 0]),[]):=by
 rw [tB]
 have hf:=ar hp
 have hnd:=aI hp
 have h1:=au (bO t h) (by simp) (by simp)
 rw [hp] at h1
 have hgood:∀ y∈t.nds 0,(y.1.op=4→0≤y.1.n∧y.1.n≤9999)∧0≤y.2∧y.2≤100:=fun y hy=>by
  have:=kA hf (by omega) hy
  exact ⟨fun h4=>(jq this.1 h4).2.2,this.2.1,by omega⟩
 have h2:∀ bars,RR TT HH bars ck [t.enc,.i 0,.fn (.func cx) [.ptr 1 0,.ptr 3 0]] (NS t [])=some (.ret (.tup []),NS t (li t)):=fun bars=>by
  rw [aX (by simp) (by simp)]
  have:=jX cx [.ptr 1 0,.ptr 3 0] (by simp) (by simp) (NS t) qL 4 (fun _=>rfl) (fun n hn=>by simp; omega) (fun y=>(y.1.op=4→0≤y.1.n∧y.1.n≤9999)∧0≤y.2∧y.2≤100)
   (fun x k s bars ext hg=>vp t x k s bars ext hg.2.1 hg.2.2 hg.1) t h 0 1 [] bars [] hf (by omega) (by omega) hgood
  simpa [li] using this
 obtain ⟨k1,k2,k3⟩:=D8 (t.nds 0) []
 rw [p9] at k1
 have h3:=fun bars (σ:Sto)=>D9 bars 2 σ
 have h4:∀ bars,RR TT HH bars 205 [.fn (.func 235) [.ptr 4 0]] (NS t (li t)++[.var [.map 2]])=some (.ret (.sl false (ab (gp (li t)))),NS t (li t)++[.var [.map 2]]):=fun bars =>
  zq bars 4 2 _ (li t) rfl rfl (k2 (by simp)) (fun x hx=>by
   rcases (k3 x).1 hx with hx|⟨y,hy,hv⟩
   ·cases hx
   ·have:=hgood y hy
    unfold cD at hv
    split at hv
    ·rename_i hc
     have hn:=this.1 hc.1
     split at hv
     ·rename_i hne; exact absurd rfl hne
     ·split at hv
      ·simp only [Option.some.injEq] at hv
       simp only [ue,decide_eq_true_eq]; omega
      ·cases hv
    ·cases hv) (by unfold li LIM; simp only [List.length_nil] at k1; omega)
 simp [NS] at h2 h4
 have h2':∀ bars,RR TT HH bars ck [t.enc,.i 0,.fn (.func cx) [.ptr 1 0,.ptr 3 0]] [.var [.i t.op,.i t.hd,.i t.n,.sl false (ab t.args)],.var [.fn (.func fB) []],.mp [],.var [.map 2]]=some (.ret (.tup []),[.var [.i t.op,.i t.hd,.i t.n,.sl false (ab t.args)],.var [.fn (.func fB) []],.mp (yu (li t)),.var [.map 2]]):=h2
 simp [lL,h1,h2',h3,h4,aa,aj]
theorem KF (t:Tm):decide (0∈gp (li t))=occ t 0:=by
 obtain ⟨k1,k2,k3⟩:=D8 (t.nds 0) []
 rw [Bool.eq_iff_iff,decide_eq_true_eq,(gM _).mem_iff]
 unfold li occ
 rw [k3 0,List.any_eq_true]
 simp only [List.not_mem_nil,false_or]
 refine exists_congr fun y=>and_congr_right fun _=>?_
 unfold cD isV
 simp only [Bool.and_eq_true,decide_eq_true_eq]
 constructor
 ·intro h
  split at h
  ·rename_i hc
   split at h
   ·rename_i hne; exact absurd rfl hne
   ·split at h
    ·simp only [Option.some.injEq] at h
     exact ⟨hc.1,hc.2,by omega⟩
    ·cases h
  ·cases h
 ·rintro ⟨a,b,c⟩
  rw [if_pos ⟨a,b⟩,if_neg (by simp),if_pos (by omega)]
  simp; omega
theorem qM (t:Tm) (h:t.ok) (hp:t.proper=true):az TT HH [] iJ [t.enc] []=some (.ret (.tup [.sl false (ab (gp (li t))),.i 0]),[]):=by
 rw [Fc]
 have h1:=au (xa t h hp) (by simp) (by simp)
 simp [pZ,h1,aa,bH,a8]
 repeat' ((first|refine bJ ?_ ?_|refine bn ?_ ?_|refine bK ?_ ?_|refine bI ?_ ?_|refine bo ?_ ?_)<;>intro h<;>(try simp only [decide_eq_true_eq,decide_eq_false_iff_not,Bool.not_eq_true] at h)<;>simp [h,pZ,h1,aa,bH,a8])
theorem yx (t:Tm) (h:t.ok) (hp:t.proper=true):az TT HH [] oq [t.enc,.i 0] []=some (.ret (.tup [.b (occ t 0),.i 0]),[]):=by
 rw [B5]
 have h1:=au (qM t h hp) (by simp) (by simp)
 have hl:(gp (li t)).length<2 ^ 63:=by
  have k1:=(D8 (t.nds 0) []).1
  rw [p9,List.length_nil] at k1
  rw [(gM _).length_eq]; have:=aI hp; unfold li; omega
 have h2:=au (gW (gp (li t)) 0 hl) (by simp) (by simp)
 have h3:=KF t
 simp [ny,h1,h2,h3,aa,bH,a8]
 repeat' ((first|refine bJ ?_ ?_|refine bn ?_ ?_|refine bK ?_ ?_|refine bI ?_ ?_|refine bo ?_ ?_)<;>intro h<;>(try simp only [decide_eq_true_eq,decide_eq_false_iff_not,Bool.not_eq_true] at h)<;>simp [h,ny,h1,h2,h3,aa,bH,a8])
end Go.Ev

namespace Go.Ev
theorem No {α:Type} (p:α→Bool) (l:List α):∀ b,l.foldl (fun b y=>b && p y) b=(b && l.all p):=by
 induction l with
 | nil=>intro b; simp
 | cons a r ih=>intro b; rw [List.foldl_cons,ih,List.all_cons,Bool.and_assoc]
def FS (before:List Dc) (d:Dc) (c:List PV) (b:Bool):Sto:=[.var [.sl false (ab before)],.var (Enc.cells d),.var c,.var [.b b]]
theorem we (before:List Dc) (d:Dc) (c:List PV) (x:Tm) (k:Int) (b:Bool) (bars:List Nat) (ext:Sto) (hl:before.length<2 ^ 63) :
  RR TT HH bars gu [x.enc,.i k,.ptr 3 0,.ptr 0 0] (FS before d c b++ext)=some (.ret (.tup []),FS before d c (b && clN before.length (x,k))++ext):=by
 rw [aX (by simp) (by simp),yi]
 obtain ⟨op,hd,n,args⟩:=x
 simp only [clN,Tm.op_mk,Tm.hd_mk,Tm.n_mk]
 by_cases a:op=4
 ·by_cases h3:hd=3
  ·cases b<;>simp [eD,FS,a,h3,hl]
  ·by_cases h1:hd=1
   ·subst h1
    by_cases hn:n<k<;>cases b<;>simp [eD,FS,a,hn,hl]
   ·by_cases h2:hd=2
    ·subst h2
     by_cases hn:n<before.length<;>cases b<;>simp [eD,FS,a,hn,hl]
    ·cases b<;>simp [eD,FS,a,h1,h2,h3,hl]
 ·simp [eD,FS,a]
theorem Ea {sig:List Dc} {n:Int} (h0:0≤n) (h1:n<sig.length):∃ x∈sig,sig[n.toNat]? = some x∧fd sig n=decide ((Tm.core 40 x.class_).op=1):=by
 obtain ⟨x,hx,hm,-⟩:=eQ (l:=sig) (i:=n.toNat) (by omega)
 exact ⟨x,hm,hx,by unfold fd; rw [hx]⟩
theorem yy (before:List Dc) (d:Dc) (hl:before.length≤1000) (hb:∀ x∈before,x.class_.formed 1=true) (hd:d.ok):az TT HH [] la [.sl false (ab before),d.enc] []=some (.ret (.b (okD before d)),[]):=by
 rw [BZ]
 have hns:d.name.size<2 ^ 63:=ml hd.1
 have h1:=au (bO d.class_ hd.2.1) (by simp) (by simp)
 have h2:=au (B9 d.name hns) (by simp) (by simp)
 have hbl:before.length<2 ^ 63:=by omega
 unfold okD
 by_cases hp:d.class_.proper=true
 rotate_left
 ·simp only [Bool.not_eq_true] at hp
  rw [hp] at h1
  simp [du,h1,hp,aa]
 rw [hp] at h1
 by_cases hc:wT d.name=true
 rotate_left
 ·simp only [Bool.not_eq_true] at hc
  rw [hc] at h2
  simp [du,h1,h2,hp,hc,aa]
 rw [hc] at h2
 by_cases hi:d.imp<0
 ·have hi':¬ 0≤d.imp:=by omega
  simp [du,h1,h2,hp,hc,hi,hi',aa]
 have hi':0≤d.imp:=by omega
 have hf:=ar hp
 have h3:=au (dX d.class_ hf) (by simp) (by simp)
 have h4:=au (qK d.class_ hf) (by simp) (by simp)
 have h5:=au (sr d.class_ hf) (by simp) (by simp)
 have hdl:(Tm.doms 40 d.class_).length<2 ^ 63:=by have:=lh 40 d.class_; omega
 have h6:∀ bars cs b,RR TT HH bars ck [d.class_.enc,.i 0,.fn (.func gu) [.ptr 3 0,.ptr 0 0]] (FS before d cs b)=some (.ret (.tup []),FS before d cs (b && clT d.class_ before.length)):=fun bars cs b=>by
  rw [aX (by simp) (by simp)]
  have:=jX gu [.ptr 3 0,.ptr 0 0] (by simp) (by simp) (FS before d cs) (fun b y=>b && clN before.length y) 4 (fun _=>rfl) (fun n hn=>by simp; omega) (fun _=>True)
   (fun x k s bars ext _=>we before d _ x k s bars ext hbl) d.class_ hd.2.1 0 1 b bars [] hf (by omega) (by omega) (fun _ _=>trivial)
  rw [No] at this
  simpa [clT] using this
 simp only [FS,wM] at h6
 simp only [hp,hc,hi',decide_true,Bool.true_and]
 obtain ⟨k,hk⟩:=GU 40 d.class_ 0
 have hsh:=(kA hf (by omega) hk).1
 have hcl:clT d.class_ before.length=true→clN before.length (Tm.core 40 d.class_,k)=true:=fun h=>List.all_eq_true.1 h _ hk
 have hne:=GS 40 d.class_ 1 hf (by omega)
 generalize Tm.core 40 d.class_=c at *
 generalize clT d.class_ before.length=cl at *
 by_cases o1:c.op=1
 ·simp [tgt,o1] at h4 ⊢
  simp [du,h1,h2,h3,h4,h6,hp,hc,hi,hdl,aa,aj,o1]
 by_cases o4:c.op=4∧c.hd=2
 ·obtain ⟨o4,o5⟩:=o4
  simp [o4,o5] at h5
  simp [o1] at h4
  cases hcl':cl with
  | false =>
   simp [du,h1,h2,h3,h4,h5,h6,hp,hc,hi,hdl,aa,aj,hcl']
  | true =>
   have hcl:=hcl hcl'
   simp [clN,o4,o5] at hcl
   obtain ⟨_,_,n0,_⟩:=jq hsh o4
   obtain ⟨x,hxm,hx,hfam⟩:=Ea n0 hcl
   have h7:=au (qK x.class_ (hb x hxm)) (by simp) (by simp)
   rw [← hfam] at h7
   by_cases hil:d.imp≤(Tm.doms 40 d.class_).length
   ·simp [du,h1,h2,h3,h4,h5,h6,hp,hc,hi,hdl,aa,aj,hcl',tgt,o4,o5,hil,n0,hx,h7]
   ·simp [du,h1,h2,h3,h4,h5,h6,hp,hc,hi,hdl,aa,aj,hcl',hil]
 ·have ht:tgt before c=false:=by
   simp only [tgt,o1,decide_false,Bool.false_or,Bool.and_eq_false_iff,decide_eq_false_iff_not]
   by_cases o5:c.op=4
   ·exact .inr (.inl fun h=>o4 ⟨o5,h⟩)
   ·exact .inl o5
  have hq:(decide (c.op=4) && decide (c.hd=2))=false:=by
   simp only [Bool.and_eq_false_iff,decide_eq_false_iff_not]
   by_cases o5:c.op=4
   ·exact .inr fun h=>o4 ⟨o5,h⟩
   ·exact .inl o5
  rw [hq] at h5
  simp [o1] at h4
  rw [ht]
  cases hcl':decide (d.imp≤(Tm.doms 40 d.class_).length) && cl<;>simp [du,h1,h2,h3,h4,h5,h6,hp,hc,hi,hdl,aa,aj,hcl']
end Go.Ev

namespace Go.Ev
inductive Sp where
 | mk (args:List Sp) (con:Int)
def Sp.args:Sp→List Sp|.mk a _=>a
def Sp.con:Sp→Int|.mk _ a=>a
@[simp] theorem Sp.args_mk (l:List Sp) (c:Int):(Sp.mk l c).args=l:=rfl
@[simp] theorem Sp.con_mk (l:List Sp) (c:Int):(Sp.mk l c).con=c:=rfl
@[simp] theorem Sp.eta:∀ t:Sp,Sp.mk t.args t.con=t|.mk _ _=>rfl
mutual
def Sp.cells:Sp→List PV
 | .mk args con=>[.sl false (Sp.cellsL args),.i con]
def Sp.cellsL:List Sp→List (List PV)
 | []=>[]
 | t::r=>Sp.cells t::Sp.cellsL r
end
theorem Sp.cellsL_map (l:List Sp):Sp.cellsL l=l.map Sp.cells:=by
 induction l with
 | nil=>rfl
 | cons t r ih=>simp [Sp.cellsL,ih]
theorem Sp.ind {p:Sp→Prop} (h:∀ t:Sp,(∀ x∈t.args,p x)→p t):∀ t,p t
 | .mk args con=>h (.mk args con) fun t ht=>Sp.ind h t
termination_by t=>SizeOf.sizeOf t
decreasing_by
 simp at ht
 have:=List.sizeOf_lt_of_mem ht
 simp; omega
mutual
theorem Sp.below_cells (n:Nat):∀ t:Sp,below.belowAll n t.cells=true
 | .mk args con=>by simp [Sp.cells,Sp.below_cellsL n args]
theorem Sp.below_cellsL (n:Nat):∀ l:List Sp,below.belowEs n (Sp.cellsL l)=true
 | []=>rfl
 | t::r=>by simp [Sp.cellsL,Sp.below_cells n t,Sp.below_cellsL n r]
end
instance:Enc Sp:=⟨2,Sp.cells,fun t=>by cases t; rfl,Sp.below_cells,fun t=>by cases t; simp [Sp.cells,norm.normAll,norm]⟩
theorem Sp.cellsL_eq (l:List Sp):Sp.cellsL l=ab l:=Sp.cellsL_map l
@[simp] theorem uB (t:Sp):Enc.cells t=[.sl false (ab t.args),.i t.con]:=by
 cases t; rw [← Sp.cellsL_eq]; rfl
def Sp.enc (t:Sp):PV:=.agg (Enc.cells t)
theorem aD (t:Sp):PV.agg [.sl false (ab t.args),.i t.con]=t.enc:=by simp [Sp.enc]
@[simp] theorem T1 (n:Nat) (t:Sp):below n t.enc=true:=by rw [Sp.enc,Bo,Enc.below]
@[simp] theorem UX (t:Sp):norm t.enc=t.enc:=by rw [Sp.enc,norm,Enc.nrm]
@[simp] theorem Vq (t:Sp):okc t.enc=true:=rfl
@[simp] theorem T3 (t:Sp):Go.Ev.cells t.enc=[.sl false (ab t.args),.i t.con]:=by rw [Sp.enc,mi,uB]
@[simp] theorem KG (l:List Sp):bV 2 (ab l)=true:=eP l
inductive Sp.ok:Sp→Prop
 | mk {t:Sp} (h0:I64 t.con) (h1:t.args.length≤maxLen) (ha:∀ x∈t.args,Sp.ok x):Sp.ok t
theorem Sp.ok.len {t:Sp} (h:t.ok):t.args.length≤maxLen:=by cases h; assumption
theorem Sp.ok.sub {t:Sp} (h:t.ok):∀ x∈t.args,x.ok:=by cases h; assumption
def Tm.smp:Tm→Option Sp
 | .mk op hd n args =>
  if op=4∧hd=2 then some (.mk [] n)
  else if op=2 then match args with
   | [a,b]=>(a.smp).bind fun x=>(b.smp).bind fun y=>some (.mk (x::y.args) y.con)
   | _=>none
  else none
def sw:List Tm→Option (List Sp)
 | []=>some []
 | t::r=>(t.smp).bind fun x=>(sw r).bind fun l=>some (x::l)
theorem Fm {t:Tm} (h:t.op=4) (h2:t.hd=2):t.smp=some (.mk [] t.n):=by
 obtain ⟨op,hd,n,args⟩:=t
 simp only [Tm.op_mk,Tm.hd_mk] at h h2
 subst h; subst h2
 unfold Tm.smp
 simp
theorem IE {t a b:Tm} (h:t.op=2) (hab:t.args=[a,b]):t.smp=(a.smp).bind fun x=>(b.smp).bind fun y=>some (.mk (x::y.args) y.con):=by
 obtain ⟨op,hd,n,args⟩:=t
 simp only [Tm.op_mk,Tm.args_mk] at h hab
 subst h; subst hab
 conv=>lhs; unfold Tm.smp
 simp
theorem IG {t:Tm} (h:t.op≠2) (h2:¬ (t.op=4∧t.hd=2)):t.smp=none:=by
 obtain ⟨op,hd,n,args⟩:=t
 simp only [Tm.op_mk,Tm.hd_mk] at h h2
 unfold Tm.smp
 rw [if_neg h2,if_neg h]
theorem GY:∀ (k:Nat) (t:Tm) (d:Int),t.formed d=true→41 - d≤k→t.smp=if (Tm.core k t).op=4∧(Tm.core k t).hd=2 then (sw (Tm.doms k t)).map fun l=>.mk l (Tm.core k t).n else none:=by
 intro k
 induction k with
 | zero=>intro t d h hk; have:=dK h; omega
 | succ k ih =>
  intro t d h hk
  by_cases h2:t.op=2
  ·obtain ⟨a,b,hab,ha,hb⟩:=cz h h2
   rw [IE h2 hab,u5 h2 hab,mw h2 hab,ih b (d+1) hb (by push_cast at hk; omega)]
   rw [show sw (a::Tm.doms k b)=(a.smp).bind fun x=>(sw (Tm.doms k b)).bind fun l=>some (x::l) from rfl]
   cases a.smp with
   | none=>simp
   | some x =>
    split
    ·cases sw (Tm.doms k b)<;>simp
    ·simp
  ·rw [w5 h2,oZ h2]
   by_cases h4:t.op=4∧t.hd=2
   ·rw [Fm h4.1 h4.2,if_pos h4]; simp [sw]
   ·rw [IG h2 h4,if_neg h4]
mutual
def Sp.cons:Sp→Nat
 | .mk args _=>1+Sp.consL args
def Sp.consL:List Sp→Nat
 | []=>0
 | t::r=>t.cons+Sp.consL r
end
theorem oK:∀ t:Sp,t.cons=1+Sp.consL t.args
 | .mk _ _=>by rw [Sp.cons]; rfl
mutual
def Sp.fits:Sp→Bool
 | .mk args con=>decide (0≤con) && (decide (con≤9999) && Sp.fitsL args)
def Sp.fitsL:List Sp→Bool
 | []=>true
 | t::r=>t.fits && Sp.fitsL r
end
theorem yz:∀ t:Sp,t.fits=(decide (0≤t.con) && (decide (t.con≤9999) && Sp.fitsL t.args))
 | .mk _ _=>by rw [Sp.fits]; rfl
def Sp.small (t:Sp):Bool:=decide (t.cons≤600) && t.fits
def grV (k:Int) (x:Tm×Int):Bool:=decide (x.1.op=4) && (decide (x.1.hd=1) && (decide (x.2≤x.1.n) && decide (9999<x.1.n+k)))
mutual
theorem GZ:∀ (t:Tm) (k f d:Int),0≤k→t.formed d=true→(t.moved k f).formed d=!(t.nds f).any (grV k)
 | .mk op hd n args,k,f,d,h0,hf=>by
  have hf0:=hf
  rw [Tm.formed] at hf
  simp only [Bool.and_eq_true,decide_eq_true_eq] at hf
  rw [Tm.moved,Tm.formed,qJ,Eb args op 0 k f (d+1) h0 hf.2.2,Tm.nds,List.any_cons,Bool.not_or]
  simp only [hf.1,decide_true,Bool.true_and]
  congr 1
  have h1:=hf.2.1
  by_cases hc:op=4∧hd=1∧f≤n
  ·rw [if_pos hc]
   obtain ⟨rfl,rfl,hc⟩:=hc
   have h2:=(jq h1 rfl).2.2
   by_cases h9:9999<n+k
   ·have:¬ n+k≤9999:=by omega
    simp [lg,grV,hc,h9,this]
   ·have h3:n+k≤9999:=by omega
    have h4:0≤n+k:=by omega
    simp [lg,grV,hc,h9,h3,h4]
  ·rw [if_neg hc,h1]
   have:grV k (Tm.mk op hd n args,f)=false:=by
    unfold grV
    simp only [Tm.op_mk,Tm.hd_mk,Tm.n_mk]
    by_cases a:op=4
    ·by_cases b:hd=1
     ·by_cases c:f≤n
      ·exact absurd ⟨a,b,c⟩ hc
      ·simp [c]
     ·simp [b]
    ·simp [a]
   rw [this]; rfl
theorem Eb:∀ (l:List Tm) (op i k f d:Int),0≤k→Tm.formedL l d=true→Tm.formedL (Tm.movedL op l i k f) d=!(Tm.ndsL op l i f).any (grV k)
 | [],_,_,_,_,_,_,_=>rfl
 | t::r,op,i,k,f,d,h0,hf=>by
  rw [Tm.formedL] at hf
  simp only [Bool.and_eq_true] at hf
  rw [Tm.movedL,Tm.formedL,GZ t k _ d h0 hf.1,Eb r op (i+1) k f d h0 hf.2,Tm.ndsL,List.any_append,Bool.not_or]
end
theorem Fo {t:Tm} (h:t.proper=true) (k f:Int) (h0:0≤k):(t.moved k f).proper=!(t.nds f).any (grV k):=by
 unfold Tm.proper
 rw [ux,decide_eq_true (aI h),Bool.true_and,GZ t k f 1 h0 (ar h)]
abbrev SR:=Int×Int×Tm
def tz:Tm:=.mk 0 0 0 []
abbrev SF:=Tm→Int→Tm→Sp→Int→SR
def dk (S:SF) (op n:Int) (s:Tm) (sp:Sp):List Tm→Int→Int→Int×Int×List Tm
 | [],_,st=>(st,0,[])
 | t::r,i,st =>
  let a:=S t (n+und op i) s sp st
  if a.2.1≠0 then (a.1,a.2.1,[]) else
  let b:=dk S op n s sp r (i+1) a.1
  if b.2.1≠0 then (b.1,b.2.1,[]) else (b.1,0,a.2.2::b.2.2)
def fH (S:SF):List Tm→Tm→Sp→Int→SR
 | [],f,_,st=>if f.proper then (st,0,f) else (st,5,tz)
 | x::r,f,sp,st =>
  if f.op≠3 then (st,23,tz) else
  match sp.args,f.args with
  | s::q,[b] =>
   let a:=S b 0 x s st
   if a.2.1≠0 then (a.1,a.2.1,tz) else fH S r a.2.2 (.mk q sp.con) a.1
  | _,_=>(st,23,tz)
def pD (st:Int) (t:Tm):SR:=if t.proper then (st,0,t) else (st,5,tz)
def aN:Nat→SF
 | 0,_,_,_,_,st=>(st+1,5,tz)
 | k+1,t,n,s,sp,st =>
  if 20000<st+1 then (st+1,5,tz) else
  let a:=dk (aN k) t.op n s sp t.args 0 (st+1)
  if a.2.1≠0 then (a.1,a.2.1,tz) else
  if t.op=4∧t.hd=1∧t.n=n then
   (if (s.moved n 0).proper then fH (aN k) a.2.2 (s.moved n 0) sp a.1 else (a.1,5,tz))
  else pD a.1 (.mk t.op t.hd (if t.op=4∧t.hd=1∧n<t.n then t.n - 1 else t.n) a.2.2)
end Go.Ev

namespace Go.Ev
mutual
theorem AF:∀ (t:Tm) (b:Int),t.ok→∀ x∈t.nds b,x.1.ok
 | .mk op hd n args,b,h,x,hx=>by
  rw [Tm.nds] at hx
  rcases List.mem_cons.1 hx with rfl|hx
  ·exact h
  ·exact G0 args op 0 b h.sub x hx
theorem G0:∀ (l:List Tm) (op i b:Int),(∀ x∈l,x.ok)→∀ x∈Tm.ndsL op l i b,x.1.ok
 | [],_,_,_,_,x,hx=>by cases hx
 | t::r,op,i,b,h,x,hx=>by
  rw [Tm.ndsL] at hx
  rcases List.mem_append.1 hx with hx|hx
  ·exact AF t _ (h t (by simp)) x hx
  ·exact G0 r op (i+1) b (fun y hy=>h y (by simp [hy])) x hx
end
def SH (t:Tm) (k f:Int) (z:List PV) (l g:Bool):Sto:=[.var (Enc.cells t),.var [.i k],.var [.i f],.var z,.var [.b l],.var [.b g]]
def grN (k f:Int) (x:Tm×Int):Bool:=decide (x.1.op=4) && (decide (x.1.hd=1) && (decide (f≤x.1.n - x.2) && decide (9999<x.1.n+k)))
theorem xb (t:Tm) (k f:Int) (z:List PV) (l g:Bool) (x:Tm) (b:Int) (bars:List Nat) (ext:Sto) (hk:0≤k) (hk1:k≤9999) (h0:0≤b) (h1:b≤100) (hn:x.op=4→0≤x.n∧x.n≤9999) (hn':I64 x.n) :
  RR TT HH bars dT [x.enc,.i b,.ptr 2 0,.ptr 4 0,.ptr 1 0,.ptr 5 0] (SH t k f z l g++ext)=some (.ret (.tup []),SH t k f z l (g || grN k f (x,b))++ext):=by
 rw [aX (by simp) (by simp),tw]
 obtain ⟨op,hd,n,args⟩:=x
 simp only [Tm.op_mk,Tm.n_mk] at hn hn'
 have hk0:¬ k<0:=by omega
 by_cases a:op=4
 ·obtain ⟨n0,n1⟩:=hn a
  have hw:IntKind.i64.wrap (n - b)=n - b:=ai _ (by omega) (by omega)
  have hw2:IntKind.i64.wrap (n+k)=n+k:=ai _ (by omega) (by omega)
  by_cases c:hd=1
  ·by_cases e:f≤n - b
   ·by_cases q:9999<n+k<;>cases l<;>cases g<;>simp [da,SH,grN,a,c,e,q,hw,hw2,hk0]
   ·simp [da,SH,grN,a,c,e,hw]
  ·simp [da,SH,grN,a,c,hw]
 ·simp [da,SH,grN,a]
theorem Pr {α:Type} (p:α→Bool) (l:List α):∀ b,l.foldl (fun b y=>b || p y) b=(b || l.any p):=by
 induction l with
 | nil=>intro b; simp
 | cons a r ih=>intro b; rw [List.foldl_cons,ih,List.any_cons,Bool.or_assoc]
theorem Pu (t:Tm) (k f:Int):(t.nds 0).any (grN k f)=(t.nds f).any (grV k):=by
 have:=AD t 0 f
 rw [Int.zero_add] at this
 rw [this,List.any_map]
 congr 1
 funext x
 have:decide (f≤x.1.n - x.2)=decide (x.2+f≤x.1.n):=decide_eq_decide.2 (by omega)
 simp [grN,grV,this]
theorem zZ (t:Tm) (h:t.ok) (k f:Int) (hk:0≤k) (hk1:k≤9999) (hf0:0≤f) (hf1:f≤9999):az TT HH [] iN [t.enc,.i k,.i f] []=some (.ret (if t.proper then (if (t.moved k f).proper then .tup [(t.moved k f).enc,.i 0] else .tup [tz.enc,.i 5]) else .tup [tz.enc,.i 2]),[]):=by
 rw [vB]
 have h1:=au (bO t h) (by simp) (by simp)
 have k1:¬ k < -9999:=by omega
 have k2:¬ 9999<k:=by omega
 have f1:¬ f<0:=by omega
 have f2:¬ 9999<f:=by omega
 cases hp:t.proper with
 | false =>
  rw [hp] at h1
  simp [jo,h1,aa]
  simp [tz,Tm.enc]
 | true =>
  rw [hp] at h1
  have hfm:=ar hp
  have h2:∀ bars z,RR TT HH bars ck [t.enc,.i 0,.fn (.func dT) [.ptr 2 0,.ptr 4 0,.ptr 1 0,.ptr 5 0]] (SH t k f z false false)=some (.ret (.tup []),SH t k f z false ((t.nds f).any (grV k))):=fun bars z=>by
   rw [aX (by simp) (by simp)]
   have:=jX dT [.ptr 2 0,.ptr 4 0,.ptr 1 0,.ptr 5 0] (by simp) (by simp) (SH t k f z false) (fun g y=>g || grN k f y) 6 (fun _=>rfl) (fun n hn=>by simp; omega) (fun y=>(y.1.op=4→0≤y.1.n∧y.1.n≤9999)∧I64 y.1.n∧0≤y.2∧y.2≤100)
    (fun x b g bars ext hg=>xb t k f z false g x b bars ext hk hk1 hg.2.2.1 hg.2.2.2 hg.1 hg.2.1) t h 0 1 false bars [] hfm (by omega) (by omega) (fun y hy=>by
     have h3:=kA hfm (by omega) hy
     exact ⟨fun h4=>(jq h3.1 h4).2.2,(AF t 0 h y hy).here.2.2.1,h3.2.1,by omega⟩)
   rw [Pr,Pu] at this
   simpa using this
  simp only [SH,fK] at h2
  have hn:=aI hp
  have h3:=au (tD t h k f 1 (by omega) (by omega) hf0 hfm (by omega) (by omega)) (by simp) (by simp)
  rw [Fo hp k f hk]
  cases hg:(t.nds f).any (grV k) with
  | true =>
   rw [hg] at h2
   simp [jo,h1,h2,h3,k1,k2,f1,f2,aj,aa]
   simp [tz,Tm.enc]
  | false =>
   rw [hg] at h2
   simp [jo,h1,h2,h3,k1,k2,f1,f2,aj,aa]
theorem Cg (t:Tm) (h:t.ok) (k f:Int) (hk:0≤k) (hk1:k≤9999) (hf0:0≤f) (hf1:f≤9999) (hp:t.proper=true):az TT HH [] jj [t.enc,.i k,.i f] []=some (.ret (if (t.moved k f).proper then .tup [(t.moved k f).enc,.i 0] else .tup [tz.enc,.i 5]),[]):=by
 rw [um]
 have hf:=ar hp
 have hn:=aI hp
 have h1:=au (bN t h) (by simp) (by simp)
 have h3:=au (su t h k f 1 (by omega) (by omega) hf hf0 (by omega) (by omega)) (by simp) (by simp)
 have h4:=au (bN (t.moved k f) (o0 t h k f 1 (by omega) (by omega) hf)) (by simp) (by simp)
 rw [hp] at h1
 have k1:¬ k < -9999:=by omega
 have k2:¬ 9999<k:=by omega
 have k3:¬ k<0:=by omega
 have f1:¬ f<0:=by omega
 have f2:¬ 9999<f:=by omega
 cases hq:(t.moved k f).proper with
 | true =>
  rw [hq] at h4
  simp [jT,h1,h3,h4,k1,k2,k3,f1,f2,aa]
 | false =>
  rw [hq] at h4
  simp [jT,h1,h3,h4,k1,k2,k3,f1,f2,aa]
  simp [tz,Tm.enc]
theorem yA (op hd n b:Int):az TT HH [] kW [.agg [.i op,.i hd,.i n,.sl true []],.i b] []=some (.ret (.agg [.i op,.i hd,.i n,.sl true []]),[]):=by
 rw [BG]
 simp [qz]
theorem uC (t:Tm) (h:t.ok) (d:Int) (hf:t.formed d=true) (hd:0≤d) (hn:t.nodes≤4000):az TT HH [] dh [t.enc] []=some (.ret t.enc,[]):=by
 rw [EZ]
 have h1:=tq kW (by simp) [] (fun _ _ n _=>n) [] (.inr ⟨rfl,rfl⟩) (fun _ _=>rfl) (fun _=>True)
  (fun x b bars ext _=>au (yA x.op x.hd x.n b) (by simp) (by simp) bars _) t h 0 d [] [] hf (by omega) hd hn (by simp) (fun _ _=>trivial)
 rw [JB] at h1
 have h2:=au h1 (by simp) (by simp)
 simp [sY,h2,aa]
end Go.Ev

namespace Go.Ev
theorem T4:tz.ok:=⟨⟨by simp [tz,I64],by simp [tz,I64],by simp [tz,I64],by simp [tz]⟩,by simp [tz]⟩
structure SGood (st:Int) (a:SR):Prop where
 lo:st≤a.1
 hi:a.1≤20000
 ok:a.2.2.ok
 pr:a.2.2.proper=true
def RP (S:SF):Prop:=∀ (t:Tm) (n:Int) (s:Tm) (sp:Sp) (st d:Int),t.ok→t.formed d=true→0≤n→n+41 - d≤9999→s.ok→s.proper=true→sp.ok→0≤st→st≤20000→(S t n s sp st).2.1=0→SGood st (S t n s sp st)
theorem Ch {S:SF} (hS:RP S) (op n:Int) (s:Tm) (sp:Sp) (d:Int) (h0:0≤n) (hn:n+41 - d≤9999) (hs:s.ok) (hsp:s.proper=true) (hp:sp.ok) :
  ∀ (l:List Tm) (i st:Int),(∀ x∈l,x.ok)→(∀ x∈l,x.formed (d+1)=true)→0≤st→st≤20000→(dk S op n s sp l i st).2.1=0 →
   st≤(dk S op n s sp l i st).1∧(dk S op n s sp l i st).1≤20000∧(∀ x∈(dk S op n s sp l i st).2.2,x.ok∧x.proper=true)∧(dk S op n s sp l i st).2.2.length=l.length:=by
 intro l
 induction l with
 | nil=>intro i st _ _ a b _; simp [dk,b]
 | cons t r ih =>
  intro i st ha hf a b h
  have u0:=iX op i
  have u1:=kz op i
  have g:=hS t (n+und op i) s sp st (d+1) (ha t (by simp)) (hf t (by simp)) (by omega) (by omega) hs hsp hp a b
  unfold dk at h ⊢
  by_cases h1:(S t (n+und op i) s sp st).2.1=0
  ·have g:=g h1
   simp only [h1,ne_eq,not_true,if_false] at h ⊢
   have k:=ih (i+1) _ (fun x hx=>ha x (by simp [hx])) (fun x hx=>hf x (by simp [hx])) (Int.le_trans a g.lo) g.hi
   by_cases h2:(dk S op n s sp r (i+1) (S t (n+und op i) s sp st).1).2.1=0
   ·obtain ⟨k1,k2,k3,k4⟩:=k h2
    simp only [h2,not_true,if_false]
    refine ⟨Int.le_trans g.lo k1,k2,fun x hx=>?_,by simp [k4]⟩
    rcases List.mem_cons.1 hx with rfl|hx
    ·exact ⟨g.ok,g.pr⟩
    ·exact k3 x hx
   ·simp [h2] at h
  ·simp [h1] at h
theorem Fp {f:Tm} (hp:f.proper=true) (h:f.op=3):∃ b,f.args=[b]∧b.formed 2=true:=by
 have hf:=ar hp
 have h1:=fw hf
 rw [h] at h1
 unfold lg at h1
 simp at h1
 obtain ⟨b,hb⟩:=List.length_eq_one_iff.1 (show f.args.length=1 by omega)
 exact ⟨b,hb,cR hf (by rw [hb]; simp)⟩
theorem Ci {S:SF} (hS:RP S):∀ (l:List Tm) (f:Tm) (sp:Sp) (st:Int),(∀ x∈l,x.ok∧x.proper=true)→f.ok→f.proper=true→sp.ok→0≤st→st≤20000→(fH S l f sp st).2.1=0→SGood st (fH S l f sp st):=by
 intro l
 induction l with
 | nil=>intro f sp st _ hf hp _ a b _; simp only [fH,hp,if_true]; exact ⟨Int.le_refl _,b,hf,hp⟩
 | cons x r ih =>
  intro f sp st hl hf hp hsp a b h
  unfold fH at h ⊢
  by_cases h3:f.op=3
  ·obtain ⟨y,hy,hfy⟩:=Fp hp h3
   simp only [h3,hy,ne_eq,not_true,if_false] at h ⊢
   cases hq:sp.args with
   | nil=>simp [hq] at h
   | cons s q =>
    simp only [hq] at h ⊢
    have hx:=hl x (by simp)
    have hs:s.ok:=hsp.sub s (by rw [hq]; simp)
    have hq':(Sp.mk q sp.con).ok:=by
     cases hsp with
     | mk h0 h1 ha=>exact ⟨h0,by simp only [Sp.args_mk]; rw [hq] at h1; simp at h1; omega,fun z hz=>ha z (by rw [hq]; simp at hz ⊢; exact .inr hz)⟩
    have g:=hS y 0 x s st 2 (hf.sub y (by rw [hy]; simp)) hfy (by omega) (by omega) hx.1 hx.2 hs a b
    by_cases h1:(S y 0 x s st).2.1=0
    ·have g:=g h1
     simp only [h1,not_true,if_false] at h ⊢
     have k:=ih _ (Sp.mk q sp.con) _ (fun z hz=>hl z (by simp [hz])) g.ok g.pr hq' (Int.le_trans a g.lo) g.hi h
     exact ⟨Int.le_trans g.lo k.lo,k.hi,k.ok,k.pr⟩
    ·simp [h1] at h
  ·simp [h3] at h
theorem jg:∀ k,RP (aN k)
 | 0=>fun t n s sp st d _ _ _ _ _ _ _ _ _ h=>by simp [aN] at h
 | k+1=>fun t n s sp st d ht hf h0 hn hs hp hsp a b h=>by
  unfold aN at h ⊢
  by_cases h1:20000<st+1
  ·simp [h1] at h
  rw [if_neg h1] at h ⊢
  have g:=Ch (jg k) t.op n s sp d h0 hn hs hp hsp t.args 0 (st+1) ht.sub (fun x hx=>cR hf hx) (by omega) (by omega)
  by_cases h2:(dk (aN k) t.op n s sp t.args 0 (st+1)).2.1=0
  ·obtain ⟨g1,g2,g3,g4⟩:=g h2
   simp only [h2,ne_eq,not_true,if_false] at h ⊢
   generalize dk (aN k) t.op n s sp t.args 0 (st+1)=A at *
   by_cases h3:t.op=4∧t.hd=1∧t.n=n
   ·rw [if_pos h3] at h ⊢
    by_cases h4:(s.moved n 0).proper=true
    ·rw [if_pos h4] at h ⊢
     have k:=Ci (jg k) A.2.2 _ sp A.1 g3 (o0 s hs n 0 1 (by omega) (by have:=dK hf; omega) (ar hp)) h4 hsp (by omega) g2 h
     exact ⟨by have:=k.lo; omega,k.hi,k.ok,k.pr⟩
    ·simp [h4] at h
   ·rw [if_neg h3] at h ⊢
    have hh:=ht.here
    have hn':I64 (if t.op=4∧t.hd=1∧n<t.n then t.n - 1 else t.n):=by
     have:=hh.2.2.1
     split
     ·unfold I64 at *; omega
     ·exact this
    generalize (if t.op=4∧t.hd=1∧n<t.n then t.n - 1 else t.n)=n' at *
    unfold pD at h ⊢
    by_cases h4:(Tm.mk t.op t.hd n' A.2.2).proper=true
    ·rw [if_pos h4]
     exact ⟨by simp only; omega,g2,⟨⟨hh.1,hh.2.1,hn',by simp only [Tm.args_mk]; rw [g4]; exact hh.2.2.2⟩,fun x hx=>(g3 x hx).1⟩,h4⟩
    ·rw [if_neg h4] at h; simp at h
  ·simp [h2] at h
end Go.Ev

namespace Go.Ev
mutual
def Tm.mb (B:Int):Tm→Bool
 | .mk op hd n args=>(!(decide (op=4) && decide (hd=3)) || decide (n<B)) && Tm.mbL B args
def Tm.mbL (B:Int):List Tm→Bool
 | []=>true
 | t::r=>t.mb B && Tm.mbL B r
end
theorem nK (B:Int):∀ t:Tm,t.mb B=((!(decide (t.op=4) && decide (t.hd=3)) || decide (t.n<B)) && Tm.mbL B t.args)
 | .mk _ _ _ _=>by rw [Tm.mb]; rfl
theorem mbL_mem {B:Int} {l:List Tm}:Tm.mbL B l=true ↔ ∀ x∈l,x.mb B=true:=by
 induction l with
 | nil=>simp [Tm.mbL]
 | cons a r ih=>simp [Tm.mbL,ih]
mutual
theorem Cj (B:Int):∀ (t:Tm) (k f:Int),(t.moved k f).mb B=t.mb B
 | .mk op hd n args,k,f=>by
  rw [Tm.moved,Tm.mb,Tm.mb,Ec B args op 0 k f]
  congr 1
  by_cases h:op=4∧hd=1∧f≤n
  ·have:¬ hd=3:=by omega
   simp [this]
  ·rw [if_neg h]
theorem Ec (B:Int):∀ (l:List Tm) (op i k f:Int),Tm.mbL B (Tm.movedL op l i k f)=Tm.mbL B l
 | [],_,_,_,_=>rfl
 | t::r,op,i,k,f=>by rw [Tm.movedL,Tm.mbL,Tm.mbL,Cj B t,Ec B r]
end
theorem oL {B C:Int} (h:B≤C):∀ t:Tm,t.mb B=true→t.mb C=true :=
 Tm.ind fun t ih ht=>by
  rw [nK] at ht ⊢
  simp only [Bool.and_eq_true] at ht ⊢
  refine ⟨?_,mbL_mem.2 fun x hx=>ih x hx (mbL_mem.1 ht.2 x hx)⟩
  have h1:=ht.1
  cases a:decide (t.op=4)<;>cases b:decide (t.hd=3)<;>simp [a,b] at h1 ⊢
  omega
def mV (B:Int) (x:Tm×Int):Bool:=!(decide (x.1.op=4) && decide (x.1.hd=3)) || decide (x.1.n<B)
mutual
theorem Fq (B:Int):∀ (t:Tm) (b:Int),t.mb B=(t.nds b).all (mV B)
 | .mk op hd n args,b=>by rw [Tm.mb,Tm.nds,List.all_cons,JC B args op 0 b]; rfl
theorem JC (B:Int):∀ (l:List Tm) (op i b:Int),Tm.mbL B l=(Tm.ndsL op l i b).all (mV B)
 | [],_,_,_=>rfl
 | t::r,op,i,b=>by rw [Tm.mbL,Tm.ndsL,List.all_append,Fq B t,JC B r]
end
def SMb (B:Int) (S:SF):Prop:=∀ (t:Tm) (n:Int) (s:Tm) (sp:Sp) (st:Int),t.mb B=true→s.mb B=true→(S t n s sp st).2.1=0→(S t n s sp st).2.2.mb B=true
theorem Pv {B:Int} {S:SF} (hS:SMb B S) (op n:Int) (s:Tm) (sp:Sp) (hs:s.mb B=true):∀ (l:List Tm) (i st:Int),Tm.mbL B l=true→(dk S op n s sp l i st).2.1=0→Tm.mbL B (dk S op n s sp l i st).2.2=true:=by
 intro l
 induction l with
 | nil=>intro i st _ _; rfl
 | cons t r ih =>
  intro i st h he
  rw [Tm.mbL,Bool.and_eq_true] at h
  unfold dk at he ⊢
  by_cases h1:(S t (n+und op i) s sp st).2.1=0
  ·simp only [h1,ne_eq,not_true,if_false] at he ⊢
   by_cases h2:(dk S op n s sp r (i+1) (S t (n+und op i) s sp st).1).2.1=0
   ·simp only [h2,not_true,if_false]
    rw [Tm.mbL,hS t _ s sp st h.1 hs h1,ih _ _ h.2 h2]; rfl
   ·simp [h2] at he
  ·simp [h1] at he
theorem RQ {B:Int} {f b:Tm} (hb:f.args=[b]) (h:f.mb B=true):b.mb B=true:=by
 rw [nK,Bool.and_eq_true] at h
 exact mbL_mem.1 h.2 b (by rw [hb]; simp)
theorem Pw {B:Int} {S:SF} (hS:SMb B S):∀ (l:List Tm) (f:Tm) (sp:Sp) (st:Int),Tm.mbL B l=true→f.mb B=true→(fH S l f sp st).2.1=0→(fH S l f sp st).2.2.mb B=true:=by
 intro l
 induction l with
 | nil=>intro f sp st _ hf h; unfold fH at h ⊢; split<;>simp_all
 | cons x r ih =>
  intro f sp st hl hf h
  rw [Tm.mbL,Bool.and_eq_true] at hl
  unfold fH at h ⊢
  by_cases h3:f.op=3
  ·simp only [h3,ne_eq,not_true,if_false] at h ⊢
   cases hq:sp.args with
   | nil=>simp [hq] at h
   | cons s q =>
    cases hb:f.args with
    | nil=>simp [hq,hb] at h
    | cons b l' =>
     cases l' with
     | cons _ _=>simp [hq,hb] at h
     | nil =>
      simp only [hq,hb] at h ⊢
      by_cases h1:(S b 0 x s st).2.1=0
      ·simp only [h1,not_true,if_false] at h ⊢
       exact ih _ _ _ hl.2 (hS b 0 x s st (RQ hb hf) hl.1 h1) h
      ·simp [h1] at h
  ·simp [h3] at h
theorem Fr (B:Int):∀ k,SMb B (aN k)
 | 0=>fun t n s sp st _ _ h=>by simp [aN] at h
 | k+1=>fun t n s sp st ht hs h=>by
  unfold aN at h ⊢
  by_cases h1:20000<st+1
  ·simp [h1] at h
  rw [if_neg h1] at h ⊢
  rw [nK,Bool.and_eq_true] at ht
  have g:=Pv (Fr B k) t.op n s sp hs t.args 0 (st+1) ht.2
  by_cases h2:(dk (aN k) t.op n s sp t.args 0 (st+1)).2.1=0
  ·have g:=g h2
   simp only [h2,ne_eq,not_true,if_false] at h ⊢
   generalize dk (aN k) t.op n s sp t.args 0 (st+1)=A at *
   by_cases h3:t.op=4∧t.hd=1∧t.n=n
   ·rw [if_pos h3] at h ⊢
    by_cases h4:(s.moved n 0).proper=true
    ·rw [if_pos h4] at h ⊢
     exact Pw (Fr B k) A.2.2 _ sp A.1 g (by rw [Cj]; exact hs) h
    ·simp [h4] at h
   ·rw [if_neg h3] at h ⊢
    have hn':(!(decide (t.op=4) && decide (t.hd=3)) || decide ((if t.op=4∧t.hd=1∧n<t.n then t.n - 1 else t.n)<B))=true:=by
     by_cases h5:t.op=4∧t.hd=1∧n<t.n
     ·have:¬ t.hd=3:=by omega
      simp [this]
     ·rw [if_neg h5]; exact ht.1
    generalize (if t.op=4∧t.hd=1∧n<t.n then t.n - 1 else t.n)=n' at *
    unfold pD at h ⊢
    by_cases h4:(Tm.mk t.op t.hd n' A.2.2).proper=true
    ·rw [if_pos h4,nK,Bool.and_eq_true]
     exact ⟨hn',g⟩
    ·simp [h4] at h
  ·simp [h2] at h
mutual
def Tm.fv:Tm→Int→Bool
 | .mk op hd n args,k=>(decide (op=4) && (decide (hd=1) && decide (n=k))) || Tm.fvL op args 0 k
def Tm.fvL (op:Int):List Tm→Int→Int→Bool
 | [],_,_=>false
 | t::r,i,k=>t.fv (k+und op i) || Tm.fvL op r (i+1) k
end
theorem G1:∀ (t:Tm) (k:Int),t.fv k=((decide (t.op=4) && (decide (t.hd=1) && decide (t.n=k))) || Tm.fvL t.op t.args 0 k)
 | .mk _ _ _ _,_=>by rw [Tm.fv]; rfl
mutual
theorem Np:∀ (t:Tm) (b k:Int),t.fv (b+k)=(t.nds b).any (isV k)
 | .mk op hd n args,b,k=>by
  rw [Tm.fv,Tm.nds,List.any_cons,JD args op 0 b k]; rfl
theorem JD:∀ (l:List Tm) (op i b k:Int),Tm.fvL op l i (b+k)=(Tm.ndsL op l i b).any (isV k)
 | [],_,_,_,_=>rfl
 | t::r,op,i,b,k=>by
  rw [Tm.fvL,Tm.ndsL,List.any_append,← Np t _ k,JD r]
  congr 2; omega
end
theorem II (t:Tm) (k:Int):occ t k=t.fv k:=by
 have:=Np t 0 k
 rw [Int.zero_add] at this
 exact this.symm
mutual
theorem Ck:∀ (t:Tm) (c f k:Int),(t.moved c f).fv k=true→(k<f∧t.fv k=true)∨(f≤k - c∧t.fv (k - c)=true)
 | .mk op hd n args,c,f,k,h=>by
  rw [Tm.moved,Tm.fv,Bool.or_eq_true] at h
  rw [Tm.fv,Tm.fv]
  rcases h with h|h
  ·simp only [Bool.and_eq_true,decide_eq_true_eq] at h
   obtain ⟨rfl,rfl,h⟩:=h
   by_cases g:f≤n
   ·rw [if_pos ⟨rfl,rfl,g⟩] at h
    exact .inr ⟨by omega,by simp; left; omega⟩
   ·rw [if_neg (by omega)] at h
    exact .inl ⟨by omega,by simp [h]⟩
  ·rcases Ed args op 0 c f k h with ⟨a,b⟩|⟨a,b⟩
   ·exact .inl ⟨a,by simp [b]⟩
   ·exact .inr ⟨a,by simp [b]⟩
theorem Ed:∀ (l:List Tm) (op i c f k:Int),Tm.fvL op (Tm.movedL op l i c f) i k=true→(k<f∧Tm.fvL op l i k=true)∨(f≤k - c∧Tm.fvL op l i (k - c)=true)
 | [],_,_,_,_,_,h=>by simp [Tm.movedL,Tm.fvL] at h
 | t::r,op,i,c,f,k,h=>by
  rw [Tm.movedL,Tm.fvL,Bool.or_eq_true] at h
  rw [Tm.fvL,Tm.fvL]
  rcases h with h|h
  ·rcases Ck t c _ _ h with ⟨a,b⟩|⟨a,b⟩
   ·exact .inl ⟨by omega,by simp [b]⟩
   ·exact .inr ⟨by omega,by rw [show k - c+und op i=k+und op i - c by omega,b]; rfl⟩
  ·rcases Ed r op (i+1) c f k h with ⟨a,b⟩|⟨a,b⟩
   ·exact .inl ⟨a,by simp [b]⟩
   ·exact .inr ⟨a,by simp [b]⟩
end
def SFv (S:SF):Prop:=∀ (t:Tm) (n:Int) (s:Tm) (sp:Sp) (st k:Int),0≤n→0≤k→(S t n s sp st).2.1=0→(S t n s sp st).2.2.fv k=true→(k<n∧t.fv k=true)∨(n≤k∧t.fv (k+1)=true)∨(n≤k∧s.fv (k - n)=true)
theorem Px {S:SF} (hS:SFv S) (op n:Int) (s:Tm) (sp:Sp) (h0:0≤n) (op':Int) (ho:op'=op):∀ (l:List Tm) (i st k:Int),0≤k→(dk S op n s sp l i st).2.1=0→Tm.fvL op' (dk S op n s sp l i st).2.2 i k=true →
  (k<n∧Tm.fvL op l i k=true)∨(n≤k∧Tm.fvL op l i (k+1)=true)∨(n≤k∧s.fv (k - n)=true):=by
 subst ho
 intro l
 induction l with
 | nil=>intro i st k _ _ h; simp [dk,Tm.fvL] at h
 | cons t r ih =>
  intro i st k hk he h
  unfold dk at he h
  have u0:=iX op' i
  by_cases h1:(S t (n+und op' i) s sp st).2.1=0
  ·simp only [h1,ne_eq,not_true,if_false] at he h
   by_cases h2:(dk S op' n s sp r (i+1) (S t (n+und op' i) s sp st).1).2.1=0
   ·simp only [h2,not_true,if_false] at h
    rw [Tm.fvL,Bool.or_eq_true] at h
    rw [Tm.fvL,Tm.fvL]
    rcases h with h|h
    ·rcases hS t _ s sp st _ (by omega) (by omega) h1 h with ⟨a,b⟩|⟨a,b⟩|⟨a,b⟩
     ·exact .inl ⟨by omega,by simp [b]⟩
     ·exact .inr (.inl ⟨by omega,by rw [show k+1+und op' i=k+und op' i+1 by omega,b]; rfl⟩)
     ·exact .inr (.inr ⟨by omega,by rw [show k - n=k+und op' i - (n+und op' i) by omega]; exact b⟩)
    ·rcases ih _ _ k hk h2 h with ⟨a,b⟩|⟨a,b⟩|h
     ·exact .inl ⟨a,by simp [b]⟩
     ·exact .inr (.inl ⟨a,by simp [b]⟩)
     ·exact .inr (.inr h)
   ·simp [h2] at he
  ·simp [h1] at he
theorem Py (op:Int) (ho:op=4):∀ (l:List Tm) (i k:Int),Tm.fvL op l i k=l.any (·.fv k):=by
 intro l
 induction l with
 | nil=>intro i k; rfl
 | cons a r ih =>
  intro i k
  rw [Tm.fvL,ih,List.any_cons]
  congr 2
  unfold und; rw [if_neg (by omega)]; omega
theorem RS {f b:Tm} (h3:f.op=3) (hb:f.args=[b]) (k:Int):f.fv k=b.fv (k+1):=by
 rw [G1,hb,h3]
 simp [Tm.fvL,und]
theorem T5 {f a b:Tm} (h2:f.op=2) (hb:f.args=[a,b]) (k:Int):f.fv k=(a.fv k || b.fv (k+1)):=by
 rw [G1,hb,h2]
 simp [Tm.fvL,und]
theorem Pz {S:SF} (hS:SFv S):∀ (l:List Tm) (f:Tm) (sp:Sp) (st k:Int),0≤k→(fH S l f sp st).2.1=0→(fH S l f sp st).2.2.fv k=true→f.fv k=true∨l.any (·.fv k)=true:=by
 intro l
 induction l with
 | nil=>intro f sp st k _ h hk; unfold fH at h hk; split at hk<;>simp_all
 | cons x r ih =>
  intro f sp st k h0 h hk
  unfold fH at h hk
  by_cases h3:f.op=3
  ·simp only [h3,ne_eq,not_true,if_false] at h hk
   cases hq:sp.args with
   | nil=>simp [hq] at h
   | cons s q =>
    cases hb:f.args with
    | nil=>simp [hq,hb] at h
    | cons b l' =>
     cases l' with
     | cons _ _=>simp [hq,hb] at h
     | nil =>
      simp only [hq,hb] at h hk
      by_cases h1:(S b 0 x s st).2.1=0
      ·simp only [h1,not_true,if_false] at h hk
       rw [List.any_cons]
       rcases ih _ _ _ k h0 h hk with g|g
       ·rcases hS b 0 x s st k (by omega) h0 h1 g with ⟨a,c⟩|⟨a,c⟩|⟨a,c⟩
        ·omega
        ·left; rw [RS h3 hb]; exact c
        ·right; rw [Int.sub_zero] at c; simp [c]
       ·right; simp [g]
      ·simp [h1] at h
  ·simp [h3] at h
theorem Fs:∀ k,SFv (aN k)
 | 0=>fun t n s sp st j _ _ h=>by simp [aN] at h
 | k+1=>fun t n s sp st j n0 j0 h hj=>by
  unfold aN at h hj
  by_cases h1:20000<st+1
  ·simp [h1] at h
  rw [if_neg h1] at h hj
  have g:=Px (Fs k) t.op n s sp n0 t.op rfl t.args 0 (st+1) j j0
  rw [G1 t,G1 t]
  by_cases h2:(dk (aN k) t.op n s sp t.args 0 (st+1)).2.1=0
  ·have g:=g h2
   simp only [h2,ne_eq,not_true,if_false] at h hj
   generalize dk (aN k) t.op n s sp t.args 0 (st+1)=A at *
   by_cases h3:t.op=4∧t.hd=1∧t.n=n
   ·rw [if_pos h3] at h hj
    by_cases h4:(s.moved n 0).proper=true
    ·rw [if_pos h4] at h hj
     rcases Pz (Fs k) A.2.2 _ sp A.1 j j0 h hj with a|a
     ·rcases Ck s n 0 j a with ⟨b,_⟩|⟨b,c⟩
      ·omega
      ·exact .inr (.inr ⟨by omega,c⟩)
     ·rw [← Py t.op h3.1 A.2.2 0 j] at a
      rcases g a with ⟨b,c⟩|⟨b,c⟩|b
      ·exact .inl ⟨b,by simp [c]⟩
      ·exact .inr (.inl ⟨b,by simp [c]⟩)
      ·exact .inr (.inr b)
    ·simp [h4] at h
   ·rw [if_neg h3] at h hj
    have hn':t.op=4→t.hd=1→(if t.op=4∧t.hd=1∧n<t.n then t.n - 1 else t.n)=j→(j<n∧t.n=j)∨(n≤j∧t.n=j+1):=fun a b c=>by
     by_cases h5:n<t.n
     ·rw [if_pos ⟨a,b,h5⟩] at c; omega
     ·rw [if_neg (by omega)] at c; omega
    generalize (if t.op=4∧t.hd=1∧n<t.n then t.n - 1 else t.n)=n' at *
    unfold pD at h hj
    by_cases h4:(Tm.mk t.op t.hd n' A.2.2).proper=true
    ·rw [if_pos h4,G1,Bool.or_eq_true] at hj
     simp only [Tm.op_mk,Tm.hd_mk,Tm.n_mk,Tm.args_mk] at hj
     rcases hj with hj|hj
     ·simp only [Bool.and_eq_true] at hj
      obtain ⟨a,b,c⟩:=hj
      have a:=of_decide_eq_true a
      have b:=of_decide_eq_true b
      have c:=of_decide_eq_true c
      rcases hn' a b c with ⟨d,e⟩|⟨d,e⟩
      ·exact .inl ⟨d,by simp [a,b,e]⟩
      ·exact .inr (.inl ⟨d,by simp [a,b,e]⟩)
     ·rcases g hj with ⟨b,c⟩|⟨b,c⟩|b
      ·exact .inl ⟨b,by simp [c]⟩
      ·exact .inr (.inl ⟨b,by simp [c]⟩)
      ·exact .inr (.inr b)
    ·simp [h4] at h
  ·simp [h2] at h
theorem yB {k:Nat} {t:Tm} {n:Int} {s:Tm} {sp:Sp} {st:Int} (h:(aN k t n s sp st).2.1=0) (ht:¬ (t.op=4∧t.hd=1)) :
  ∃ k' st',k=k'+1∧(dk (aN k') t.op n s sp t.args 0 st').2.1=0∧(aN k t n s sp st).2.2=.mk t.op t.hd t.n (dk (aN k') t.op n s sp t.args 0 st').2.2:=by
 cases k with
 | zero=>simp [aN] at h
 | succ k =>
  refine ⟨k,st+1,rfl,?_⟩
  unfold aN at h ⊢
  by_cases h1:20000<st+1
  ·simp [h1] at h
  rw [if_neg h1] at h ⊢
  by_cases h2:(dk (aN k) t.op n s sp t.args 0 (st+1)).2.1=0
  ·simp only [h2,ne_eq,not_true,if_false] at h ⊢
   have h3:¬ (t.op=4∧t.hd=1∧t.n=n):=fun h=>ht ⟨h.1,h.2.1⟩
   have h5:¬ (t.op=4∧t.hd=1∧n<t.n):=fun h=>ht ⟨h.1,h.2.1⟩
   simp only [if_neg h3,if_neg h5] at h ⊢
   unfold pD at h ⊢
   by_cases h4:(Tm.mk t.op t.hd t.n (dk (aN k) t.op n s sp t.args 0 (st+1)).2.2).proper=true
   ·rw [if_pos h4]
    exact ⟨trivial,rfl⟩
   ·simp [h4] at h
  ·simp [h2] at h
theorem G2 {S:SF} (op n:Int) (s:Tm) (sp:Sp):∀ (l:List Tm) (i st:Int),(dk S op n s sp l i st).2.1=0→(dk S op n s sp l i st).2.2.length=l.length:=by
 intro l
 induction l with
 | nil=>intro i st _; rfl
 | cons t r ih =>
  intro i st he
  unfold dk at he ⊢
  by_cases h1:(S t (n+und op i) s sp st).2.1=0
  ·simp only [h1,ne_eq,not_true,if_false] at he ⊢
   by_cases h2:(dk S op n s sp r (i+1) (S t (n+und op i) s sp st).1).2.1=0
   ·simp only [h2,not_true,if_false,List.length_cons]
    rw [ih _ _ h2]
   ·simp [h2] at he
  ·simp [h1] at he
theorem PA {k:Nat} {t a b:Tm} {n:Int} {s:Tm} {sp:Sp} {st:Int} (h:(aN k t n s sp st).2.1=0) (ht:t.op=2) (hab:t.args=[a,b]) :
  ∃ k' st1 st2 a',(aN k' b (n+1) s sp st2).2.1=0∧(aN k' a n s sp st1).2.1=0∧a'=(aN k' a n s sp st1).2.2∧(aN k t n s sp st).2.2=.mk 2 t.hd t.n [a',(aN k' b (n+1) s sp st2).2.2]:=by
 obtain ⟨k',st',rfl,h1,h2⟩:=yB h (by omega)
 rw [h2,hab,ht]
 rw [hab,ht] at h1
 unfold dk at h1 ⊢
 have u0:und 2 0=0:=by simp [und]
 have u1:und 2 (0+1)=1:=by simp [und]
 rw [u0,Int.add_zero] at h1 ⊢
 by_cases e1:(aN k' a n s sp st').2.1=0
 ·simp only [e1,ne_eq,not_true,if_false] at h1 ⊢
  unfold dk at h1 ⊢
  rw [u1] at h1 ⊢
  by_cases e2:(aN k' b (n+1) s sp (aN k' a n s sp st').1).2.1=0
  ·refine ⟨k',st',_,_,e2,e1,rfl,?_⟩
   simp [e2,dk]
  ·simp [e2] at h1
 ·simp [e1] at h1
def PC (E:Tm→Prop):List Bool→Tm→Prop
 | [],t=>E t
 | d::r,t=>∃ a b,t.op=2∧t.args=[a,b]∧(d=false→b.fv 0=false)∧PC E r b
structure Stab (E:Tm→Prop):Prop where
 sub:∀ (k:Nat) (t:Tm) (n:Int) (s:Tm) (sp:Sp) (st:Int),E t→(aN k t n s sp st).2.1=0→E (aN k t n s sp st).2.2
 low:∀ (t:Tm) (f:Int),E t→E (t.moved (-1) f)
theorem Nq {E:Tm→Prop} (hE:Stab E):∀ (D:List Bool) (k:Nat) (t:Tm) (n:Int) (s:Tm) (sp:Sp) (st:Int),0≤n→PC E D t→(aN k t n s sp st).2.1=0→PC E D (aN k t n s sp st).2.2
 | [],k,t,n,s,sp,st,_,h,he=>hE.sub k t n s sp st h he
 | d::r,k,t,n,s,sp,st,n0,h,he=>by
  obtain ⟨a,b,h2,hab,hd,hr⟩:=h
  obtain ⟨k',st1,st2,a',e1,e2,-,e3⟩:=PA he h2 hab
  rw [e3]
  refine ⟨a',_,rfl,rfl,fun hdf=>?_,Nq hE r k' b (n+1) s sp st2 (by omega) hr e1⟩
  have hb:=hd hdf
  cases hq:(aN k' b (n+1) s sp st2).2.2.fv 0 with
  | false=>rfl
  | true =>
   rcases Fs k' b (n+1) s sp st2 0 (by omega) (by omega) e1 hq with ⟨_,c⟩|⟨c,_⟩|⟨c,_⟩
   ·rw [hb] at c; exact absurd c (by simp)
   ·omega
   ·omega
theorem Nr {E:Tm→Prop} (hE:Stab E):∀ (D:List Bool) (t:Tm) (f:Int),0≤f→t.fv f=false→PC E D t→PC E D (t.moved (-1) f)
 | [],t,f,_,_,h=>hE.low t f h
 | d::r,t,f,f0,hf,h=>by
  obtain ⟨a,b,h2,hab,hd,hr⟩:=h
  rw [T5 h2 hab,Bool.or_eq_false_iff] at hf
  have hm:t.moved (-1) f=.mk 2 t.hd t.n [a.moved (-1) f,b.moved (-1) (f+1)]:=by
   rw [uw,hab,h2]
   simp [Tm.movedL,und]
  rw [hm]
  refine ⟨_,_,rfl,rfl,fun hdf=>?_,Nr hE r b (f+1) (by omega) hf.2 hr⟩
  have hb:=hd hdf
  cases hq:(b.moved (-1) (f+1)).fv 0 with
  | false=>rfl
  | true =>
   rcases Ck b (-1) (f+1) 0 hq with ⟨_,c⟩|⟨c,e⟩
   ·rw [hb] at c; exact absurd c (by simp)
   ·have:f=0:=by omega
    subst this
    rw [show (0:Int) - -1=0+1 by omega,hf.2] at e
    exact absurd e (by simp)
def E1 (t:Tm):Prop:=t.op=1
def E4 (N:Int) (L:Nat) (t:Tm):Prop:=t.op=4∧t.hd=2∧t.n=N∧t.args.length=L
theorem PB:Stab E1 where
 sub k t n s sp st h he:=by
  obtain ⟨k',st',-,-,e⟩:=yB he (by unfold E1 at h; omega)
  rw [e]; exact h
 low t f h:=by rw [uw]; exact h
theorem Ft (N:Int) (L:Nat):Stab (E4 N L) where
 sub k t n s sp st h he:=by
  obtain ⟨a,b,c,d⟩:=h
  obtain ⟨k',st',-,g,e⟩:=yB he (by omega)
  rw [e]; exact ⟨a,b,c,by rw [Tm.args_mk,G2 _ _ _ _ _ _ _ g,d]⟩
 low t f h:=by
  obtain ⟨a,b,c,d⟩:=h
  rw [uw,if_neg (by omega)]
  exact ⟨a,b,c,by rw [Tm.args_mk,qJ,d]⟩
def bv:Nat→Tm→List Bool
 | 0,_=>[]
 | k+1,t=>if t.op=2 then match t.args with
  | [_,b]=>b.fv 0::bv k b
  | _=>[] else []
theorem yC {t a b:Tm} (h:t.op=2) (ha:t.args=[a,b]) (k:Nat):bv (k+1) t=b.fv 0::bv k b:=by simp [bv,h,ha]
theorem Cl {t:Tm} (h:t.op≠2) (k:Nat):bv k t=[]:=by cases k<;>simp [bv,h]
theorem xd (k:Nat):∀ t:Tm,(bv k t).length=(Tm.doms k t).length:=by
 induction k with
 | zero=>intro t; rfl
 | succ k ih =>
  intro t
  unfold bv Tm.doms
  split
  ·split<;>simp_all
  ·rfl
theorem JE {E:Tm→Prop}:∀ (k:Nat) (t:Tm) (d:Int),t.formed d=true→41 - d≤k→E (Tm.core k t)→PC E (bv k t) t:=by
 intro k
 induction k with
 | zero=>intro t d h hk; have:=dK h; omega
 | succ k ih =>
  intro t d h hk he
  by_cases h2:t.op=2
  ·obtain ⟨a,b,hab,ha,hb⟩:=cz h h2
   rw [yC h2 hab]
   rw [mw h2 hab] at he
   exact ⟨a,b,h2,hab,id,ih b (d+1) hb (by omega) he⟩
  ·rw [Cl h2]
   rw [oZ h2] at he
   exact he
end Go.Ev

namespace Go.Ev
def nH (t:Tm):Tm:=.mk 3 0 0 [t]
def dz:Nat→Tm→Tm
 | 0,t=>t
 | k+1,t=>dz k (nH t)
mutual
def eH:Sp→Int→Int→Tm
 | .mk args con,hd,n=>dz args.length (.mk 4 hd (if hd=1 then n+args.length else n) (cN args args.length 0))
def cN:List Sp→Int→Int→List Tm
 | [],_,_=>[]
 | s::r,k,i=>eH s 1 (k - 1 - i)::cN r k (i+1)
end
theorem sy:∀ (s:Sp) (hd n:Int),eH s hd n=dz s.args.length (.mk 4 hd (if hd=1 then n+s.args.length else n) (cN s.args s.args.length 0))
 | .mk _ _,_,_=>by rw [eH]; rfl
theorem my:∀ (l:List Sp) (k i:Int),(cN l k i).length=l.length
 | [],_,_=>rfl
 | _::r,k,i=>by simp [cN,my r]
theorem Ns (a:Nat):∀ (b:Nat) (t:Tm),dz (a+b) t=dz b (dz a t):=by
 induction a with
 | zero=>intro b t; simp [dz]
 | succ a ih=>intro b t; rw [show a+1+b=(a+b)+1 by omega,dz,dz,ih]
theorem KH (k:Nat) (t:Tm):dz (k+1) t=nH (dz k t):=by rw [Ns]; rfl
theorem PD (k:Nat):∀ t:Tm,t.ok→(dz k t).ok:=by
 induction k with
 | zero=>exact fun t h=>h
 | succ k ih=>exact fun t h=>ih _ ⟨⟨by simp [nH,I64],by simp [nH,I64],by simp [nH,I64],by simp [nH,maxLen]⟩,fun x hx=>by simp [nH] at hx; subst hx; exact h⟩
theorem PE (B:Int) (k:Nat):∀ t:Tm,(dz k t).mb B=t.mb B:=by
 induction k with
 | zero=>exact fun t=>rfl
 | succ k ih=>intro t; rw [dz,ih,nH,Tm.mb]; simp [Tm.mbL]
theorem u6:∀ l:List Sp,l.length≤Sp.consL l
 | []=>Nat.le_refl _
 | t::r=>by have:=u6 r; have:=oK t; simp [Sp.consL]; omega
theorem u7:∀ {l:List Sp} {x:Sp},x∈l→x.cons≤Sp.consL l
 | t::r,x,h=>by
  rcases List.mem_cons.1 h with rfl|h
  ·simp [Sp.consL]
  ·have:=u7 h; simp [Sp.consL]; omega
theorem uD:∀ (s:Sp),s.cons≤600→∀ (hd n:Int),1≤hd→hd≤3→-1000≤n→n≤99999→(eH s hd n).ok :=
 Sp.ind fun s ih hc hd n h1 h2 h3 h4=>by
  have hcs:=oK s
  have hl:=u6 s.args
  rw [sy]
  refine PD _ _ ⟨⟨by simp [I64],by simp [I64]; omega,by simp only [I64,Tm.n_mk]; split<;>omega,by simp only [Tm.args_mk,my]; unfold maxLen; omega⟩,?_⟩
  simp only [Tm.args_mk]
  have key:∀ (l:List Sp) (k i:Int),(∀ x∈l,x∈s.args)→-900≤k - 1 - i - l.length→k - 1 - i≤99999→0≤i→∀ y∈cN l k i,y.ok:=by
   intro l
   induction l with
   | nil=>intro k i _ _ _ _ y hy; cases hy
   | cons a r ih2 =>
    intro k i hm g1 g2 g3 y hy
    simp only [List.length_cons] at g1
    push_cast at g1
    rcases List.mem_cons.1 hy with rfl|hy
    ·have:=u7 (hm a (by simp))
     exact ih a (hm a (by simp)) (by omega) 1 _ (by omega) (by omega) (by omega) (by omega)
    ·exact ih2 k (i+1) (fun x hx=>hm x (by simp [hx])) (by omega) (by omega) (by omega) y hy
  exact key s.args _ 0 (fun _ h=>h) (by omega) (by omega) (by omega)
theorem Nt (B:Int):∀ (s:Sp) (hd n:Int),hd≠3∨n<B→(eH s hd n).mb B=true :=
 Sp.ind fun s ih hd n h=>by
  rw [sy,PE,Tm.mb]
  have key:∀ (l:List Sp) (k i:Int),(∀ x∈l,x∈s.args)→Tm.mbL B (cN l k i)=true:=by
   intro l
   induction l with
   | nil=>intro k i _; rfl
   | cons a r ih2 =>
    intro k i hm
    rw [cN,Tm.mbL,ih a (hm a (by simp)) 1 _ (.inl (by omega)),ih2 k (i+1) (fun x hx=>hm x (by simp [hx]))]; rfl
  rw [key _ _ _ (fun _ h=>h),Bool.and_true]
  by_cases h3:hd=3
  ·have h1:¬ hd=1:=by omega
   have h4:n<B:=by rcases h with h|h<;>omega
   simp [h3,h4]
  ·simp [h3]
structure Mt where
 name:ByteArray
 class_:Tm
 solved:Bool
 value:Tm
instance:Enc Mt:=⟨10,fun m=>.s m.name::(Enc.cells m.class_++.b m.solved::Enc.cells m.value),fun m=>by simp,fun n m=>by simp,fun m=>by simp [norm.normAll,norm]⟩
def mu (c:Tm):Mt:=⟨ByteArray.empty,c,false,tz⟩
def KJ (C:List Tm):Nat→Tm→List Int→List Int
 | 0,_,l=>l
 | k+1,t,l=>(t.nds 0).foldl (fun l x=>match cD 3 x with
  | some n=>if n∈l then l else KJ C k (C.getD n.toNat tz) l++[n]
  | none=>l) l
end Go.Ev
