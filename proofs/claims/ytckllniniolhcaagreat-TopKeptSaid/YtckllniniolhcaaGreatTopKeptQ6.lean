/- A part of the proof of TopKept: an abstract machine, or what functions come to on it. -/
import Derived.Test.YtckllniniolhcaaGreatTopKeptQ5
import Derived.Test.YtckllniniolhcaaGreatRows
import Derived.WalkKit
import Derived.ProofKit
import Derived.OpenShut
import Derived.ChangeOld
import Derived.Below
import Derived.Carry
open Nat (reduceLT reduceEqDiff reduceAdd reduceLeDiff reduceMul)
set_option linter.unusedVariables false
set_option linter.unusedSimpArgs false
set_option linter.defProp false
namespace Go.Proofs.YtckllniniolhcaaGreat
open Go.Am Go.Am.Room
def hh(s:String):Bool:=s== "ref.go".push (Char.ofNat 58)++ "98"||s== "law.go".push (Char.ofNat 58)++ "21"
theorem leaf{f k:Nat}{a af:AFunc}(h:cond (Nat.beq f k) (some a) none=some af){fn:Func}(h1:Tryz.prog.funcs[k]? = some fn)(h2:lB Tryz.prog hh fn=some a):∃ fn,Tryz.prog.funcs[f]? = some fn/\lB Tryz.prog hh fn=some af:=by
 cases hb:Nat.beq f k with
 |false=>rw[hb] at h;cases h
 |true =>
  rw[hb] at h;have hf:f=k:=Nat.eq_of_beq_eq_true hb;simp only[cond_true,Option.some.injEq] at h;subst h;subst hf;exact⟨fn,h1,h2⟩
theorem node{b:Bool}{x y:Option AFunc}{af:AFunc}{Q:Prop}(h:cond b x y=some af)(h1:x=some af->Q)(h2:y=some af->Q):Q:=by
 cases b
 ·exact h2 h
 ·exact h1 h
noncomputable abbrev cF:=lB Tryz.prog hh
theorem c2:cF Tryz.f2=some a2:=by kernel_rfl
theorem c3:cF Tryz.f3=some a3:=by kernel_rfl
theorem c4:cF Tryz.f4=some a4:=by kernel_rfl
theorem c5:cF Tryz.f5=some a5:=by kernel_rfl
theorem c6:cF Tryz.f6=some a6:=by kernel_rfl
theorem c7:cF Tryz.f7=some a7:=by kernel_rfl
theorem c8:cF Tryz.f8=some a8:=by kernel_rfl
theorem c9:cF Tryz.f9=some a9:=by kernel_rfl
theorem c17:cF Tryz.f17=some a17:=by kernel_rfl
theorem c19:cF Tryz.f19=some a19:=by kernel_rfl
theorem c20:cF Tryz.f20=some a20:=by kernel_rfl
theorem c28:cF Tryz.f28=some a28:=by kernel_rfl
theorem c29:cF Tryz.f29=some a29:=by kernel_rfl
theorem c30:cF Tryz.f30=some a30:=by kernel_rfl
theorem c31:cF Tryz.f31=some a31:=by kernel_rfl
theorem c32:cF Tryz.f32=some a32:=by kernel_rfl
theorem c33:cF Tryz.f33=some a33:=by kernel_rfl
theorem c34:cF Tryz.f34=some a34:=by kernel_rfl
theorem c35:cF Tryz.f35=some a35:=by kernel_rfl
theorem c36:cF Tryz.f36=some a36:=by kernel_rfl
theorem c44:cF Tryz.f44=some a44:=by kernel_rfl
theorem c64:cF Tryz.f64=some a64:=by kernel_rfl
theorem aP9:cF Tryz.f118=some YJ:=by kernel_rfl
theorem aTU:cF Tryz.f119=some W6:=by kernel_rfl
theorem aRQ:cF Tryz.f120=some aAW:=by kernel_rfl
theorem aTT:cF Tryz.f121=some YC:=by kernel_rfl
theorem aRD:cF Tryz.f122=some HK:=by kernel_rfl
theorem aRT:cF Tryz.f123=some aBG:=by kernel_rfl
theorem aRO:cF Tryz.f124=some TY:=by kernel_rfl
theorem aQM:cF Tryz.f125=some XU:=by kernel_rfl
theorem aSI:cF Tryz.f126=some Y1:=by kernel_rfl
theorem aTB:cF Tryz.f127=some XQ:=by kernel_rfl
theorem aRC:cF Tryz.f128=some aBF:=by kernel_rfl
theorem aSU:cF Tryz.f129=some V4:=by kernel_rfl
theorem aSK:cF Tryz.f130=some WV:=by kernel_rfl
theorem aUH:cF Tryz.f131=some aM7:=by kernel_rfl
theorem aSZ:cF Tryz.f132=some aP3:=by kernel_rfl
theorem aR7:cF Tryz.f133=some aPH:=by kernel_rfl
theorem aSL:cF Tryz.f134=some aMB:=by kernel_rfl
theorem aQ2:cF Tryz.f135=some aN3:=by kernel_rfl
theorem aSJ:cF Tryz.f136=some X7:=by kernel_rfl
theorem aR6:cF Tryz.f137=some aNV:=by kernel_rfl
theorem aS6:cF Tryz.f138=some aO2:=by kernel_rfl
theorem aS5:cF Tryz.f139=some U2:=by kernel_rfl
theorem aQO:cF Tryz.f140=some YW:=by kernel_rfl
theorem aTD:cF Tryz.f141=some OL:=by kernel_rfl
theorem aT7:cF Tryz.f142=some aA0:=by kernel_rfl
theorem aQR:cF Tryz.f143=some MR:=by kernel_rfl
theorem aTS:cF Tryz.f144=some UK:=by kernel_rfl
theorem aRS:cF Tryz.f145=some UX:=by kernel_rfl
theorem aQU:cF Tryz.f146=some Y8:=by kernel_rfl
theorem aQ5:cF Tryz.f147=some ZP:=by kernel_rfl
theorem aSG:cF Tryz.f148=some Z7:=by kernel_rfl
theorem aTR:cF Tryz.f149=some Z3:=by kernel_rfl
theorem aSO:cF Tryz.f170=some U9:=by kernel_rfl
theorem aT4:cF Tryz.f254=some U5:=by kernel_rfl
theorem aQB:cF Tryz.f255=some BO:=by kernel_rfl
theorem aRE:cF Tryz.f256=some Q7:=by kernel_rfl
theorem aRZ:cF Tryz.f257=some EI:=by kernel_rfl
theorem aQ3:cF Tryz.f258=some WJ:=by kernel_rfl
theorem aTJ:cF Tryz.f259=some TR:=by kernel_rfl
theorem aTH:cF Tryz.f260=some WF:=by kernel_rfl
theorem aUA:cF Tryz.f261=some V9:=by kernel_rfl
theorem aSC:cF Tryz.f262=some XK:=by kernel_rfl
theorem aRL:cF Tryz.f263=some aAV:=by kernel_rfl
theorem aQX:cF Tryz.f264=some ZA:=by kernel_rfl
theorem aQE:cF Tryz.f265=some ZZ:=by kernel_rfl
theorem aSQ:cF Tryz.f266=some aAB:=by kernel_rfl
theorem aT6:cF Tryz.f267=some UB:=by kernel_rfl
theorem aRN:cF Tryz.f268=some aLT:=by kernel_rfl
theorem aSS:cF Tryz.f269=some aL2:=by kernel_rfl
theorem aT1:cF Tryz.f270=some aNN:=by kernel_rfl
theorem aQP:cF Tryz.f271=some aM1:=by kernel_rfl
theorem aR4:cF Tryz.f272=some aOL:=by kernel_rfl
theorem aS3:cF Tryz.f273=some aBL:=by kernel_rfl
theorem aRH:cF Tryz.f274=some WY:=by kernel_rfl
theorem aUC:cF Tryz.f275=some T7:=by kernel_rfl
theorem aQI:cF Tryz.f276=some aN2:=by kernel_rfl
theorem aQ8:cF Tryz.f277=some UE:=by kernel_rfl
theorem aQD:cF Tryz.f278=some aMG:=by kernel_rfl
theorem aQN:cF Tryz.f279=some aL5:=by kernel_rfl
theorem aS7:cF Tryz.f280=some aL7:=by kernel_rfl
theorem aS8:cF Tryz.f281=some aLF:=by kernel_rfl
theorem aSP:cF Tryz.f282=some WX:=by kernel_rfl
theorem aRU:cF Tryz.f283=some aLO:=by kernel_rfl
theorem aT0:cF Tryz.f284=some W5:=by kernel_rfl
theorem aTF:cF Tryz.f285=some VB:=by kernel_rfl
theorem aTZ:cF Tryz.f286=some YF:=by kernel_rfl
theorem aQG:cF Tryz.f287=some VZ:=by kernel_rfl
theorem aRK:cF Tryz.f288=some RO:=by kernel_rfl
theorem aRX:cF Tryz.f356=some KQ:=by kernel_rfl
theorem aRI:cF Tryz.f386=some Y3:=by kernel_rfl
theorem aTV:cF Tryz.f387=some UZ:=by kernel_rfl
theorem aQ0:cF Tryz.f388=some aDM:=by kernel_rfl
theorem aRV:cF Tryz.f389=some W3:=by kernel_rfl
theorem aRP:cF Tryz.f390=some UU:=by kernel_rfl
theorem aRF:cF Tryz.f391=some X3:=by kernel_rfl
theorem aUG:cF Tryz.f392=some XB:=by kernel_rfl
theorem aTX:cF Tryz.f393=some VL:=by kernel_rfl
theorem aST:cF Tryz.f394=some V0:=by kernel_rfl
theorem aQA:cF Tryz.f395=some VT:=by kernel_rfl
theorem aSE:cF Tryz.f396=some aA5:=by kernel_rfl
theorem aQ6:cF Tryz.f397=some aAE:=by kernel_rfl
theorem aRA:cF Tryz.f398=some Y5:=by kernel_rfl
theorem aSB:cF Tryz.f399=some ZV:=by kernel_rfl
theorem aQ1:cF Tryz.f400=some XF:=by kernel_rfl
theorem aTO:cF Tryz.f401=some U8:=by kernel_rfl
theorem aR8:cF Tryz.f402=some V1:=by kernel_rfl
theorem aQ7:cF Tryz.f403=some U3:=by kernel_rfl
theorem aSF:cF Tryz.f404=some ZB:=by kernel_rfl
theorem aRB:cF Tryz.f405=some V8:=by kernel_rfl
theorem aQV:cF Tryz.f406=some UL:=by kernel_rfl
theorem aQT:cF Tryz.f407=some YH:=by kernel_rfl
theorem aUE:cF Tryz.f408=some IR:=by kernel_rfl
theorem aQC:cF Tryz.f478=some XL:=by kernel_rfl
theorem aSV:cF Tryz.f479=some XA:=by kernel_rfl
theorem aTA:cF Tryz.f480=some BG:=by kernel_rfl
theorem aS4:cF Tryz.f481=some R7:=by kernel_rfl
theorem aS1:cF Tryz.f496=some YQ:=by kernel_rfl
theorem aR9:cF Tryz.f497=some US:=by kernel_rfl
theorem aR2:cF Tryz.f498=some XT:=by kernel_rfl
theorem aT3:cF Tryz.f499=some VW:=by kernel_rfl
theorem hT(f:FuncId)(af:AFunc)(h:Go.Am.Room.T f=some af):∃ fn,Tryz.prog.funcs[f]? = some fn/\lB Tryz.prog hh fn=some af:=node h (fun h=>node h (fun h=>node h (fun h=>node h (fun h=>node h (fun h=>node h (fun h=>leaf h Tryz.func2 c2) (fun h=>node h (fun h=>leaf h Tryz.func3 c3) (fun h=>leaf h Tryz.func4 c4))) (fun h=>node h (fun h=>node h (fun h=>leaf h Tryz.func5 c5) (fun h=>leaf h Tryz.func6 c6)) (fun h=>node h (fun h=>leaf h Tryz.func7 c7) (fun h=>leaf h Tryz.func8 c8)))) (fun h=>node h (fun h=>node h (fun h=>node h (fun h=>leaf h Tryz.func9 c9) (fun h=>leaf h Tryz.func17 c17)) (fun h=>node h (fun h=>leaf h Tryz.func19 c19) (fun h=>leaf h Tryz.func20 c20))) (fun h=>node h (fun h=>node h (fun h=>leaf h Tryz.func28 c28) (fun h=>leaf h Tryz.func29 c29)) (fun h=>node h (fun h=>leaf h Tryz.func30 c30) (fun h=>leaf h Tryz.func31 c31))))) (fun h=>node h (fun h=>node h (fun h=>node h (fun h=>leaf h Tryz.func32 c32) (fun h=>node h (fun h=>leaf h Tryz.func33 c33) (fun h=>leaf h Tryz.func34 c34))) (fun h=>node h (fun h=>node h (fun h=>leaf h Tryz.func35 c35) (fun h=>leaf h Tryz.func36 c36)) (fun h=>node h (fun h=>leaf h Tryz.func44 c44) (fun h=>leaf h Tryz.func64 c64)))) (fun h=>node h (fun h=>node h (fun h=>node h (fun h=>leaf h Tryz.func118 aP9) (fun h=>leaf h Tryz.func119 aTU)) (fun h=>node h (fun h=>leaf h Tryz.func120 aRQ) (fun h=>leaf h Tryz.func121 aTT))) (fun h=>node h (fun h=>node h (fun h=>leaf h Tryz.func122 aRD) (fun h=>leaf h Tryz.func123 aRT)) (fun h=>node h (fun h=>leaf h Tryz.func124 aRO) (fun h=>leaf h Tryz.func125 aQM)))))) (fun h=>node h (fun h=>node h (fun h=>node h (fun h=>node h (fun h=>leaf h Tryz.func126 aSI) (fun h=>node h (fun h=>leaf h Tryz.func127 aTB) (fun h=>leaf h Tryz.func128 aRC))) (fun h=>node h (fun h=>node h (fun h=>leaf h Tryz.func129 aSU) (fun h=>leaf h Tryz.func130 aSK)) (fun h=>node h (fun h=>leaf h Tryz.func131 aUH) (fun h=>leaf h Tryz.func132 aSZ)))) (fun h=>node h (fun h=>node h (fun h=>node h (fun h=>leaf h Tryz.func133 aR7) (fun h=>leaf h Tryz.func134 aSL)) (fun h=>node h (fun h=>leaf h Tryz.func135 aQ2) (fun h=>leaf h Tryz.func136 aSJ))) (fun h=>node h (fun h=>node h (fun h=>leaf h Tryz.func137 aR6) (fun h=>leaf h Tryz.func138 aS6)) (fun h=>node h (fun h=>leaf h Tryz.func139 aS5) (fun h=>leaf h Tryz.func140 aQO))))) (fun h=>node h (fun h=>node h (fun h=>node h (fun h=>node h (fun h=>leaf h Tryz.func141 aTD) (fun h=>leaf h Tryz.func142 aT7)) (fun h=>node h (fun h=>leaf h Tryz.func143 aQR) (fun h=>leaf h Tryz.func144 aTS))) (fun h=>node h (fun h=>node h (fun h=>leaf h Tryz.func145 aRS) (fun h=>leaf h Tryz.func146 aQU)) (fun h=>node h (fun h=>leaf h Tryz.func147 aQ5) (fun h=>leaf h Tryz.func148 aSG)))) (fun h=>node h (fun h=>node h (fun h=>node h (fun h=>leaf h Tryz.func149 aTR) (fun h=>leaf h Tryz.func170 aSO)) (fun h=>node h (fun h=>leaf h Tryz.func254 aT4) (fun h=>leaf h Tryz.func255 aQB))) (fun h=>node h (fun h=>node h (fun h=>leaf h Tryz.func256 aRE) (fun h=>leaf h Tryz.func257 aRZ)) (fun h=>node h (fun h=>leaf h Tryz.func258 aQ3) (fun h=>leaf h Tryz.func259 aTJ))))))) (fun h=>node h (fun h=>node h (fun h=>node h (fun h=>node h (fun h=>node h (fun h=>leaf h Tryz.func260 aTH) (fun h=>node h (fun h=>leaf h Tryz.func261 aUA) (fun h=>leaf h Tryz.func262 aSC))) (fun h=>node h (fun h=>node h (fun h=>leaf h Tryz.func263 aRL) (fun h=>leaf h Tryz.func264 aQX)) (fun h=>node h (fun h=>leaf h Tryz.func265 aQE) (fun h=>leaf h Tryz.func266 aSQ)))) (fun h=>node h (fun h=>node h (fun h=>node h (fun h=>leaf h Tryz.func267 aT6) (fun h=>leaf h Tryz.func268 aRN)) (fun h=>node h (fun h=>leaf h Tryz.func269 aSS) (fun h=>leaf h Tryz.func270 aT1))) (fun h=>node h (fun h=>node h (fun h=>leaf h Tryz.func271 aQP) (fun h=>leaf h Tryz.func272 aR4)) (fun h=>node h (fun h=>leaf h Tryz.func273 aS3) (fun h=>leaf h Tryz.func274 aRH))))) (fun h=>node h (fun h=>node h (fun h=>node h (fun h=>leaf h Tryz.func275 aUC) (fun h=>node h (fun h=>leaf h Tryz.func276 aQI) (fun h=>leaf h Tryz.func277 aQ8))) (fun h=>node h (fun h=>node h (fun h=>leaf h Tryz.func278 aQD) (fun h=>leaf h Tryz.func279 aQN)) (fun h=>node h (fun h=>leaf h Tryz.func280 aS7) (fun h=>leaf h Tryz.func281 aS8)))) (fun h=>node h (fun h=>node h (fun h=>node h (fun h=>leaf h Tryz.func282 aSP) (fun h=>leaf h Tryz.func283 aRU)) (fun h=>node h (fun h=>leaf h Tryz.func284 aT0) (fun h=>leaf h Tryz.func285 aTF))) (fun h=>node h (fun h=>node h (fun h=>leaf h Tryz.func286 aTZ) (fun h=>leaf h Tryz.func287 aQG)) (fun h=>node h (fun h=>leaf h Tryz.func288 aRK) (fun h=>leaf h Tryz.func356 aRX)))))) (fun h=>node h (fun h=>node h (fun h=>node h (fun h=>node h (fun h=>leaf h Tryz.func386 aRI) (fun h=>node h (fun h=>leaf h Tryz.func387 aTV) (fun h=>leaf h Tryz.func388 aQ0))) (fun h=>node h (fun h=>node h (fun h=>leaf h Tryz.func389 aRV) (fun h=>leaf h Tryz.func390 aRP)) (fun h=>node h (fun h=>leaf h Tryz.func391 aRF) (fun h=>leaf h Tryz.func392 aUG)))) (fun h=>node h (fun h=>node h (fun h=>node h (fun h=>leaf h Tryz.func393 aTX) (fun h=>leaf h Tryz.func394 aST)) (fun h=>node h (fun h=>leaf h Tryz.func395 aQA) (fun h=>leaf h Tryz.func396 aSE))) (fun h=>node h (fun h=>node h (fun h=>leaf h Tryz.func397 aQ6) (fun h=>leaf h Tryz.func398 aRA)) (fun h=>node h (fun h=>leaf h Tryz.func399 aSB) (fun h=>leaf h Tryz.func400 aQ1))))) (fun h=>node h (fun h=>node h (fun h=>node h (fun h=>node h (fun h=>leaf h Tryz.func401 aTO) (fun h=>leaf h Tryz.func402 aR8)) (fun h=>node h (fun h=>leaf h Tryz.func403 aQ7) (fun h=>leaf h Tryz.func404 aSF))) (fun h=>node h (fun h=>node h (fun h=>leaf h Tryz.func405 aRB) (fun h=>leaf h Tryz.func406 aQV)) (fun h=>node h (fun h=>leaf h Tryz.func407 aQT) (fun h=>leaf h Tryz.func408 aUE)))) (fun h=>node h (fun h=>node h (fun h=>node h (fun h=>leaf h Tryz.func478 aQC) (fun h=>leaf h Tryz.func479 aSV)) (fun h=>node h (fun h=>leaf h Tryz.func480 aTA) (fun h=>leaf h Tryz.func481 aS4))) (fun h=>node h (fun h=>node h (fun h=>leaf h Tryz.func496 aS1) (fun h=>leaf h Tryz.func497 aR9)) (fun h=>node h (fun h=>leaf h Tryz.func498 aR2) (fun h=>leaf h Tryz.func499 aT3)))))))
theorem own:ownKnob Tryz.prog.godebug=none:=by kernel_rfl
theorem laidOut:laidOutB Tryz.prog=true:=by kernel_rfl
end Go.Proofs.YtckllniniolhcaaGreat
namespace Go.Proofs.YtckllniniolhcaaGreat
open Go.Am Go.Am.Room
theorem tys:Ho.TysK Tryz.prog:=⟨Tryz.underlying3,Tryz.underlying5,⟨_,Tryz.underlying24,rfl⟩,Tryz.underlying30,Tryz.underlying34,Tryz.underlying76,Tryz.underlying77,⟨_,Tryz.underlying79,rfl⟩,⟨_,Tryz.underlying81,rfl⟩,⟨_,Tryz.underlying89,rfl⟩,⟨_,Tryz.underlying246,rfl⟩⟩
end Go.Proofs.YtckllniniolhcaaGreat
