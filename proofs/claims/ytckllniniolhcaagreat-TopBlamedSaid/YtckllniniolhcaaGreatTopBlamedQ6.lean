/- A part of the proof of TopBlamed: an abstract machine, or what functions come to on it. -/
import Derived.Test.YtckllniniolhcaaGreatTopBlamedQ5
import Derived.Test.YtckllniniolhcaaGreatRows
import Derived.WalkKit
import Derived.ProofKit
import Derived.OpenShut
import Derived.ChangeOld
import Derived.Below
import Derived.Carry
open Nat (reduceLT reduceEqDiff reduceAdd reduceLeDiff reduceMul)
set_option linter.unusedVariables false
set_option linter.unusedSimpArgs false
set_option linter.defProp false
namespace Go.Proofs.YtckllniniolhcaaGreat
open Go.Am Go.Am.Room
def hh(s:String):Bool:=s== "ref.go".push (Char.ofNat 58)++ "98"||s== "top10.go".push (Char.ofNat 58)++ "63"
theorem leaf{f k:Nat}{a af:AFunc}(h:cond (Nat.beq f k) (some a) none=some af){fn:Func}(h1:Tryz.prog.funcs[k]? = some fn)(h2:lB Tryz.prog hh fn=some a):∃ fn,Tryz.prog.funcs[f]? = some fn/\lB Tryz.prog hh fn=some af:=by
 cases hb:Nat.beq f k with
 |false=>rw[hb] at h;cases h
 |true =>
  rw[hb] at h;have hf:f=k:=Nat.eq_of_beq_eq_true hb;simp only[cond_true,Option.some.injEq] at h;subst h;subst hf;exact⟨fn,h1,h2⟩
theorem node{b:Bool}{x y:Option AFunc}{af:AFunc}{Q:Prop}(h:cond b x y=some af)(h1:x=some af->Q)(h2:y=some af->Q):Q:=by
 cases b
 ·exact h2 h
 ·exact h1 h
noncomputable abbrev cF:=lB Tryz.prog hh
theorem c2:cF Tryz.f2=some a2:=by kernel_rfl
theorem c3:cF Tryz.f3=some a3:=by kernel_rfl
theorem c4:cF Tryz.f4=some a4:=by kernel_rfl
theorem c5:cF Tryz.f5=some a5:=by kernel_rfl
theorem c6:cF Tryz.f6=some a6:=by kernel_rfl
theorem c7:cF Tryz.f7=some a7:=by kernel_rfl
theorem c8:cF Tryz.f8=some a8:=by kernel_rfl
theorem c9:cF Tryz.f9=some a9:=by kernel_rfl
theorem c10:cF Tryz.f10=some a10:=by kernel_rfl
theorem c20:cF Tryz.f20=some a20:=by kernel_rfl
theorem c25:cF Tryz.f25=some a25:=by kernel_rfl
theorem c29:cF Tryz.f29=some a29:=by kernel_rfl
theorem c31:cF Tryz.f31=some a31:=by kernel_rfl
theorem c35:cF Tryz.f35=some a35:=by kernel_rfl
theorem c37:cF Tryz.f37=some a37:=by kernel_rfl
theorem c38:cF Tryz.f38=some a38:=by kernel_rfl
theorem c39:cF Tryz.f39=some a39:=by kernel_rfl
theorem c40:cF Tryz.f40=some a40:=by kernel_rfl
theorem c41:cF Tryz.f41=some a41:=by kernel_rfl
theorem c42:cF Tryz.f42=some a42:=by kernel_rfl
theorem c43:cF Tryz.f43=some a43:=by kernel_rfl
theorem c44:cF Tryz.f44=some a44:=by kernel_rfl
theorem c64:cF Tryz.f64=some a64:=by kernel_rfl
theorem aT3:cF Tryz.f111=some aC2:=by kernel_rfl
theorem aUI:cF Tryz.f118=some Z6:=by kernel_rfl
theorem aS0:cF Tryz.f131=some aSO:=by kernel_rfl
theorem aS2:cF Tryz.f132=some aRH:=by kernel_rfl
theorem aV2:cF Tryz.f133=some aRW:=by kernel_rfl
theorem aV6:cF Tryz.f134=some aR6:=by kernel_rfl
theorem aV4:cF Tryz.f135=some aSJ:=by kernel_rfl
theorem aTY:cF Tryz.f136=some aAR:=by kernel_rfl
theorem aWP:cF Tryz.f137=some aP1:=by kernel_rfl
theorem aUF:cF Tryz.f138=some aQK:=by kernel_rfl
theorem aUJ:cF Tryz.f143=some OO:=by kernel_rfl
theorem aWR:cF Tryz.f144=some U7:=by kernel_rfl
theorem aWE:cF Tryz.f145=some VW:=by kernel_rfl
theorem aVQ:cF Tryz.f146=some W9:=by kernel_rfl
theorem aUN:cF Tryz.f147=some X7:=by kernel_rfl
theorem aUH:cF Tryz.f150=some aA0:=by kernel_rfl
theorem aUY:cF Tryz.f151=some U2:=by kernel_rfl
theorem aTR:cF Tryz.f152=some W2:=by kernel_rfl
theorem aUU:cF Tryz.f153=some aBU:=by kernel_rfl
theorem aVO:cF Tryz.f154=some aBQ:=by kernel_rfl
theorem aU5:cF Tryz.f155=some YN:=by kernel_rfl
theorem aUG:cF Tryz.f156=some aB9:=by kernel_rfl
theorem aWX:cF Tryz.f157=some U5:=by kernel_rfl
theorem aTX:cF Tryz.f158=some XH:=by kernel_rfl
theorem aVK:cF Tryz.f159=some aBF:=by kernel_rfl
theorem aTP:cF Tryz.f160=some VU:=by kernel_rfl
theorem aUB:cF Tryz.f161=some WP:=by kernel_rfl
theorem aVS:cF Tryz.f162=some aAI:=by kernel_rfl
theorem aWG:cF Tryz.f163=some NS:=by kernel_rfl
theorem aTL:cF Tryz.f164=some aCC:=by kernel_rfl
theorem aVY:cF Tryz.f165=some Y1:=by kernel_rfl
theorem aSZ:cF Tryz.f166=some MN:=by kernel_rfl
theorem aWY:cF Tryz.f167=some WN:=by kernel_rfl
theorem aS9:cF Tryz.f168=some WF:=by kernel_rfl
theorem aVV:cF Tryz.f169=some YM:=by kernel_rfl
theorem aWK:cF Tryz.f170=some Z3:=by kernel_rfl
theorem aT5:cF Tryz.f244=some ZM:=by kernel_rfl
theorem aTU:cF Tryz.f254=some ZI:=by kernel_rfl
theorem aTV:cF Tryz.f257=some H6:=by kernel_rfl
theorem aVJ:cF Tryz.f268=some aP6:=by kernel_rfl
theorem aS6:cF Tryz.f269=some aPA:=by kernel_rfl
theorem aVF:cF Tryz.f270=some aQS:=by kernel_rfl
theorem aUO:cF Tryz.f271=some aQE:=by kernel_rfl
theorem aU4:cF Tryz.f272=some aQH:=by kernel_rfl
theorem aUA:cF Tryz.f273=some aAV:=by kernel_rfl
theorem aVM:cF Tryz.f274=some XS:=by kernel_rfl
theorem aTC:cF Tryz.f275=some YK:=by kernel_rfl
theorem aU6:cF Tryz.f276=some aQ8:=by kernel_rfl
theorem aVH:cF Tryz.f277=some WJ:=by kernel_rfl
theorem aVC:cF Tryz.f278=some aQV:=by kernel_rfl
theorem aWS:cF Tryz.f279=some aRN:=by kernel_rfl
theorem aS7:cF Tryz.f280=some aN9:=by kernel_rfl
theorem aT6:cF Tryz.f281=some aPB:=by kernel_rfl
theorem aVT:cF Tryz.f282=some XY:=by kernel_rfl
theorem aTN:cF Tryz.f283=some aRK:=by kernel_rfl
theorem aV7:cF Tryz.f284=some Y8:=by kernel_rfl
theorem aVR:cF Tryz.f287=some aAN:=by kernel_rfl
theorem aWN:cF Tryz.f288=some TO:=by kernel_rfl
theorem aTW:cF Tryz.f289=some UV:=by kernel_rfl
theorem aUE:cF Tryz.f290=some aCD:=by kernel_rfl
theorem aVU:cF Tryz.f291=some WZ:=by kernel_rfl
theorem aV9:cF Tryz.f292=some WV:=by kernel_rfl
theorem aWJ:cF Tryz.f293=some D3:=by kernel_rfl
theorem aT8:cF Tryz.f294=some Z8:=by kernel_rfl
theorem aUC:cF Tryz.f295=some X4:=by kernel_rfl
theorem aWU:cF Tryz.f296=some U1:=by kernel_rfl
theorem aS5:cF Tryz.f297=some ZU:=by kernel_rfl
theorem aTF:cF Tryz.f298=some aCO:=by kernel_rfl
theorem aUX:cF Tryz.f299=some W1:=by kernel_rfl
theorem aVZ:cF Tryz.f300=some YF:=by kernel_rfl
theorem aWH:cF Tryz.f301=some aCG:=by kernel_rfl
theorem aT4:cF Tryz.f302=some YE:=by kernel_rfl
theorem aUZ:cF Tryz.f303=some XZ:=by kernel_rfl
theorem aUW:cF Tryz.f304=some aB6:=by kernel_rfl
theorem aVG:cF Tryz.f305=some XV:=by kernel_rfl
theorem aVP:cF Tryz.f306=some aAB:=by kernel_rfl
theorem aTJ:cF Tryz.f307=some aA8:=by kernel_rfl
theorem aV1:cF Tryz.f308=some WC:=by kernel_rfl
theorem aTB:cF Tryz.f356=some LM:=by kernel_rfl
theorem aVW:cF Tryz.f378=some aAK:=by kernel_rfl
theorem aTI:cF Tryz.f386=some aAQ:=by kernel_rfl
theorem aS1:cF Tryz.f396=some aBE:=by kernel_rfl
theorem aTM:cF Tryz.f397=some VX:=by kernel_rfl
theorem aWT:cF Tryz.f398=some aBX:=by kernel_rfl
theorem aWV:cF Tryz.f399=some XU:=by kernel_rfl
theorem aU2:cF Tryz.f400=some X5:=by kernel_rfl
theorem aT1:cF Tryz.f401=some Z7:=by kernel_rfl
theorem aVL:cF Tryz.f402=some aBT:=by kernel_rfl
theorem aWL:cF Tryz.f403=some aBB:=by kernel_rfl
theorem aT9:cF Tryz.f405=some XL:=by kernel_rfl
theorem aWQ:cF Tryz.f406=some aB1:=by kernel_rfl
theorem aSU:cF Tryz.f407=some aAM:=by kernel_rfl
theorem aVX:cF Tryz.f408=some HH:=by kernel_rfl
theorem aVD:cF Tryz.f409=some WA:=by kernel_rfl
theorem aV3:cF Tryz.f410=some XE:=by kernel_rfl
theorem aV0:cF Tryz.f411=some yI:=by kernel_rfl
theorem aTE:cF Tryz.f412=some VC:=by kernel_rfl
theorem aS4:cF Tryz.f413=some aBG:=by kernel_rfl
theorem aWD:cF Tryz.f414=some WM:=by kernel_rfl
theorem hT(f:FuncId)(af:AFunc)(h:Go.Am.Room.T f=some af):∃ fn,Tryz.prog.funcs[f]? = some fn/\lB Tryz.prog hh fn=some af:=node h (fun h=>node h (fun h=>node h (fun h=>node h (fun h=>node h (fun h=>node h (fun h=>leaf h Tryz.func2 c2) (fun h=>node h (fun h=>leaf h Tryz.func3 c3) (fun h=>leaf h Tryz.func4 c4))) (fun h=>node h (fun h=>node h (fun h=>leaf h Tryz.func5 c5) (fun h=>leaf h Tryz.func6 c6)) (fun h=>node h (fun h=>leaf h Tryz.func7 c7) (fun h=>leaf h Tryz.func8 c8)))) (fun h=>node h (fun h=>node h (fun h=>node h (fun h=>leaf h Tryz.func9 c9) (fun h=>leaf h Tryz.func10 c10)) (fun h=>node h (fun h=>leaf h Tryz.func20 c20) (fun h=>leaf h Tryz.func25 c25))) (fun h=>node h (fun h=>node h (fun h=>leaf h Tryz.func29 c29) (fun h=>leaf h Tryz.func31 c31)) (fun h=>node h (fun h=>leaf h Tryz.func35 c35) (fun h=>leaf h Tryz.func37 c37))))) (fun h=>node h (fun h=>node h (fun h=>node h (fun h=>leaf h Tryz.func38 c38) (fun h=>node h (fun h=>leaf h Tryz.func39 c39) (fun h=>leaf h Tryz.func40 c40))) (fun h=>node h (fun h=>node h (fun h=>leaf h Tryz.func41 c41) (fun h=>leaf h Tryz.func42 c42)) (fun h=>node h (fun h=>leaf h Tryz.func43 c43) (fun h=>leaf h Tryz.func44 c44)))) (fun h=>node h (fun h=>node h (fun h=>node h (fun h=>leaf h Tryz.func64 c64) (fun h=>leaf h Tryz.func111 aT3)) (fun h=>node h (fun h=>leaf h Tryz.func118 aUI) (fun h=>leaf h Tryz.func131 aS0))) (fun h=>node h (fun h=>node h (fun h=>leaf h Tryz.func132 aS2) (fun h=>leaf h Tryz.func133 aV2)) (fun h=>node h (fun h=>leaf h Tryz.func134 aV6) (fun h=>leaf h Tryz.func135 aV4)))))) (fun h=>node h (fun h=>node h (fun h=>node h (fun h=>node h (fun h=>leaf h Tryz.func136 aTY) (fun h=>node h (fun h=>leaf h Tryz.func137 aWP) (fun h=>leaf h Tryz.func138 aUF))) (fun h=>node h (fun h=>node h (fun h=>leaf h Tryz.func143 aUJ) (fun h=>leaf h Tryz.func144 aWR)) (fun h=>node h (fun h=>leaf h Tryz.func145 aWE) (fun h=>leaf h Tryz.func146 aVQ)))) (fun h=>node h (fun h=>node h (fun h=>node h (fun h=>leaf h Tryz.func147 aUN) (fun h=>leaf h Tryz.func150 aUH)) (fun h=>node h (fun h=>leaf h Tryz.func151 aUY) (fun h=>leaf h Tryz.func152 aTR))) (fun h=>node h (fun h=>node h (fun h=>leaf h Tryz.func153 aUU) (fun h=>leaf h Tryz.func154 aVO)) (fun h=>node h (fun h=>leaf h Tryz.func155 aU5) (fun h=>leaf h Tryz.func156 aUG))))) (fun h=>node h (fun h=>node h (fun h=>node h (fun h=>node h (fun h=>leaf h Tryz.func157 aWX) (fun h=>leaf h Tryz.func158 aTX)) (fun h=>node h (fun h=>leaf h Tryz.func159 aVK) (fun h=>leaf h Tryz.func160 aTP))) (fun h=>node h (fun h=>node h (fun h=>leaf h Tryz.func161 aUB) (fun h=>leaf h Tryz.func162 aVS)) (fun h=>node h (fun h=>leaf h Tryz.func163 aWG) (fun h=>leaf h Tryz.func164 aTL)))) (fun h=>node h (fun h=>node h (fun h=>node h (fun h=>leaf h Tryz.func165 aVY) (fun h=>leaf h Tryz.func166 aSZ)) (fun h=>node h (fun h=>leaf h Tryz.func167 aWY) (fun h=>leaf h Tryz.func168 aS9))) (fun h=>node h (fun h=>node h (fun h=>leaf h Tryz.func169 aVV) (fun h=>leaf h Tryz.func170 aWK)) (fun h=>node h (fun h=>leaf h Tryz.func244 aT5) (fun h=>leaf h Tryz.func254 aTU))))))) (fun h=>node h (fun h=>node h (fun h=>node h (fun h=>node h (fun h=>node h (fun h=>leaf h Tryz.func257 aTV) (fun h=>node h (fun h=>leaf h Tryz.func268 aVJ) (fun h=>leaf h Tryz.func269 aS6))) (fun h=>node h (fun h=>node h (fun h=>leaf h Tryz.func270 aVF) (fun h=>leaf h Tryz.func271 aUO)) (fun h=>node h (fun h=>leaf h Tryz.func272 aU4) (fun h=>leaf h Tryz.func273 aUA)))) (fun h=>node h (fun h=>node h (fun h=>node h (fun h=>leaf h Tryz.func274 aVM) (fun h=>leaf h Tryz.func275 aTC)) (fun h=>node h (fun h=>leaf h Tryz.func276 aU6) (fun h=>leaf h Tryz.func277 aVH))) (fun h=>node h (fun h=>node h (fun h=>leaf h Tryz.func278 aVC) (fun h=>leaf h Tryz.func279 aWS)) (fun h=>node h (fun h=>leaf h Tryz.func280 aS7) (fun h=>leaf h Tryz.func281 aT6))))) (fun h=>node h (fun h=>node h (fun h=>node h (fun h=>leaf h Tryz.func282 aVT) (fun h=>node h (fun h=>leaf h Tryz.func283 aTN) (fun h=>leaf h Tryz.func284 aV7))) (fun h=>node h (fun h=>node h (fun h=>leaf h Tryz.func287 aVR) (fun h=>leaf h Tryz.func288 aWN)) (fun h=>node h (fun h=>leaf h Tryz.func289 aTW) (fun h=>leaf h Tryz.func290 aUE)))) (fun h=>node h (fun h=>node h (fun h=>node h (fun h=>leaf h Tryz.func291 aVU) (fun h=>leaf h Tryz.func292 aV9)) (fun h=>node h (fun h=>leaf h Tryz.func293 aWJ) (fun h=>leaf h Tryz.func294 aT8))) (fun h=>node h (fun h=>node h (fun h=>leaf h Tryz.func295 aUC) (fun h=>leaf h Tryz.func296 aWU)) (fun h=>node h (fun h=>leaf h Tryz.func297 aS5) (fun h=>leaf h Tryz.func298 aTF)))))) (fun h=>node h (fun h=>node h (fun h=>node h (fun h=>node h (fun h=>leaf h Tryz.func299 aUX) (fun h=>node h (fun h=>leaf h Tryz.func300 aVZ) (fun h=>leaf h Tryz.func301 aWH))) (fun h=>node h (fun h=>node h (fun h=>leaf h Tryz.func302 aT4) (fun h=>leaf h Tryz.func303 aUZ)) (fun h=>node h (fun h=>leaf h Tryz.func304 aUW) (fun h=>leaf h Tryz.func305 aVG)))) (fun h=>node h (fun h=>node h (fun h=>node h (fun h=>leaf h Tryz.func306 aVP) (fun h=>leaf h Tryz.func307 aTJ)) (fun h=>node h (fun h=>leaf h Tryz.func308 aV1) (fun h=>leaf h Tryz.func356 aTB))) (fun h=>node h (fun h=>node h (fun h=>leaf h Tryz.func378 aVW) (fun h=>leaf h Tryz.func386 aTI)) (fun h=>node h (fun h=>leaf h Tryz.func396 aS1) (fun h=>leaf h Tryz.func397 aTM))))) (fun h=>node h (fun h=>node h (fun h=>node h (fun h=>node h (fun h=>leaf h Tryz.func398 aWT) (fun h=>leaf h Tryz.func399 aWV)) (fun h=>node h (fun h=>leaf h Tryz.func400 aU2) (fun h=>leaf h Tryz.func401 aT1))) (fun h=>node h (fun h=>node h (fun h=>leaf h Tryz.func402 aVL) (fun h=>leaf h Tryz.func403 aWL)) (fun h=>node h (fun h=>leaf h Tryz.func405 aT9) (fun h=>leaf h Tryz.func406 aWQ)))) (fun h=>node h (fun h=>node h (fun h=>node h (fun h=>leaf h Tryz.func407 aSU) (fun h=>leaf h Tryz.func408 aVX)) (fun h=>node h (fun h=>leaf h Tryz.func409 aVD) (fun h=>leaf h Tryz.func410 aV3))) (fun h=>node h (fun h=>node h (fun h=>leaf h Tryz.func411 aV0) (fun h=>leaf h Tryz.func412 aTE)) (fun h=>node h (fun h=>leaf h Tryz.func413 aS4) (fun h=>leaf h Tryz.func414 aWD)))))))
theorem own:ownKnob Tryz.prog.godebug=none:=by kernel_rfl
theorem laidOut:laidOutB Tryz.prog=true:=by kernel_rfl
end Go.Proofs.YtckllniniolhcaaGreat
namespace Go.Proofs.YtckllniniolhcaaGreat
open Go.Am Go.Am.Room
theorem tys:Tu.TysC Tryz.prog:=⟨Tryz.underlying3,Tryz.underlying4,Tryz.underlying5,⟨_,Tryz.underlying24,rfl⟩,Tryz.underlying30,Tryz.underlying22,Tryz.underlying92,Tryz.underlying93,⟨_,Tryz.underlying91,rfl⟩,⟨_,Tryz.underlying115,rfl⟩,⟨_,Tryz.underlying95,rfl⟩,Tryz.underlying102⟩
end Go.Proofs.YtckllniniolhcaaGreat
