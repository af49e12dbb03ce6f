/- A part of the proof of TopCutHands: an abstract machine, or what functions come to on it. -/
import Derived.Test.YtckllniniolhcaaGreatTopCutHandsQ5
import Derived.Test.YtckllniniolhcaaGreatRows
import Derived.WalkKit
import Derived.ProofKit
import Derived.OpenShut
import Derived.ChangeOld
import Derived.Below
import Derived.Carry
open Nat (reduceLT reduceEqDiff reduceAdd reduceLeDiff reduceMul)
set_option linter.unusedVariables false
set_option linter.unusedSimpArgs false
set_option linter.defProp false
namespace Go.Proofs.YtckllniniolhcaaGreat
open Go.Am Go.Am.Room
def hh(s:String):Bool:=s== "top02.go".push (Char.ofNat 58)++ "31"
theorem leaf{f k:Nat}{a af:AFunc}(h:cond (Nat.beq f k) (some a) none=some af){fn:Func}(h1:Tryz.prog.funcs[k]? = some fn)(h2:aC Tryz.prog hh fn=some a):∃ fn,Tryz.prog.funcs[f]? = some fn/\aC Tryz.prog hh fn=some af:=by
 cases hb:Nat.beq f k with
 |false=>rw[hb] at h;cases h
 |true =>
  rw[hb] at h;have hf:f=k:=Nat.eq_of_beq_eq_true hb;simp only[cond_true,Option.some.injEq] at h;subst h;subst hf;exact⟨fn,h1,h2⟩
theorem node{b:Bool}{x y:Option AFunc}{af:AFunc}{Q:Prop}(h:cond b x y=some af)(h1:x=some af->Q)(h2:y=some af->Q):Q:=by
 cases b
 ·exact h2 h
 ·exact h1 h
theorem c2:aC Tryz.prog hh Tryz.f2=some Go.Am.Room.a2:=by kernel_rfl
theorem c3:aC Tryz.prog hh Tryz.f3=some Go.Am.Room.a3:=by kernel_rfl
theorem c4:aC Tryz.prog hh Tryz.f4=some Go.Am.Room.a4:=by kernel_rfl
theorem c5:aC Tryz.prog hh Tryz.f5=some Go.Am.Room.a5:=by kernel_rfl
theorem c6:aC Tryz.prog hh Tryz.f6=some Go.Am.Room.a6:=by kernel_rfl
theorem c7:aC Tryz.prog hh Tryz.f7=some Go.Am.Room.a7:=by kernel_rfl
theorem c8:aC Tryz.prog hh Tryz.f8=some Go.Am.Room.a8:=by kernel_rfl
theorem c9:aC Tryz.prog hh Tryz.f9=some Go.Am.Room.a9:=by kernel_rfl
theorem c10:aC Tryz.prog hh Tryz.f10=some Go.Am.Room.a10:=by kernel_rfl
theorem c12:aC Tryz.prog hh Tryz.f12=some Go.Am.Room.a12:=by kernel_rfl
theorem c14:aC Tryz.prog hh Tryz.f14=some Go.Am.Room.a14:=by kernel_rfl
theorem c15:aC Tryz.prog hh Tryz.f15=some Go.Am.Room.a15:=by kernel_rfl
theorem c18:aC Tryz.prog hh Tryz.f18=some Go.Am.Room.a18:=by kernel_rfl
theorem c20:aC Tryz.prog hh Tryz.f20=some Go.Am.Room.a20:=by kernel_rfl
theorem c22:aC Tryz.prog hh Tryz.f22=some Go.Am.Room.a22:=by kernel_rfl
theorem c23:aC Tryz.prog hh Tryz.f23=some Go.Am.Room.a23:=by kernel_rfl
theorem c24:aC Tryz.prog hh Tryz.f24=some Go.Am.Room.a24:=by kernel_rfl
theorem c25:aC Tryz.prog hh Tryz.f25=some Go.Am.Room.a25:=by kernel_rfl
theorem c26:aC Tryz.prog hh Tryz.f26=some Go.Am.Room.a26:=by kernel_rfl
theorem c27:aC Tryz.prog hh Tryz.f27=some Go.Am.Room.a27:=by kernel_rfl
theorem c29:aC Tryz.prog hh Tryz.f29=some Go.Am.Room.a29:=by kernel_rfl
theorem c44:aC Tryz.prog hh Tryz.f44=some Go.Am.Room.a44:=by kernel_rfl
theorem c59:aC Tryz.prog hh Tryz.f59=some Go.Am.Room.a59:=by kernel_rfl
theorem c64:aC Tryz.prog hh Tryz.f64=some Go.Am.Room.a64:=by kernel_rfl
theorem c67:aC Tryz.prog hh Tryz.f67=some Go.Am.Room.a67:=by kernel_rfl
theorem c68:aC Tryz.prog hh Tryz.f68=some Go.Am.Room.a68:=by kernel_rfl
theorem c72:aC Tryz.prog hh Tryz.f72=some Go.Am.Room.a72:=by kernel_rfl
theorem c73:aC Tryz.prog hh Tryz.f73=some Go.Am.Room.a73:=by kernel_rfl
theorem c74:aC Tryz.prog hh Tryz.f74=some Go.Am.Room.a74:=by kernel_rfl
theorem c75:aC Tryz.prog hh Tryz.f75=some Go.Am.Room.a75:=by kernel_rfl
theorem c76:aC Tryz.prog hh Tryz.f76=some Go.Am.Room.a76:=by kernel_rfl
theorem c77:aC Tryz.prog hh Tryz.f77=some Go.Am.Room.a77:=by kernel_rfl
theorem c78:aC Tryz.prog hh Tryz.f78=some Go.Am.Room.a78:=by kernel_rfl
theorem c79:aC Tryz.prog hh Tryz.f79=some Go.Am.Room.a79:=by kernel_rfl
theorem c90:aC Tryz.prog hh Tryz.f90=some Go.Am.Room.a90:=by kernel_rfl
theorem c91:aC Tryz.prog hh Tryz.f91=some Go.Am.Room.a91:=by kernel_rfl
theorem c92:aC Tryz.prog hh Tryz.f92=some Go.Am.Room.a92:=by kernel_rfl
theorem c93:aC Tryz.prog hh Tryz.f93=some Go.Am.Room.a93:=by kernel_rfl
theorem c94:aC Tryz.prog hh Tryz.f94=some Go.Am.Room.a94:=by kernel_rfl
theorem aQP:aC Tryz.prog hh Tryz.f100=some Go.Am.Room.a100:=by kernel_rfl
theorem aPM:aC Tryz.prog hh Tryz.f101=some Go.Am.Room.a101:=by kernel_rfl
theorem aP0:aC Tryz.prog hh Tryz.f102=some Go.Am.Room.a102:=by kernel_rfl
theorem aQC:aC Tryz.prog hh Tryz.f103=some Go.Am.Room.a103:=by kernel_rfl
theorem aOI:aC Tryz.prog hh Tryz.f104=some Go.Am.Room.a104:=by kernel_rfl
theorem aP7:aC Tryz.prog hh Tryz.f105=some Go.Am.Room.a105:=by kernel_rfl
theorem aQQ:aC Tryz.prog hh Tryz.f106=some Go.Am.Room.a106:=by kernel_rfl
theorem aOU:aC Tryz.prog hh Tryz.f107=some Go.Am.Room.a107:=by kernel_rfl
theorem aOP:aC Tryz.prog hh Tryz.f108=some Go.Am.Room.a108:=by kernel_rfl
theorem aNB:aC Tryz.prog hh Tryz.f109=some Go.Am.Room.a109:=by kernel_rfl
theorem aQL:aC Tryz.prog hh Tryz.f110=some Go.Am.Room.a110:=by kernel_rfl
theorem aOG:aC Tryz.prog hh Tryz.f111=some Go.Am.Room.a111:=by kernel_rfl
theorem aNV:aC Tryz.prog hh Tryz.f112=some Go.Am.Room.a112:=by kernel_rfl
theorem aQA:aC Tryz.prog hh Tryz.f113=some Go.Am.Room.a113:=by kernel_rfl
theorem aO2:aC Tryz.prog hh Tryz.f114=some Go.Am.Room.a114:=by kernel_rfl
theorem aM8:aC Tryz.prog hh Tryz.f115=some Go.Am.Room.a115:=by kernel_rfl
theorem aPZ:aC Tryz.prog hh Tryz.f116=some Go.Am.Room.a116:=by kernel_rfl
theorem aQD:aC Tryz.prog hh Tryz.f117=some Go.Am.Room.a117:=by kernel_rfl
theorem aPV:aC Tryz.prog hh Tryz.f118=some Go.Am.Room.a118:=by kernel_rfl
theorem aOJ:aC Tryz.prog hh Tryz.f170=some Go.Am.Room.a170:=by kernel_rfl
theorem aOV:aC Tryz.prog hh Tryz.f204=some Go.Am.Room.a204:=by kernel_rfl
theorem aNA:aC Tryz.prog hh Tryz.f220=some Go.Am.Room.a220:=by kernel_rfl
theorem aNJ:aC Tryz.prog hh Tryz.f221=some Go.Am.Room.a221:=by kernel_rfl
theorem aOA:aC Tryz.prog hh Tryz.f222=some Go.Am.Room.a222:=by kernel_rfl
theorem aNT:aC Tryz.prog hh Tryz.f223=some Go.Am.Room.a223:=by kernel_rfl
theorem aP2:aC Tryz.prog hh Tryz.f224=some Go.Am.Room.a224:=by kernel_rfl
theorem aP6:aC Tryz.prog hh Tryz.f232=some Go.Am.Room.a232:=by kernel_rfl
theorem aO4:aC Tryz.prog hh Tryz.f233=some Go.Am.Room.a233:=by kernel_rfl
theorem aM9:aC Tryz.prog hh Tryz.f234=some Go.Am.Room.a234:=by kernel_rfl
theorem aOR:aC Tryz.prog hh Tryz.f239=some Go.Am.Room.a239:=by kernel_rfl
theorem aPX:aC Tryz.prog hh Tryz.f240=some Go.Am.Room.a240:=by kernel_rfl
theorem aNM:aC Tryz.prog hh Tryz.f241=some Go.Am.Room.a241:=by kernel_rfl
theorem aO5:aC Tryz.prog hh Tryz.f242=some Go.Am.Room.a242:=by kernel_rfl
theorem aPC:aC Tryz.prog hh Tryz.f243=some Go.Am.Room.a243:=by kernel_rfl
theorem aN2:aC Tryz.prog hh Tryz.f244=some Go.Am.Room.a244:=by kernel_rfl
theorem aPS:aC Tryz.prog hh Tryz.f245=some Go.Am.Room.a245:=by kernel_rfl
theorem aOC:aC Tryz.prog hh Tryz.f246=some Go.Am.Room.a246:=by kernel_rfl
theorem aNO:aC Tryz.prog hh Tryz.f247=some Go.Am.Room.a247:=by kernel_rfl
theorem aO0:aC Tryz.prog hh Tryz.f248=some Go.Am.Room.a248:=by kernel_rfl
theorem aN6:aC Tryz.prog hh Tryz.f249=some Go.Am.Room.a249:=by kernel_rfl
theorem aNN:aC Tryz.prog hh Tryz.f250=some Go.Am.Room.a250:=by kernel_rfl
theorem aNW:aC Tryz.prog hh Tryz.f251=some Go.Am.Room.a251:=by kernel_rfl
theorem aN0:aC Tryz.prog hh Tryz.f252=some Go.Am.Room.a252:=by kernel_rfl
theorem aO6:aC Tryz.prog hh Tryz.f253=some Go.Am.Room.a253:=by kernel_rfl
theorem aPO:aC Tryz.prog hh Tryz.f254=some Go.Am.Room.a254:=by kernel_rfl
theorem aPP:aC Tryz.prog hh Tryz.f257=some Go.Am.Room.a257:=by kernel_rfl
theorem aQE:aC Tryz.prog hh Tryz.f331=some Go.Am.Room.a331:=by kernel_rfl
theorem aQM:aC Tryz.prog hh Tryz.f344=some Go.Am.Room.a344:=by kernel_rfl
theorem aPU:aC Tryz.prog hh Tryz.f345=some Go.Am.Room.a345:=by kernel_rfl
theorem aOQ:aC Tryz.prog hh Tryz.f346=some Go.Am.Room.a346:=by kernel_rfl
theorem aON:aC Tryz.prog hh Tryz.f347=some Go.Am.Room.a347:=by kernel_rfl
theorem aNX:aC Tryz.prog hh Tryz.f348=some Go.Am.Room.a348:=by kernel_rfl
theorem aOY:aC Tryz.prog hh Tryz.f349=some Go.Am.Room.a349:=by kernel_rfl
theorem aNC:aC Tryz.prog hh Tryz.f350=some Go.Am.Room.a350:=by kernel_rfl
theorem aO8:aC Tryz.prog hh Tryz.f351=some Go.Am.Room.a351:=by kernel_rfl
theorem aND:aC Tryz.prog hh Tryz.f352=some Go.Am.Room.a352:=by kernel_rfl
theorem aQR:aC Tryz.prog hh Tryz.f353=some Go.Am.Room.a353:=by kernel_rfl
theorem aN3:aC Tryz.prog hh Tryz.f354=some Go.Am.Room.a354:=by kernel_rfl
theorem aP9:aC Tryz.prog hh Tryz.f356=some Go.Am.Room.a356:=by kernel_rfl
theorem aPG:aC Tryz.prog hh Tryz.f369=some Go.Am.Room.a369:=by kernel_rfl
theorem aNS:aC Tryz.prog hh Tryz.f373=some Go.Am.Room.a373:=by kernel_rfl
theorem aNI:aC Tryz.prog hh Tryz.f374=some Go.Am.Room.a374:=by kernel_rfl
theorem aN9:aC Tryz.prog hh Tryz.f375=some Go.Am.Room.a375:=by kernel_rfl
theorem aOO:aC Tryz.prog hh Tryz.f376=some Go.Am.Room.a376:=by kernel_rfl
theorem aOS:aC Tryz.prog hh Tryz.f377=some Go.Am.Room.a377:=by kernel_rfl
theorem aP8:aC Tryz.prog hh Tryz.f378=some Go.Am.Room.a378:=by kernel_rfl
theorem aO7:aC Tryz.prog hh Tryz.f379=some Go.Am.Room.a379:=by kernel_rfl
theorem aQI:aC Tryz.prog hh Tryz.f380=some Go.Am.Room.a380:=by kernel_rfl
theorem aQT:aC Tryz.prog hh Tryz.f381=some Go.Am.Room.a381:=by kernel_rfl
theorem aNG:aC Tryz.prog hh Tryz.f382=some Go.Am.Room.a382:=by kernel_rfl
theorem aNF:aC Tryz.prog hh Tryz.f383=some Go.Am.Room.a383:=by kernel_rfl
theorem aP1:aC Tryz.prog hh Tryz.f384=some Go.Am.Room.a384:=by kernel_rfl
theorem aOW:aC Tryz.prog hh Tryz.f385=some Go.Am.Room.a385:=by kernel_rfl
theorem aPF:aC Tryz.prog hh Tryz.f386=some Go.Am.Room.a386:=by kernel_rfl
theorem aOH:aC Tryz.prog hh Tryz.f443=some Go.Am.Room.a443:=by kernel_rfl
theorem aPY:aC Tryz.prog hh Tryz.f444=some Go.Am.Room.a444:=by kernel_rfl
theorem aNQ:aC Tryz.prog hh Tryz.f445=some Go.Am.Room.a445:=by kernel_rfl
theorem aOD:aC Tryz.prog hh Tryz.f466=some Go.Am.Room.a466:=by kernel_rfl
theorem aNU:aC Tryz.prog hh Tryz.f467=some Go.Am.Room.a467:=by kernel_rfl
theorem aO1:aC Tryz.prog hh Tryz.f468=some Go.Am.Room.a468:=by kernel_rfl
theorem aNK:aC Tryz.prog hh Tryz.f472=some Go.Am.Room.a472:=by kernel_rfl
theorem aQK:aC Tryz.prog hh Tryz.f473=some Go.Am.Room.a473:=by kernel_rfl
theorem aOE:aC Tryz.prog hh Tryz.f474=some Go.Am.Room.a474:=by kernel_rfl
theorem aP5:aC Tryz.prog hh Tryz.f475=some Go.Am.Room.a475:=by kernel_rfl
theorem aPR:aC Tryz.prog hh Tryz.f476=some Go.Am.Room.a476:=by kernel_rfl
theorem aPN:aC Tryz.prog hh Tryz.f477=some Go.Am.Room.a477:=by kernel_rfl
theorem hT(f:FuncId)(af:AFunc)(h:Go.Am.Room.T f=some af):∃ fn,Tryz.prog.funcs[f]? = some fn/\aC Tryz.prog hh fn=some af:=node h (fun h=>node h (fun h=>node h (fun h=>node h (fun h=>node h (fun h=>node h (fun h=>leaf h Tryz.func2 c2) (fun h=>node h (fun h=>leaf h Tryz.func3 c3) (fun h=>leaf h Tryz.func4 c4))) (fun h=>node h (fun h=>node h (fun h=>leaf h Tryz.func5 c5) (fun h=>leaf h Tryz.func6 c6)) (fun h=>node h (fun h=>leaf h Tryz.func7 c7) (fun h=>leaf h Tryz.func8 c8)))) (fun h=>node h (fun h=>node h (fun h=>node h (fun h=>leaf h Tryz.func9 c9) (fun h=>leaf h Tryz.func10 c10)) (fun h=>node h (fun h=>leaf h Tryz.func12 c12) (fun h=>leaf h Tryz.func14 c14))) (fun h=>node h (fun h=>node h (fun h=>leaf h Tryz.func15 c15) (fun h=>leaf h Tryz.func18 c18)) (fun h=>node h (fun h=>leaf h Tryz.func20 c20) (fun h=>leaf h Tryz.func22 c22))))) (fun h=>node h (fun h=>node h (fun h=>node h (fun h=>node h (fun h=>leaf h Tryz.func23 c23) (fun h=>leaf h Tryz.func24 c24)) (fun h=>node h (fun h=>leaf h Tryz.func25 c25) (fun h=>leaf h Tryz.func26 c26))) (fun h=>node h (fun h=>node h (fun h=>leaf h Tryz.func27 c27) (fun h=>leaf h Tryz.func29 c29)) (fun h=>node h (fun h=>leaf h Tryz.func44 c44) (fun h=>leaf h Tryz.func59 c59)))) (fun h=>node h (fun h=>node h (fun h=>node h (fun h=>leaf h Tryz.func64 c64) (fun h=>leaf h Tryz.func67 c67)) (fun h=>node h (fun h=>leaf h Tryz.func68 c68) (fun h=>leaf h Tryz.func72 c72))) (fun h=>node h (fun h=>node h (fun h=>leaf h Tryz.func73 c73) (fun h=>leaf h Tryz.func74 c74)) (fun h=>node h (fun h=>leaf h Tryz.func75 c75) (fun h=>leaf h Tryz.func76 c76)))))) (fun h=>node h (fun h=>node h (fun h=>node h (fun h=>node h (fun h=>leaf h Tryz.func77 c77) (fun h=>node h (fun h=>leaf h Tryz.func78 c78) (fun h=>leaf h Tryz.func79 c79))) (fun h=>node h (fun h=>node h (fun h=>leaf h Tryz.func90 c90) (fun h=>leaf h Tryz.func91 c91)) (fun h=>node h (fun h=>leaf h Tryz.func92 c92) (fun h=>leaf h Tryz.func93 c93)))) (fun h=>node h (fun h=>node h (fun h=>node h (fun h=>leaf h Tryz.func94 c94) (fun h=>leaf h Tryz.func100 aQP)) (fun h=>node h (fun h=>leaf h Tryz.func101 aPM) (fun h=>leaf h Tryz.func102 aP0))) (fun h=>node h (fun h=>node h (fun h=>leaf h Tryz.func103 aQC) (fun h=>leaf h Tryz.func104 aOI)) (fun h=>node h (fun h=>leaf h Tryz.func105 aP7) (fun h=>leaf h Tryz.func106 aQQ))))) (fun h=>node h (fun h=>node h (fun h=>node h (fun h=>node h (fun h=>leaf h Tryz.func107 aOU) (fun h=>leaf h Tryz.func108 aOP)) (fun h=>node h (fun h=>leaf h Tryz.func109 aNB) (fun h=>leaf h Tryz.func110 aQL))) (fun h=>node h (fun h=>node h (fun h=>leaf h Tryz.func111 aOG) (fun h=>leaf h Tryz.func112 aNV)) (fun h=>node h (fun h=>leaf h Tryz.func113 aQA) (fun h=>leaf h Tryz.func114 aO2)))) (fun h=>node h (fun h=>node h (fun h=>node h (fun h=>leaf h Tryz.func115 aM8) (fun h=>leaf h Tryz.func116 aPZ)) (fun h=>node h (fun h=>leaf h Tryz.func117 aQD) (fun h=>leaf h Tryz.func118 aPV))) (fun h=>node h (fun h=>node h (fun h=>leaf h Tryz.func170 aOJ) (fun h=>leaf h Tryz.func204 aOV)) (fun h=>node h (fun h=>leaf h Tryz.func220 aNA) (fun h=>leaf h Tryz.func221 aNJ))))))) (fun h=>node h (fun h=>node h (fun h=>node h (fun h=>node h (fun h=>node h (fun h=>leaf h Tryz.func222 aOA) (fun h=>node h (fun h=>leaf h Tryz.func223 aNT) (fun h=>leaf h Tryz.func224 aP2))) (fun h=>node h (fun h=>node h (fun h=>leaf h Tryz.func232 aP6) (fun h=>leaf h Tryz.func233 aO4)) (fun h=>node h (fun h=>leaf h Tryz.func234 aM9) (fun h=>leaf h Tryz.func239 aOR)))) (fun h=>node h (fun h=>node h (fun h=>node h (fun h=>leaf h Tryz.func240 aPX) (fun h=>leaf h Tryz.func241 aNM)) (fun h=>node h (fun h=>leaf h Tryz.func242 aO5) (fun h=>leaf h Tryz.func243 aPC))) (fun h=>node h (fun h=>node h (fun h=>leaf h Tryz.func244 aN2) (fun h=>leaf h Tryz.func245 aPS)) (fun h=>node h (fun h=>leaf h Tryz.func246 aOC) (fun h=>leaf h Tryz.func247 aNO))))) (fun h=>node h (fun h=>node h (fun h=>node h (fun h=>node h (fun h=>leaf h Tryz.func248 aO0) (fun h=>leaf h Tryz.func249 aN6)) (fun h=>node h (fun h=>leaf h Tryz.func250 aNN) (fun h=>leaf h Tryz.func251 aNW))) (fun h=>node h (fun h=>node h (fun h=>leaf h Tryz.func252 aN0) (fun h=>leaf h Tryz.func253 aO6)) (fun h=>node h (fun h=>leaf h Tryz.func254 aPO) (fun h=>leaf h Tryz.func257 aPP)))) (fun h=>node h (fun h=>node h (fun h=>node h (fun h=>leaf h Tryz.func331 aQE) (fun h=>leaf h Tryz.func344 aQM)) (fun h=>node h (fun h=>leaf h Tryz.func345 aPU) (fun h=>leaf h Tryz.func346 aOQ))) (fun h=>node h (fun h=>node h (fun h=>leaf h Tryz.func347 aON) (fun h=>leaf h Tryz.func348 aNX)) (fun h=>node h (fun h=>leaf h Tryz.func349 aOY) (fun h=>leaf h Tryz.func350 aNC)))))) (fun h=>node h (fun h=>node h (fun h=>node h (fun h=>node h (fun h=>node h (fun h=>leaf h Tryz.func351 aO8) (fun h=>leaf h Tryz.func352 aND)) (fun h=>node h (fun h=>leaf h Tryz.func353 aQR) (fun h=>leaf h Tryz.func354 aN3))) (fun h=>node h (fun h=>node h (fun h=>leaf h Tryz.func356 aP9) (fun h=>leaf h Tryz.func369 aPG)) (fun h=>node h (fun h=>leaf h Tryz.func373 aNS) (fun h=>leaf h Tryz.func374 aNI)))) (fun h=>node h (fun h=>node h (fun h=>node h (fun h=>leaf h Tryz.func375 aN9) (fun h=>leaf h Tryz.func376 aOO)) (fun h=>node h (fun h=>leaf h Tryz.func377 aOS) (fun h=>leaf h Tryz.func378 aP8))) (fun h=>node h (fun h=>node h (fun h=>leaf h Tryz.func379 aO7) (fun h=>leaf h Tryz.func380 aQI)) (fun h=>node h (fun h=>leaf h Tryz.func381 aQT) (fun h=>leaf h Tryz.func382 aNG))))) (fun h=>node h (fun h=>node h (fun h=>node h (fun h=>node h (fun h=>leaf h Tryz.func383 aNF) (fun h=>leaf h Tryz.func384 aP1)) (fun h=>node h (fun h=>leaf h Tryz.func385 aOW) (fun h=>leaf h Tryz.func386 aPF))) (fun h=>node h (fun h=>node h (fun h=>leaf h Tryz.func443 aOH) (fun h=>leaf h Tryz.func444 aPY)) (fun h=>node h (fun h=>leaf h Tryz.func445 aNQ) (fun h=>leaf h Tryz.func466 aOD)))) (fun h=>node h (fun h=>node h (fun h=>node h (fun h=>leaf h Tryz.func467 aNU) (fun h=>leaf h Tryz.func468 aO1)) (fun h=>node h (fun h=>leaf h Tryz.func472 aNK) (fun h=>leaf h Tryz.func473 aQK))) (fun h=>node h (fun h=>node h (fun h=>leaf h Tryz.func474 aOE) (fun h=>leaf h Tryz.func475 aP5)) (fun h=>node h (fun h=>leaf h Tryz.func476 aPR) (fun h=>leaf h Tryz.func477 aPN)))))))
theorem own:ownKnob Tryz.prog.godebug=none:=by kernel_rfl
theorem laidOut:laidOutB Tryz.prog=true:=by kernel_rfl
end Go.Proofs.YtckllniniolhcaaGreat
namespace Go.Proofs.YtckllniniolhcaaGreat
open Go.Am Go.Am.Room
theorem tys:Fa.TysH Tryz.prog:=⟨Tryz.underlying3,Tryz.underlying5,Tryz.underlying9,Tryz.underlying22,⟨_,Tryz.underlying24,rfl⟩,Tryz.underlying25,Tryz.underlying26,⟨_,Tryz.underlying28,rfl⟩,Tryz.underlying59,Tryz.underlying60,Tryz.underlying61,⟨_,Tryz.underlying63,rfl⟩,Tryz.underlying64,⟨_,Tryz.underlying66,rfl⟩,⟨_,Tryz.underlying71,rfl⟩,⟨_,Tryz.underlying175,rfl⟩,⟨_,Tryz.underlying220,rfl⟩,⟨_,Tryz.underlying224,rfl⟩,⟨_,Tryz.underlying226,rfl⟩⟩
end Go.Proofs.YtckllniniolhcaaGreat
