/- A part of the proof of TopDoors: an abstract machine, or what functions come to on it. -/
import Derived.Test.YtckllniniolhcaaGreatTopDoorsQ5
import Derived.Test.YtckllniniolhcaaGreatRows
import Derived.WalkKit
import Derived.ProofKit
import Derived.OpenShut
import Derived.ChangeOld
import Derived.Below
import Derived.Carry
open Nat (reduceLT reduceEqDiff reduceAdd reduceLeDiff reduceMul)
set_option linter.unusedVariables false
set_option linter.unusedSimpArgs false
set_option linter.defProp false
namespace Go.Proofs.YtckllniniolhcaaGreat
open Go.Am Go.Am.Room
def hh(s:String):Bool:=false
theorem leaf{f k:Nat}{a af:AFunc}(h:cond (Nat.beq f k) (some a) none=some af){fn:Func}(h1:Tryz.prog.funcs[k]? = some fn)(h2:iY Tryz.prog hh fn=some a):∃ fn,Tryz.prog.funcs[f]? = some fn/\iY Tryz.prog hh fn=some af:=by
 cases hb:Nat.beq f k with
 |false=>rw[hb] at h;cases h
 |true =>
  rw[hb] at h;have hf:f=k:=Nat.eq_of_beq_eq_true hb;simp only[cond_true,Option.some.injEq] at h;subst h;subst hf;exact⟨fn,h1,h2⟩
theorem node{b:Bool}{x y:Option AFunc}{af:AFunc}{Q:Prop}(h:cond b x y=some af)(h1:x=some af->Q)(h2:y=some af->Q):Q:=by
 cases b
 ·exact h2 h
 ·exact h1 h
noncomputable abbrev cF:=iY Tryz.prog hh
theorem c2:cF Tryz.f2=some a2:=by kernel_rfl
theorem c3:cF Tryz.f3=some a3:=by kernel_rfl
theorem c4:cF Tryz.f4=some a4:=by kernel_rfl
theorem c5:cF Tryz.f5=some a5:=by kernel_rfl
theorem c6:cF Tryz.f6=some a6:=by kernel_rfl
theorem c7:cF Tryz.f7=some a7:=by kernel_rfl
theorem c8:cF Tryz.f8=some a8:=by kernel_rfl
theorem c9:cF Tryz.f9=some a9:=by kernel_rfl
theorem c20:cF Tryz.f20=some a20:=by kernel_rfl
theorem c25:cF Tryz.f25=some a25:=by kernel_rfl
theorem c27:cF Tryz.f27=some a27:=by kernel_rfl
theorem c29:cF Tryz.f29=some a29:=by kernel_rfl
theorem c39:cF Tryz.f39=some a39:=by kernel_rfl
theorem c40:cF Tryz.f40=some a40:=by kernel_rfl
theorem c41:cF Tryz.f41=some a41:=by kernel_rfl
theorem c42:cF Tryz.f42=some a42:=by kernel_rfl
theorem c43:cF Tryz.f43=some a43:=by kernel_rfl
theorem c44:cF Tryz.f44=some a44:=by kernel_rfl
theorem c53:cF Tryz.f53=some a53:=by kernel_rfl
theorem c60:cF Tryz.f60=some a60:=by kernel_rfl
theorem c61:cF Tryz.f61=some a61:=by kernel_rfl
theorem c62:cF Tryz.f62=some a62:=by kernel_rfl
theorem c63:cF Tryz.f63=some a63:=by kernel_rfl
theorem c64:cF Tryz.f64=some a64:=by kernel_rfl
theorem c65:cF Tryz.f65=some a65:=by kernel_rfl
theorem c66:cF Tryz.f66=some a66:=by kernel_rfl
theorem c67:cF Tryz.f67=some a67:=by kernel_rfl
theorem aQ5:cF Tryz.f111=some RG:=by kernel_rfl
theorem aPU:cF Tryz.f118=some VS:=by kernel_rfl
theorem aP1:cF Tryz.f153=some PQ:=by kernel_rfl
theorem aO9:cF Tryz.f154=some T4:=by kernel_rfl
theorem aQT:cF Tryz.f155=some TW:=by kernel_rfl
theorem aRZ:cF Tryz.f156=some SC:=by kernel_rfl
theorem aSG:cF Tryz.f157=some VK:=by kernel_rfl
theorem aO3:cF Tryz.f158=some VQ:=by kernel_rfl
theorem aQ0:cF Tryz.f159=some T3:=by kernel_rfl
theorem aOS:cF Tryz.f160=some RN:=by kernel_rfl
theorem aRU:cF Tryz.f161=some QU:=by kernel_rfl
theorem aQG:cF Tryz.f162=some V8:=by kernel_rfl
theorem aPZ:cF Tryz.f163=some JS:=by kernel_rfl
theorem aQF:cF Tryz.f164=some UN:=by kernel_rfl
theorem aQO:cF Tryz.f165=some VX:=by kernel_rfl
theorem aTN:cF Tryz.f166=some H3:=by kernel_rfl
theorem aS8:cF Tryz.f167=some P8:=by kernel_rfl
theorem aTD:cF Tryz.f168=some S1:=by kernel_rfl
theorem aOW:cF Tryz.f169=some UF:=by kernel_rfl
theorem aR8:cF Tryz.f170=some UV:=by kernel_rfl
theorem aQY:cF Tryz.f205=some Q8:=by kernel_rfl
theorem aO0:cF Tryz.f206=some RZ:=by kernel_rfl
theorem aQ4:cF Tryz.f207=some Q2:=by kernel_rfl
theorem aS2:cF Tryz.f208=some VW:=by kernel_rfl
theorem aQQ:cF Tryz.f209=some aMZ:=by kernel_rfl
theorem aPI:cF Tryz.f210=some aM8:=by kernel_rfl
theorem aRA:cF Tryz.f211=some aMK:=by kernel_rfl
theorem aPR:cF Tryz.f212=some aM4:=by kernel_rfl
theorem aQW:cF Tryz.f213=some aIT:=by kernel_rfl
theorem aQ3:cF Tryz.f214=some aNI:=by kernel_rfl
theorem aRV:cF Tryz.f215=some aHW:=by kernel_rfl
theorem aS0:cF Tryz.f216=some aIS:=by kernel_rfl
theorem aTI:cF Tryz.f217=some aMR:=by kernel_rfl
theorem aSJ:cF Tryz.f218=some aH9:=by kernel_rfl
theorem aSQ:cF Tryz.f219=some aOL:=by kernel_rfl
theorem aO6:cF Tryz.f220=some QK:=by kernel_rfl
theorem aSX:cF Tryz.f221=some S4:=by kernel_rfl
theorem aPO:cF Tryz.f244=some UI:=by kernel_rfl
theorem aPM:cF Tryz.f254=some V5:=by kernel_rfl
theorem aQZ:cF Tryz.f257=some VU:=by kernel_rfl
theorem aSY:cF Tryz.f293=some BE:=by kernel_rfl
theorem aPA:cF Tryz.f294=some TZ:=by kernel_rfl
theorem aPN:cF Tryz.f295=some SG:=by kernel_rfl
theorem aS3:cF Tryz.f296=some SJ:=by kernel_rfl
theorem aRE:cF Tryz.f297=some SZ:=by kernel_rfl
theorem aPD:cF Tryz.f298=some PX:=by kernel_rfl
theorem aPV:cF Tryz.f299=some QL:=by kernel_rfl
theorem aR2:cF Tryz.f300=some PR:=by kernel_rfl
theorem aOX:cF Tryz.f301=some PN:=by kernel_rfl
theorem aS5:cF Tryz.f302=some UP:=by kernel_rfl
theorem aPS:cF Tryz.f303=some S5:=by kernel_rfl
theorem aTK:cF Tryz.f304=some UG:=by kernel_rfl
theorem aOT:cF Tryz.f305=some RH:=by kernel_rfl
theorem aRF:cF Tryz.f306=some T6:=by kernel_rfl
theorem aTA:cF Tryz.f307=some PY:=by kernel_rfl
theorem aQX:cF Tryz.f308=some UC:=by kernel_rfl
theorem aRK:cF Tryz.f332=some OQ:=by kernel_rfl
theorem aPG:cF Tryz.f333=some aH1:=by kernel_rfl
theorem aPT:cF Tryz.f334=some aHH:=by kernel_rfl
theorem aSL:cF Tryz.f335=some aHO:=by kernel_rfl
theorem aS4:cF Tryz.f336=some aNA:=by kernel_rfl
theorem aQJ:cF Tryz.f337=some aJJ:=by kernel_rfl
theorem aS6:cF Tryz.f338=some aOO:=by kernel_rfl
theorem aQ8:cF Tryz.f339=some aNC:=by kernel_rfl
theorem aSA:cF Tryz.f340=some aMW:=by kernel_rfl
theorem aP0:cF Tryz.f341=some aKC:=by kernel_rfl
theorem aSR:cF Tryz.f342=some aJB:=by kernel_rfl
theorem aRB:cF Tryz.f343=some aI5:=by kernel_rfl
theorem aS1:cF Tryz.f356=some SI:=by kernel_rfl
theorem aQI:cF Tryz.f378=some PH:=by kernel_rfl
theorem aPY:cF Tryz.f386=some QY:=by kernel_rfl
theorem aTJ:cF Tryz.f410=some U8:=by kernel_rfl
theorem aPJ:cF Tryz.f411=some wK:=by kernel_rfl
theorem aP2:cF Tryz.f412=some SN:=by kernel_rfl
theorem aSM:cF Tryz.f413=some V4:=by kernel_rfl
theorem aSS:cF Tryz.f414=some PL:=by kernel_rfl
theorem aRP:cF Tryz.f446=some aMF:=by kernel_rfl
theorem aQS:cF Tryz.f447=some aMG:=by kernel_rfl
theorem aQ1:cF Tryz.f448=some aH5:=by kernel_rfl
theorem aRI:cF Tryz.f449=some aJ4:=by kernel_rfl
theorem aQ9:cF Tryz.f450=some aJZ:=by kernel_rfl
theorem aSC:cF Tryz.f451=some aMU:=by kernel_rfl
theorem aRY:cF Tryz.f452=some aLK:=by kernel_rfl
theorem aTF:cF Tryz.f453=some aJ7:=by kernel_rfl
theorem aO8:cF Tryz.f454=some aLX:=by kernel_rfl
theorem aOZ:cF Tryz.f455=some aN6:=by kernel_rfl
theorem aPF:cF Tryz.f456=some aIL:=by kernel_rfl
theorem aO7:cF Tryz.f457=some aOD:=by kernel_rfl
theorem aQ6:cF Tryz.f458=some aJY:=by kernel_rfl
theorem aTM:cF Tryz.f459=some aJM:=by kernel_rfl
theorem aPL:cF Tryz.f460=some aNX:=by kernel_rfl
theorem aSF:cF Tryz.f461=some aNZ:=by kernel_rfl
theorem aSK:cF Tryz.f462=some aLC:=by kernel_rfl
theorem aQU:cF Tryz.f463=some aM7:=by kernel_rfl
theorem aTG:cF Tryz.f464=some aN3:=by kernel_rfl
theorem aQC:cF Tryz.f465=some aOM:=by kernel_rfl
theorem aSB:cF Tryz.f490=some aKI:=by kernel_rfl
theorem aS7:cF Tryz.f491=some aM2:=by kernel_rfl
theorem aRN:cF Tryz.f492=some aMO:=by kernel_rfl
theorem aRD:cF Tryz.f493=some aIG:=by kernel_rfl
theorem aSO:cF Tryz.f494=some aLV:=by kernel_rfl
theorem aR5:cF Tryz.f495=some aJR:=by kernel_rfl
theorem aOR:cF Tryz.f500=some aOA:=by kernel_rfl
theorem aRS:cF Tryz.f501=some aJ2:=by kernel_rfl
theorem aQM:cF Tryz.f502=some aMV:=by kernel_rfl
theorem aRO:cF Tryz.f503=some aI1:=by kernel_rfl
theorem aR1:cF Tryz.f504=some aJX:=by kernel_rfl
theorem aP6:cF Tryz.f505=some aLR:=by kernel_rfl
theorem aRC:cF Tryz.f506=some aKY:=by kernel_rfl
theorem aPH:cF Tryz.f507=some aIV:=by kernel_rfl
theorem aSN:cF Tryz.f508=some aJW:=by kernel_rfl
theorem aP4:cF Tryz.f509=some aJT:=by kernel_rfl
theorem aSP:cF Tryz.f510=some aNO:=by kernel_rfl
theorem aRG:cF Tryz.f511=some aL8:=by kernel_rfl
theorem aSD:cF Tryz.f512=some aIY:=by kernel_rfl
theorem aR4:cF Tryz.f513=some aH0:=by kernel_rfl
theorem aPC:cF Tryz.f514=some aNB:=by kernel_rfl
theorem aTB:cF Tryz.f515=some aHU:=by kernel_rfl
theorem aRL:cF Tryz.f516=some aIK:=by kernel_rfl
theorem aPX:cF Tryz.f517=some aND:=by kernel_rfl
theorem aRM:cF Tryz.f518=some aIW:=by kernel_rfl
theorem aOV:cF Tryz.f519=some aOE:=by kernel_rfl
theorem aP8:cF Tryz.f520=some aHE:=by kernel_rfl
theorem aQV:cF Tryz.f521=some aK0:=by kernel_rfl
theorem aP7:cF Tryz.f522=some aIM:=by kernel_rfl
theorem aPW:cF Tryz.f523=some aJ9:=by kernel_rfl
theorem hT(f:FuncId)(af:AFunc)(h:Go.Am.Room.T f=some af):∃ fn,Tryz.prog.funcs[f]? = some fn/\iY Tryz.prog hh fn=some af:=node h (fun h=>node h (fun h=>node h (fun h=>node h (fun h=>node h (fun h=>node h (fun h=>node h (fun h=>leaf h Tryz.func2 c2) (fun h=>leaf h Tryz.func3 c3)) (fun h=>node h (fun h=>leaf h Tryz.func4 c4) (fun h=>leaf h Tryz.func5 c5))) (fun h=>node h (fun h=>node h (fun h=>leaf h Tryz.func6 c6) (fun h=>leaf h Tryz.func7 c7)) (fun h=>node h (fun h=>leaf h Tryz.func8 c8) (fun h=>node h (fun h=>leaf h Tryz.func9 c9) (fun h=>leaf h Tryz.func20 c20))))) (fun h=>node h (fun h=>node h (fun h=>node h (fun h=>leaf h Tryz.func25 c25) (fun h=>leaf h Tryz.func27 c27)) (fun h=>node h (fun h=>leaf h Tryz.func29 c29) (fun h=>node h (fun h=>leaf h Tryz.func39 c39) (fun h=>leaf h Tryz.func40 c40)))) (fun h=>node h (fun h=>node h (fun h=>leaf h Tryz.func41 c41) (fun h=>leaf h Tryz.func42 c42)) (fun h=>node h (fun h=>leaf h Tryz.func43 c43) (fun h=>node h (fun h=>leaf h Tryz.func44 c44) (fun h=>leaf h Tryz.func53 c53)))))) (fun h=>node h (fun h=>node h (fun h=>node h (fun h=>node h (fun h=>leaf h Tryz.func60 c60) (fun h=>leaf h Tryz.func61 c61)) (fun h=>node h (fun h=>leaf h Tryz.func62 c62) (fun h=>leaf h Tryz.func63 c63))) (fun h=>node h (fun h=>node h (fun h=>leaf h Tryz.func64 c64) (fun h=>leaf h Tryz.func65 c65)) (fun h=>node h (fun h=>leaf h Tryz.func66 c66) (fun h=>node h (fun h=>leaf h Tryz.func67 c67) (fun h=>leaf h Tryz.func111 aQ5))))) (fun h=>node h (fun h=>node h (fun h=>node h (fun h=>leaf h Tryz.func118 aPU) (fun h=>leaf h Tryz.func153 aP1)) (fun h=>node h (fun h=>leaf h Tryz.func154 aO9) (fun h=>node h (fun h=>leaf h Tryz.func155 aQT) (fun h=>leaf h Tryz.func156 aRZ)))) (fun h=>node h (fun h=>node h (fun h=>leaf h Tryz.func157 aSG) (fun h=>leaf h Tryz.func158 aO3)) (fun h=>node h (fun h=>leaf h Tryz.func159 aQ0) (fun h=>node h (fun h=>leaf h Tryz.func160 aOS) (fun h=>leaf h Tryz.func161 aRU))))))) (fun h=>node h (fun h=>node h (fun h=>node h (fun h=>node h (fun h=>node h (fun h=>leaf h Tryz.func162 aQG) (fun h=>leaf h Tryz.func163 aPZ)) (fun h=>node h (fun h=>leaf h Tryz.func164 aQF) (fun h=>leaf h Tryz.func165 aQO))) (fun h=>node h (fun h=>node h (fun h=>leaf h Tryz.func166 aTN) (fun h=>leaf h Tryz.func167 aS8)) (fun h=>node h (fun h=>leaf h Tryz.func168 aTD) (fun h=>node h (fun h=>leaf h Tryz.func169 aOW) (fun h=>leaf h Tryz.func170 aR8))))) (fun h=>node h (fun h=>node h (fun h=>node h (fun h=>leaf h Tryz.func205 aQY) (fun h=>leaf h Tryz.func206 aO0)) (fun h=>node h (fun h=>leaf h Tryz.func207 aQ4) (fun h=>node h (fun h=>leaf h Tryz.func208 aS2) (fun h=>leaf h Tryz.func209 aQQ)))) (fun h=>node h (fun h=>node h (fun h=>leaf h Tryz.func210 aPI) (fun h=>leaf h Tryz.func211 aRA)) (fun h=>node h (fun h=>leaf h Tryz.func212 aPR) (fun h=>node h (fun h=>leaf h Tryz.func213 aQW) (fun h=>leaf h Tryz.func214 aQ3)))))) (fun h=>node h (fun h=>node h (fun h=>node h (fun h=>node h (fun h=>leaf h Tryz.func215 aRV) (fun h=>leaf h Tryz.func216 aS0)) (fun h=>node h (fun h=>leaf h Tryz.func217 aTI) (fun h=>leaf h Tryz.func218 aSJ))) (fun h=>node h (fun h=>node h (fun h=>leaf h Tryz.func219 aSQ) (fun h=>leaf h Tryz.func220 aO6)) (fun h=>node h (fun h=>leaf h Tryz.func221 aSX) (fun h=>node h (fun h=>leaf h Tryz.func244 aPO) (fun h=>leaf h Tryz.func254 aPM))))) (fun h=>node h (fun h=>node h (fun h=>node h (fun h=>leaf h Tryz.func257 aQZ) (fun h=>leaf h Tryz.func293 aSY)) (fun h=>node h (fun h=>leaf h Tryz.func294 aPA) (fun h=>node h (fun h=>leaf h Tryz.func295 aPN) (fun h=>leaf h Tryz.func296 aS3)))) (fun h=>node h (fun h=>node h (fun h=>leaf h Tryz.func297 aRE) (fun h=>leaf h Tryz.func298 aPD)) (fun h=>node h (fun h=>leaf h Tryz.func299 aPV) (fun h=>node h (fun h=>leaf h Tryz.func300 aR2) (fun h=>leaf h Tryz.func301 aOX)))))))) (fun h=>node h (fun h=>node h (fun h=>node h (fun h=>node h (fun h=>node h (fun h=>node h (fun h=>leaf h Tryz.func302 aS5) (fun h=>leaf h Tryz.func303 aPS)) (fun h=>node h (fun h=>leaf h Tryz.func304 aTK) (fun h=>leaf h Tryz.func305 aOT))) (fun h=>node h (fun h=>node h (fun h=>leaf h Tryz.func306 aRF) (fun h=>leaf h Tryz.func307 aTA)) (fun h=>node h (fun h=>leaf h Tryz.func308 aQX) (fun h=>node h (fun h=>leaf h Tryz.func332 aRK) (fun h=>leaf h Tryz.func333 aPG))))) (fun h=>node h (fun h=>node h (fun h=>node h (fun h=>leaf h Tryz.func334 aPT) (fun h=>leaf h Tryz.func335 aSL)) (fun h=>node h (fun h=>leaf h Tryz.func336 aS4) (fun h=>node h (fun h=>leaf h Tryz.func337 aQJ) (fun h=>leaf h Tryz.func338 aS6)))) (fun h=>node h (fun h=>node h (fun h=>leaf h Tryz.func339 aQ8) (fun h=>leaf h Tryz.func340 aSA)) (fun h=>node h (fun h=>leaf h Tryz.func341 aP0) (fun h=>node h (fun h=>leaf h Tryz.func342 aSR) (fun h=>leaf h Tryz.func343 aRB)))))) (fun h=>node h (fun h=>node h (fun h=>node h (fun h=>node h (fun h=>leaf h Tryz.func356 aS1) (fun h=>leaf h Tryz.func378 aQI)) (fun h=>node h (fun h=>leaf h Tryz.func386 aPY) (fun h=>leaf h Tryz.func410 aTJ))) (fun h=>node h (fun h=>node h (fun h=>leaf h Tryz.func411 aPJ) (fun h=>leaf h Tryz.func412 aP2)) (fun h=>node h (fun h=>leaf h Tryz.func413 aSM) (fun h=>node h (fun h=>leaf h Tryz.func414 aSS) (fun h=>leaf h Tryz.func446 aRP))))) (fun h=>node h (fun h=>node h (fun h=>node h (fun h=>leaf h Tryz.func447 aQS) (fun h=>leaf h Tryz.func448 aQ1)) (fun h=>node h (fun h=>leaf h Tryz.func449 aRI) (fun h=>node h (fun h=>leaf h Tryz.func450 aQ9) (fun h=>leaf h Tryz.func451 aSC)))) (fun h=>node h (fun h=>node h (fun h=>leaf h Tryz.func452 aRY) (fun h=>leaf h Tryz.func453 aTF)) (fun h=>node h (fun h=>leaf h Tryz.func454 aO8) (fun h=>node h (fun h=>leaf h Tryz.func455 aOZ) (fun h=>leaf h Tryz.func456 aPF))))))) (fun h=>node h (fun h=>node h (fun h=>node h (fun h=>node h (fun h=>node h (fun h=>leaf h Tryz.func457 aO7) (fun h=>leaf h Tryz.func458 aQ6)) (fun h=>node h (fun h=>leaf h Tryz.func459 aTM) (fun h=>leaf h Tryz.func460 aPL))) (fun h=>node h (fun h=>node h (fun h=>leaf h Tryz.func461 aSF) (fun h=>leaf h Tryz.func462 aSK)) (fun h=>node h (fun h=>leaf h Tryz.func463 aQU) (fun h=>node h (fun h=>leaf h Tryz.func464 aTG) (fun h=>leaf h Tryz.func465 aQC))))) (fun h=>node h (fun h=>node h (fun h=>node h (fun h=>leaf h Tryz.func490 aSB) (fun h=>leaf h Tryz.func491 aS7)) (fun h=>node h (fun h=>leaf h Tryz.func492 aRN) (fun h=>node h (fun h=>leaf h Tryz.func493 aRD) (fun h=>leaf h Tryz.func494 aSO)))) (fun h=>node h (fun h=>node h (fun h=>leaf h Tryz.func495 aR5) (fun h=>leaf h Tryz.func500 aOR)) (fun h=>node h (fun h=>leaf h Tryz.func501 aRS) (fun h=>node h (fun h=>leaf h Tryz.func502 aQM) (fun h=>leaf h Tryz.func503 aRO)))))) (fun h=>node h (fun h=>node h (fun h=>node h (fun h=>node h (fun h=>leaf h Tryz.func504 aR1) (fun h=>leaf h Tryz.func505 aP6)) (fun h=>node h (fun h=>leaf h Tryz.func506 aRC) (fun h=>node h (fun h=>leaf h Tryz.func507 aPH) (fun h=>leaf h Tryz.func508 aSN)))) (fun h=>node h (fun h=>node h (fun h=>leaf h Tryz.func509 aP4) (fun h=>leaf h Tryz.func510 aSP)) (fun h=>node h (fun h=>leaf h Tryz.func511 aRG) (fun h=>node h (fun h=>leaf h Tryz.func512 aSD) (fun h=>leaf h Tryz.func513 aR4))))) (fun h=>node h (fun h=>node h (fun h=>node h (fun h=>leaf h Tryz.func514 aPC) (fun h=>leaf h Tryz.func515 aTB)) (fun h=>node h (fun h=>leaf h Tryz.func516 aRL) (fun h=>node h (fun h=>leaf h Tryz.func517 aPX) (fun h=>leaf h Tryz.func518 aRM)))) (fun h=>node h (fun h=>node h (fun h=>leaf h Tryz.func519 aOV) (fun h=>leaf h Tryz.func520 aP8)) (fun h=>node h (fun h=>leaf h Tryz.func521 aQV) (fun h=>node h (fun h=>leaf h Tryz.func522 aP7) (fun h=>leaf h Tryz.func523 aPW))))))))
theorem own:ownKnob Tryz.prog.godebug=none:=by kernel_rfl
theorem laidOut:laidOutB Tryz.prog=true:=by kernel_rfl
end Go.Proofs.YtckllniniolhcaaGreat
namespace Go.Proofs.YtckllniniolhcaaGreat
open Go.Am Go.Am.Room
theorem tys:Do.TysD Tryz.prog:=⟨Tryz.underlying3,Tryz.underlying4,Tryz.underlying5,Tryz.underlying9,⟨_,Tryz.underlying24,rfl⟩,Tryz.underlying110,Tryz.underlying107,Tryz.underlying111,⟨_,Tryz.underlying113,rfl⟩,⟨_,Tryz.underlying116,rfl⟩,Tryz.underlying34,⟨_,Tryz.underlying106,rfl⟩,⟨_,Tryz.underlying109,rfl⟩⟩
end Go.Proofs.YtckllniniolhcaaGreat
