/- A part of the proof of TopTrams: an abstract machine, or what functions come to on it. -/
import Derived.Test.YtckllniniolhcaaGreatTopTramsQ5
import Derived.Test.YtckllniniolhcaaGreatRows
import Derived.WalkKit
import Derived.ProofKit
import Derived.OpenShut
import Derived.ChangeOld
import Derived.Below
import Derived.Carry
open Nat (reduceLT reduceEqDiff reduceAdd reduceLeDiff reduceMul)
set_option linter.unusedVariables false
set_option linter.unusedSimpArgs false
set_option linter.defProp false
namespace Go.Proofs.YtckllniniolhcaaGreat
open Go.Am Go.Am.Room
def hh(s:String):Bool:=s== "law.go".push (Char.ofNat 58)++ "16"||s== "slices.go".push (Char.ofNat 58)++ "362"
theorem leaf{f k:Nat}{a af:AFunc}(h:cond (Nat.beq f k) (some a) none=some af){fn:Func}(h1:Tryz.prog.funcs[k]? = some fn)(h2:lV Tryz.prog hh fn=some a):∃ fn,Tryz.prog.funcs[f]? = some fn/\lV Tryz.prog hh fn=some af:=by
 cases hb:Nat.beq f k with
 |false=>rw[hb] at h;cases h
 |true =>
  rw[hb] at h;have hf:f=k:=Nat.eq_of_beq_eq_true hb;simp only[cond_true,Option.some.injEq] at h;subst h;subst hf;exact⟨fn,h1,h2⟩
theorem node{b:Bool}{x y:Option AFunc}{af:AFunc}{Q:Prop}(h:cond b x y=some af)(h1:x=some af->Q)(h2:y=some af->Q):Q:=by
 cases b
 ·exact h2 h
 ·exact h1 h
noncomputable abbrev cF:=lV Tryz.prog hh
theorem c2:cF Tryz.f2=some a2:=by kernel_rfl
theorem c3:cF Tryz.f3=some a3:=by kernel_rfl
theorem c4:cF Tryz.f4=some a4:=by kernel_rfl
theorem c5:cF Tryz.f5=some a5:=by kernel_rfl
theorem c6:cF Tryz.f6=some a6:=by kernel_rfl
theorem c7:cF Tryz.f7=some a7:=by kernel_rfl
theorem c8:cF Tryz.f8=some a8:=by kernel_rfl
theorem c9:cF Tryz.f9=some a9:=by kernel_rfl
theorem c20:cF Tryz.f20=some a20:=by kernel_rfl
theorem c24:cF Tryz.f24=some a24:=by kernel_rfl
theorem c25:cF Tryz.f25=some a25:=by kernel_rfl
theorem c29:cF Tryz.f29=some a29:=by kernel_rfl
theorem c44:cF Tryz.f44=some a44:=by kernel_rfl
theorem c45:cF Tryz.f45=some a45:=by kernel_rfl
theorem c46:cF Tryz.f46=some a46:=by kernel_rfl
theorem c47:cF Tryz.f47=some a47:=by kernel_rfl
theorem c48:cF Tryz.f48=some a48:=by kernel_rfl
theorem c49:cF Tryz.f49=some a49:=by kernel_rfl
theorem c50:cF Tryz.f50=some a50:=by kernel_rfl
theorem c51:cF Tryz.f51=some a51:=by kernel_rfl
theorem c52:cF Tryz.f52=some a52:=by kernel_rfl
theorem c53:cF Tryz.f53=some a53:=by kernel_rfl
theorem c54:cF Tryz.f54=some a54:=by kernel_rfl
theorem c55:cF Tryz.f55=some a55:=by kernel_rfl
theorem c56:cF Tryz.f56=some a56:=by kernel_rfl
theorem c57:cF Tryz.f57=some a57:=by kernel_rfl
theorem c64:cF Tryz.f64=some a64:=by kernel_rfl
theorem c67:cF Tryz.f67=some a67:=by kernel_rfl
theorem aRN:cF Tryz.f111=some ZL:=by kernel_rfl
theorem aR4:cF Tryz.f118=some LM:=by kernel_rfl
theorem aTM:cF Tryz.f170=some WD:=by kernel_rfl
theorem aRO:cF Tryz.f171=some aCV:=by kernel_rfl
theorem aQ4:cF Tryz.f172=some UJ:=by kernel_rfl
theorem aSI:cF Tryz.f173=some U2:=by kernel_rfl
theorem aRD:cF Tryz.f174=some aAS:=by kernel_rfl
theorem aSM:cF Tryz.f175=some aBI:=by kernel_rfl
theorem aQO:cF Tryz.f176=some LF:=by kernel_rfl
theorem aQD:cF Tryz.f177=some JX:=by kernel_rfl
theorem aSY:cF Tryz.f178=some aA0:=by kernel_rfl
theorem aP9:cF Tryz.f179=some aC8:=by kernel_rfl
theorem aQY:cF Tryz.f180=some UU:=by kernel_rfl
theorem aTL:cF Tryz.f181=some aBN:=by kernel_rfl
theorem aS9:cF Tryz.f182=some UT:=by kernel_rfl
theorem aQ6:cF Tryz.f183=some aCH:=by kernel_rfl
theorem aSG:cF Tryz.f184=some VE:=by kernel_rfl
theorem aR3:cF Tryz.f185=some Y6:=by kernel_rfl
theorem aSA:cF Tryz.f186=some aBO:=by kernel_rfl
theorem aS4:cF Tryz.f187=some aB8:=by kernel_rfl
theorem aTU:cF Tryz.f188=some XS:=by kernel_rfl
theorem aRS:cF Tryz.f189=some VU:=by kernel_rfl
theorem aQ8:cF Tryz.f190=some ZP:=by kernel_rfl
theorem aRV:cF Tryz.f191=some XM:=by kernel_rfl
theorem aQP:cF Tryz.f192=some aAV:=by kernel_rfl
theorem aTV:cF Tryz.f193=some aAF:=by kernel_rfl
theorem aR7:cF Tryz.f194=some V2:=by kernel_rfl
theorem aTX:cF Tryz.f195=some VC:=by kernel_rfl
theorem aSC:cF Tryz.f196=some HW:=by kernel_rfl
theorem aSZ:cF Tryz.f197=some US:=by kernel_rfl
theorem aTS:cF Tryz.f198=some LI:=by kernel_rfl
theorem aRQ:cF Tryz.f199=some ZX:=by kernel_rfl
theorem aR5:cF Tryz.f200=some U6:=by kernel_rfl
theorem aSU:cF Tryz.f201=some aAJ:=by kernel_rfl
theorem aR9:cF Tryz.f202=some RP:=by kernel_rfl
theorem aQ1:cF Tryz.f203=some KG:=by kernel_rfl
theorem aSN:cF Tryz.f220=some ZZ:=by kernel_rfl
theorem aRB:cF Tryz.f221=some VF:=by kernel_rfl
theorem aQM:cF Tryz.f244=some YU:=by kernel_rfl
theorem aQI:cF Tryz.f254=some WH:=by kernel_rfl
theorem aRP:cF Tryz.f257=some aCI:=by kernel_rfl
theorem aS3:cF Tryz.f309=some YL:=by kernel_rfl
theorem aTW:cF Tryz.f310=some WF:=by kernel_rfl
theorem aRW:cF Tryz.f311=some Z3:=by kernel_rfl
theorem aQQ:cF Tryz.f312=some aCA:=by kernel_rfl
theorem aQ5:cF Tryz.f313=some T0:=by kernel_rfl
theorem aS2:cF Tryz.f314=some RV:=by kernel_rfl
theorem aSJ:cF Tryz.f315=some X2:=by kernel_rfl
theorem aST:cF Tryz.f316=some aCX:=by kernel_rfl
theorem aRU:cF Tryz.f317=some YY:=by kernel_rfl
theorem aR1:cF Tryz.f318=some ZK:=by kernel_rfl
theorem aTO:cF Tryz.f319=some PK:=by kernel_rfl
theorem aRE:cF Tryz.f320=some BV:=by kernel_rfl
theorem aSW:cF Tryz.f321=some aAP:=by kernel_rfl
theorem aQS:cF Tryz.f322=some aAE:=by kernel_rfl
theorem aSH:cF Tryz.f323=some HK:=by kernel_rfl
theorem aT0:cF Tryz.f324=some XD:=by kernel_rfl
theorem aQV:cF Tryz.f325=some SX:=by kernel_rfl
theorem aRM:cF Tryz.f326=some ZI:=by kernel_rfl
theorem aQH:cF Tryz.f327=some W9:=by kernel_rfl
theorem aQ3:cF Tryz.f328=some YX:=by kernel_rfl
theorem aSR:cF Tryz.f329=some aCE:=by kernel_rfl
theorem aS0:cF Tryz.f330=some U8:=by kernel_rfl
theorem aTK:cF Tryz.f356=some V5:=by kernel_rfl
theorem aQ0:cF Tryz.f378=some aAQ:=by kernel_rfl
theorem aSE:cF Tryz.f386=some aAN:=by kernel_rfl
theorem aQA:cF Tryz.f415=some UV:=by kernel_rfl
theorem aQW:cF Tryz.f416=some ZG:=by kernel_rfl
theorem aTP:cF Tryz.f417=some V7:=by kernel_rfl
theorem aSF:cF Tryz.f418=some IP:=by kernel_rfl
theorem aQZ:cF Tryz.f419=some SL:=by kernel_rfl
theorem aQC:cF Tryz.f420=some Z9:=by kernel_rfl
theorem aQJ:cF Tryz.f421=some ZE:=by kernel_rfl
theorem aQG:cF Tryz.f422=some ZR:=by kernel_rfl
theorem aRF:cF Tryz.f423=some VX:=by kernel_rfl
theorem aSD:cF Tryz.f424=some aC9:=by kernel_rfl
theorem aS1:cF Tryz.f425=some aA4:=by kernel_rfl
theorem aQT:cF Tryz.f426=some X8:=by kernel_rfl
theorem aQL:cF Tryz.f427=some aAD:=by kernel_rfl
theorem aRZ:cF Tryz.f428=some aCP:=by kernel_rfl
theorem aTB:cF Tryz.f429=some Z2:=by kernel_rfl
theorem aSQ:cF Tryz.f430=some VZ:=by kernel_rfl
theorem aS7:cF Tryz.f431=some XW:=by kernel_rfl
theorem aR8:cF Tryz.f432=some zV:=by kernel_rfl
theorem aP6:cF Tryz.f433=some aAI:=by kernel_rfl
theorem aQN:cF Tryz.f434=some YM:=by kernel_rfl
theorem aTQ:cF Tryz.f435=some E7:=by kernel_rfl
theorem aQE:cF Tryz.f436=some YC:=by kernel_rfl
theorem aRR:cF Tryz.f437=some WQ:=by kernel_rfl
theorem aR2:cF Tryz.f438=some X1:=by kernel_rfl
theorem aQX:cF Tryz.f439=some VA:=by kernel_rfl
theorem aSS:cF Tryz.f440=some aB9:=by kernel_rfl
theorem aTE:cF Tryz.f441=some aBL:=by kernel_rfl
theorem aS8:cF Tryz.f442=some aAK:=by kernel_rfl
theorem aQ7:cF Tryz.f482=some YJ:=by kernel_rfl
theorem aS6:cF Tryz.f483=some aC7:=by kernel_rfl
theorem aSX:cF Tryz.f484=some aBW:=by kernel_rfl
theorem aP7:cF Tryz.f485=some W1:=by kernel_rfl
theorem aTY:cF Tryz.f486=some aCW:=by kernel_rfl
theorem aQB:cF Tryz.f487=some VM:=by kernel_rfl
theorem aRT:cF Tryz.f488=some XQ:=by kernel_rfl
theorem aSV:cF Tryz.f489=some Z6:=by kernel_rfl
theorem hT(f:FuncId)(af:AFunc)(h:Go.Am.Room.T f=some af):∃ fn,Tryz.prog.funcs[f]? = some fn/\lV Tryz.prog hh fn=some af:=node h (fun h=>node h (fun h=>node h (fun h=>node h (fun h=>node h (fun h=>node h (fun h=>node h (fun h=>leaf h Tryz.func2 c2) (fun h=>leaf h Tryz.func3 c3)) (fun h=>node h (fun h=>leaf h Tryz.func4 c4) (fun h=>leaf h Tryz.func5 c5))) (fun h=>node h (fun h=>node h (fun h=>leaf h Tryz.func6 c6) (fun h=>leaf h Tryz.func7 c7)) (fun h=>node h (fun h=>leaf h Tryz.func8 c8) (fun h=>leaf h Tryz.func9 c9)))) (fun h=>node h (fun h=>node h (fun h=>node h (fun h=>leaf h Tryz.func20 c20) (fun h=>leaf h Tryz.func24 c24)) (fun h=>node h (fun h=>leaf h Tryz.func25 c25) (fun h=>leaf h Tryz.func29 c29))) (fun h=>node h (fun h=>node h (fun h=>leaf h Tryz.func44 c44) (fun h=>leaf h Tryz.func45 c45)) (fun h=>node h (fun h=>leaf h Tryz.func46 c46) (fun h=>leaf h Tryz.func47 c47))))) (fun h=>node h (fun h=>node h (fun h=>node h (fun h=>node h (fun h=>leaf h Tryz.func48 c48) (fun h=>leaf h Tryz.func49 c49)) (fun h=>node h (fun h=>leaf h Tryz.func50 c50) (fun h=>leaf h Tryz.func51 c51))) (fun h=>node h (fun h=>node h (fun h=>leaf h Tryz.func52 c52) (fun h=>leaf h Tryz.func53 c53)) (fun h=>node h (fun h=>leaf h Tryz.func54 c54) (fun h=>leaf h Tryz.func55 c55)))) (fun h=>node h (fun h=>node h (fun h=>node h (fun h=>leaf h Tryz.func56 c56) (fun h=>leaf h Tryz.func57 c57)) (fun h=>node h (fun h=>leaf h Tryz.func64 c64) (fun h=>leaf h Tryz.func67 c67))) (fun h=>node h (fun h=>node h (fun h=>leaf h Tryz.func111 aRN) (fun h=>leaf h Tryz.func118 aR4)) (fun h=>node h (fun h=>leaf h Tryz.func170 aTM) (fun h=>leaf h Tryz.func171 aRO)))))) (fun h=>node h (fun h=>node h (fun h=>node h (fun h=>node h (fun h=>node h (fun h=>leaf h Tryz.func172 aQ4) (fun h=>leaf h Tryz.func173 aSI)) (fun h=>node h (fun h=>leaf h Tryz.func174 aRD) (fun h=>leaf h Tryz.func175 aSM))) (fun h=>node h (fun h=>node h (fun h=>leaf h Tryz.func176 aQO) (fun h=>leaf h Tryz.func177 aQD)) (fun h=>node h (fun h=>leaf h Tryz.func178 aSY) (fun h=>leaf h Tryz.func179 aP9)))) (fun h=>node h (fun h=>node h (fun h=>node h (fun h=>leaf h Tryz.func180 aQY) (fun h=>leaf h Tryz.func181 aTL)) (fun h=>node h (fun h=>leaf h Tryz.func182 aS9) (fun h=>leaf h Tryz.func183 aQ6))) (fun h=>node h (fun h=>node h (fun h=>leaf h Tryz.func184 aSG) (fun h=>leaf h Tryz.func185 aR3)) (fun h=>node h (fun h=>leaf h Tryz.func186 aSA) (fun h=>leaf h Tryz.func187 aS4))))) (fun h=>node h (fun h=>node h (fun h=>node h (fun h=>node h (fun h=>leaf h Tryz.func188 aTU) (fun h=>leaf h Tryz.func189 aRS)) (fun h=>node h (fun h=>leaf h Tryz.func190 aQ8) (fun h=>leaf h Tryz.func191 aRV))) (fun h=>node h (fun h=>node h (fun h=>leaf h Tryz.func192 aQP) (fun h=>leaf h Tryz.func193 aTV)) (fun h=>node h (fun h=>leaf h Tryz.func194 aR7) (fun h=>leaf h Tryz.func195 aTX)))) (fun h=>node h (fun h=>node h (fun h=>node h (fun h=>leaf h Tryz.func196 aSC) (fun h=>leaf h Tryz.func197 aSZ)) (fun h=>node h (fun h=>leaf h Tryz.func198 aTS) (fun h=>leaf h Tryz.func199 aRQ))) (fun h=>node h (fun h=>node h (fun h=>leaf h Tryz.func200 aR5) (fun h=>leaf h Tryz.func201 aSU)) (fun h=>node h (fun h=>leaf h Tryz.func202 aR9) (fun h=>node h (fun h=>leaf h Tryz.func203 aQ1) (fun h=>leaf h Tryz.func220 aSN)))))))) (fun h=>node h (fun h=>node h (fun h=>node h (fun h=>node h (fun h=>node h (fun h=>node h (fun h=>leaf h Tryz.func221 aRB) (fun h=>leaf h Tryz.func244 aQM)) (fun h=>node h (fun h=>leaf h Tryz.func254 aQI) (fun h=>leaf h Tryz.func257 aRP))) (fun h=>node h (fun h=>node h (fun h=>leaf h Tryz.func309 aS3) (fun h=>leaf h Tryz.func310 aTW)) (fun h=>node h (fun h=>leaf h Tryz.func311 aRW) (fun h=>leaf h Tryz.func312 aQQ)))) (fun h=>node h (fun h=>node h (fun h=>node h (fun h=>leaf h Tryz.func313 aQ5) (fun h=>leaf h Tryz.func314 aS2)) (fun h=>node h (fun h=>leaf h Tryz.func315 aSJ) (fun h=>leaf h Tryz.func316 aST))) (fun h=>node h (fun h=>node h (fun h=>leaf h Tryz.func317 aRU) (fun h=>leaf h Tryz.func318 aR1)) (fun h=>node h (fun h=>leaf h Tryz.func319 aTO) (fun h=>leaf h Tryz.func320 aRE))))) (fun h=>node h (fun h=>node h (fun h=>node h (fun h=>node h (fun h=>leaf h Tryz.func321 aSW) (fun h=>leaf h Tryz.func322 aQS)) (fun h=>node h (fun h=>leaf h Tryz.func323 aSH) (fun h=>leaf h Tryz.func324 aT0))) (fun h=>node h (fun h=>node h (fun h=>leaf h Tryz.func325 aQV) (fun h=>leaf h Tryz.func326 aRM)) (fun h=>node h (fun h=>leaf h Tryz.func327 aQH) (fun h=>leaf h Tryz.func328 aQ3)))) (fun h=>node h (fun h=>node h (fun h=>node h (fun h=>leaf h Tryz.func329 aSR) (fun h=>leaf h Tryz.func330 aS0)) (fun h=>node h (fun h=>leaf h Tryz.func356 aTK) (fun h=>leaf h Tryz.func378 aQ0))) (fun h=>node h (fun h=>node h (fun h=>leaf h Tryz.func386 aSE) (fun h=>leaf h Tryz.func415 aQA)) (fun h=>node h (fun h=>leaf h Tryz.func416 aQW) (fun h=>leaf h Tryz.func417 aTP)))))) (fun h=>node h (fun h=>node h (fun h=>node h (fun h=>node h (fun h=>node h (fun h=>leaf h Tryz.func418 aSF) (fun h=>leaf h Tryz.func419 aQZ)) (fun h=>node h (fun h=>leaf h Tryz.func420 aQC) (fun h=>leaf h Tryz.func421 aQJ))) (fun h=>node h (fun h=>node h (fun h=>leaf h Tryz.func422 aQG) (fun h=>leaf h Tryz.func423 aRF)) (fun h=>node h (fun h=>leaf h Tryz.func424 aSD) (fun h=>leaf h Tryz.func425 aS1)))) (fun h=>node h (fun h=>node h (fun h=>node h (fun h=>leaf h Tryz.func426 aQT) (fun h=>leaf h Tryz.func427 aQL)) (fun h=>node h (fun h=>leaf h Tryz.func428 aRZ) (fun h=>leaf h Tryz.func429 aTB))) (fun h=>node h (fun h=>node h (fun h=>leaf h Tryz.func430 aSQ) (fun h=>leaf h Tryz.func431 aS7)) (fun h=>node h (fun h=>leaf h Tryz.func432 aR8) (fun h=>leaf h Tryz.func433 aP6))))) (fun h=>node h (fun h=>node h (fun h=>node h (fun h=>node h (fun h=>leaf h Tryz.func434 aQN) (fun h=>leaf h Tryz.func435 aTQ)) (fun h=>node h (fun h=>leaf h Tryz.func436 aQE) (fun h=>leaf h Tryz.func437 aRR))) (fun h=>node h (fun h=>node h (fun h=>leaf h Tryz.func438 aR2) (fun h=>leaf h Tryz.func439 aQX)) (fun h=>node h (fun h=>leaf h Tryz.func440 aSS) (fun h=>leaf h Tryz.func441 aTE)))) (fun h=>node h (fun h=>node h (fun h=>node h (fun h=>leaf h Tryz.func442 aS8) (fun h=>leaf h Tryz.func482 aQ7)) (fun h=>node h (fun h=>leaf h Tryz.func483 aS6) (fun h=>leaf h Tryz.func484 aSX))) (fun h=>node h (fun h=>node h (fun h=>leaf h Tryz.func485 aP7) (fun h=>leaf h Tryz.func486 aTY)) (fun h=>node h (fun h=>leaf h Tryz.func487 aQB) (fun h=>node h (fun h=>leaf h Tryz.func488 aRT) (fun h=>leaf h Tryz.func489 aSV))))))))
theorem own:ownKnob Tryz.prog.godebug=none:=by kernel_rfl
theorem laidOut:laidOutB Tryz.prog=true:=by kernel_rfl
end Go.Proofs.YtckllniniolhcaaGreat
namespace Go.Proofs.YtckllniniolhcaaGreat
open Go.Am Go.Am.Room
theorem tys:Ca.TysT Tryz.prog:=⟨Tryz.underlying3,Tryz.underlying9,⟨_,Tryz.underlying24,rfl⟩,Tryz.underlying30,Tryz.underlying64,Tryz.underlying124,Tryz.underlying125,Tryz.underlying126,⟨_,Tryz.underlying128,rfl⟩,Tryz.underlying129,⟨_,Tryz.underlying131,rfl⟩,⟨_,Tryz.underlying146,rfl⟩,⟨_,Tryz.underlying301,rfl⟩,⟨_,Tryz.underlying303,rfl⟩,⟨_,Tryz.underlying306,rfl⟩⟩
end Go.Proofs.YtckllniniolhcaaGreat
