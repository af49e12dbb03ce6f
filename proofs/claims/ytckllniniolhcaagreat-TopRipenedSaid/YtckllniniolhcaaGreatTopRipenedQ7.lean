/- A part of the proof of TopRipened: an abstract machine, or what functions come to on it. -/
import Derived.Test.YtckllniniolhcaaGreatTopRipenedQ6
import Derived.Test.YtckllniniolhcaaGreatRows
import Derived.WalkKit
import Derived.ProofKit
import Derived.OpenShut
import Derived.ChangeOld
import Derived.Below
import Derived.Carry
open Nat (reduceLT reduceEqDiff reduceAdd reduceLeDiff reduceMul)
set_option linter.unusedVariables false
set_option linter.unusedSimpArgs false
set_option linter.defProp false
namespace Go.Proofs.YtckllniniolhcaaGreat
open Go.Am Go.Am.Room
def hh(s:String):Bool:=s== "law.go".push (Char.ofNat 58)++ "16"
theorem leaf{f k:Nat}{a af:AFunc}(h:cond (Nat.beq f k) (some a) none=some af){fn:Func}(h1:Tryz.prog.funcs[k]? = some fn)(h2:mV Tryz.prog hh fn=some a):∃ fn,Tryz.prog.funcs[f]? = some fn/\mV Tryz.prog hh fn=some af:=by
 cases hb:Nat.beq f k with
 |false=>rw[hb] at h;cases h
 |true =>
  rw[hb] at h;have hf:f=k:=Nat.eq_of_beq_eq_true hb;simp only[cond_true,Option.some.injEq] at h;subst h;subst hf;exact⟨fn,h1,h2⟩
theorem node{b:Bool}{x y:Option AFunc}{af:AFunc}{Q:Prop}(h:cond b x y=some af)(h1:x=some af->Q)(h2:y=some af->Q):Q:=by
 cases b
 ·exact h2 h
 ·exact h1 h
noncomputable abbrev cF:=mV Tryz.prog hh
theorem c2:cF Tryz.f2=some a2:=by kernel_rfl
theorem c3:cF Tryz.f3=some a3:=by kernel_rfl
theorem c4:cF Tryz.f4=some a4:=by kernel_rfl
theorem c5:cF Tryz.f5=some a5:=by kernel_rfl
theorem c6:cF Tryz.f6=some a6:=by kernel_rfl
theorem c7:cF Tryz.f7=some a7:=by kernel_rfl
theorem c8:cF Tryz.f8=some a8:=by kernel_rfl
theorem c10:cF Tryz.f10=some a10:=by kernel_rfl
theorem c12:cF Tryz.f12=some a12:=by kernel_rfl
theorem c14:cF Tryz.f14=some a14:=by kernel_rfl
theorem c15:cF Tryz.f15=some a15:=by kernel_rfl
theorem c18:cF Tryz.f18=some a18:=by kernel_rfl
theorem c20:cF Tryz.f20=some a20:=by kernel_rfl
theorem c26:cF Tryz.f26=some a26:=by kernel_rfl
theorem c29:cF Tryz.f29=some a29:=by kernel_rfl
theorem c44:cF Tryz.f44=some a44:=by kernel_rfl
theorem c45:cF Tryz.f45=some a45:=by kernel_rfl
theorem c48:cF Tryz.f48=some a48:=by kernel_rfl
theorem c49:cF Tryz.f49=some a49:=by kernel_rfl
theorem c50:cF Tryz.f50=some a50:=by kernel_rfl
theorem c51:cF Tryz.f51=some a51:=by kernel_rfl
theorem c52:cF Tryz.f52=some a52:=by kernel_rfl
theorem c54:cF Tryz.f54=some a54:=by kernel_rfl
theorem c58:cF Tryz.f58=some a58:=by kernel_rfl
theorem c59:cF Tryz.f59=some a59:=by kernel_rfl
theorem c64:cF Tryz.f64=some a64:=by kernel_rfl
theorem c67:cF Tryz.f67=some a67:=by kernel_rfl
theorem c68:cF Tryz.f68=some a68:=by kernel_rfl
theorem c72:cF Tryz.f72=some a72:=by kernel_rfl
theorem c73:cF Tryz.f73=some a73:=by kernel_rfl
theorem c74:cF Tryz.f74=some a74:=by kernel_rfl
theorem c75:cF Tryz.f75=some a75:=by kernel_rfl
theorem c76:cF Tryz.f76=some a76:=by kernel_rfl
theorem c77:cF Tryz.f77=some a77:=by kernel_rfl
theorem c78:cF Tryz.f78=some a78:=by kernel_rfl
theorem c79:cF Tryz.f79=some a79:=by kernel_rfl
theorem c90:cF Tryz.f90=some a90:=by kernel_rfl
theorem c91:cF Tryz.f91=some a91:=by kernel_rfl
theorem c92:cF Tryz.f92=some a92:=by kernel_rfl
theorem c93:cF Tryz.f93=some a93:=by kernel_rfl
theorem c94:cF Tryz.f94=some a94:=by kernel_rfl
theorem aS2:cF Tryz.f111=some OA:=by kernel_rfl
theorem aRS:cF Tryz.f117=some XS:=by kernel_rfl
theorem aTY:cF Tryz.f118=some M0:=by kernel_rfl
theorem aR3:cF Tryz.f170=some aBX:=by kernel_rfl
theorem aR9:cF Tryz.f171=some aBA:=by kernel_rfl
theorem aTA:cF Tryz.f172=some aAP:=by kernel_rfl
theorem aS1:cF Tryz.f181=some ZH:=by kernel_rfl
theorem aSM:cF Tryz.f182=some aAA:=by kernel_rfl
theorem aUD:cF Tryz.f183=some aAQ:=by kernel_rfl
theorem aRL:cF Tryz.f184=some aAH:=by kernel_rfl
theorem aQ3:cF Tryz.f185=some WX:=by kernel_rfl
theorem aTV:cF Tryz.f186=some WW:=by kernel_rfl
theorem aRH:cF Tryz.f187=some X6:=by kernel_rfl
theorem aRZ:cF Tryz.f188=some aA3:=by kernel_rfl
theorem aUA:cF Tryz.f189=some aA6:=by kernel_rfl
theorem aSB:cF Tryz.f190=some YQ:=by kernel_rfl
theorem aS6:cF Tryz.f191=some aDJ:=by kernel_rfl
theorem aS3:cF Tryz.f192=some aCU:=by kernel_rfl
theorem aRG:cF Tryz.f193=some X7:=by kernel_rfl
theorem aSH:cF Tryz.f194=some aBT:=by kernel_rfl
theorem aRQ:cF Tryz.f204=some aDM:=by kernel_rfl
theorem aRP:cF Tryz.f220=some WY:=by kernel_rfl
theorem aQV:cF Tryz.f221=some aBP:=by kernel_rfl
theorem aSG:cF Tryz.f222=some YU:=by kernel_rfl
theorem aSZ:cF Tryz.f223=some aB6:=by kernel_rfl
theorem aTL:cF Tryz.f224=some aBJ:=by kernel_rfl
theorem aTU:cF Tryz.f232=some aBU:=by kernel_rfl
theorem aQ2:cF Tryz.f233=some aDB:=by kernel_rfl
theorem aSX:cF Tryz.f234=some KS:=by kernel_rfl
theorem aR7:cF Tryz.f244=some M8:=by kernel_rfl
theorem aQW:cF Tryz.f254=some OE:=by kernel_rfl
theorem aTE:cF Tryz.f257=some PG:=by kernel_rfl
theorem aS7:cF Tryz.f309=some aAT:=by kernel_rfl
theorem aSC:cF Tryz.f310=some aBZ:=by kernel_rfl
theorem aQ9:cF Tryz.f316=some ZF:=by kernel_rfl
theorem aUE:cF Tryz.f317=some aEQ:=by kernel_rfl
theorem aSN:cF Tryz.f318=some aDN:=by kernel_rfl
theorem aQ8:cF Tryz.f319=some R9:=by kernel_rfl
theorem aTH:cF Tryz.f320=some EJ:=by kernel_rfl
theorem aT8:cF Tryz.f321=some aBB:=by kernel_rfl
theorem aTQ:cF Tryz.f322=some YL:=by kernel_rfl
theorem aSP:cF Tryz.f323=some LU:=by kernel_rfl
theorem aR1:cF Tryz.f324=some YI:=by kernel_rfl
theorem aTK:cF Tryz.f325=some WV:=by kernel_rfl
theorem aTP:cF Tryz.f326=some Y4:=by kernel_rfl
theorem aUB:cF Tryz.f327=some XC:=by kernel_rfl
theorem aR0:cF Tryz.f331=some ZT:=by kernel_rfl
theorem aSK:cF Tryz.f344=some Y6:=by kernel_rfl
theorem aSU:cF Tryz.f345=some YM:=by kernel_rfl
theorem aS9:cF Tryz.f346=some aCP:=by kernel_rfl
theorem aTS:cF Tryz.f347=some aDP:=by kernel_rfl
theorem aT5:cF Tryz.f348=some W5:=by kernel_rfl
theorem aSQ:cF Tryz.f349=some XW:=by kernel_rfl
theorem aS8:cF Tryz.f350=some aCX:=by kernel_rfl
theorem aRF:cF Tryz.f351=some ZY:=by kernel_rfl
theorem aT2:cF Tryz.f352=some aBY:=by kernel_rfl
theorem aSD:cF Tryz.f353=some X5:=by kernel_rfl
theorem aQ0:cF Tryz.f354=some ZV:=by kernel_rfl
theorem aSV:cF Tryz.f356=some MP:=by kernel_rfl
theorem aRA:cF Tryz.f369=some aCJ:=by kernel_rfl
theorem aRI:cF Tryz.f378=some ML:=by kernel_rfl
theorem aTW:cF Tryz.f386=some P0:=by kernel_rfl
theorem aTT:cF Tryz.f415=some aD3:=by kernel_rfl
theorem aR2:cF Tryz.f420=some X8:=by kernel_rfl
theorem aTF:cF Tryz.f421=some aDL:=by kernel_rfl
theorem aRC:cF Tryz.f422=some ZN:=by kernel_rfl
theorem aTN:cF Tryz.f423=some Z8:=by kernel_rfl
theorem aTX:cF Tryz.f424=some aB7:=by kernel_rfl
theorem aRO:cF Tryz.f425=some Y8:=by kernel_rfl
theorem aRX:cF Tryz.f426=some ZO:=by kernel_rfl
theorem aQ6:cF Tryz.f427=some aCT:=by kernel_rfl
theorem aR5:cF Tryz.f428=some XX:=by kernel_rfl
theorem aT3:cF Tryz.f429=some ZW:=by kernel_rfl
theorem aTB:cF Tryz.f430=some XI:=by kernel_rfl
theorem aSW:cF Tryz.f431=some aB5:=by kernel_rfl
theorem aTO:cF Tryz.f432=some CY:=by kernel_rfl
theorem aQ5:cF Tryz.f433=some aDH:=by kernel_rfl
theorem aR8:cF Tryz.f434=some aCS:=by kernel_rfl
theorem aRU:cF Tryz.f435=some H7:=by kernel_rfl
theorem aRT:cF Tryz.f436=some ZR:=by kernel_rfl
theorem aSI:cF Tryz.f443=some aAO:=by kernel_rfl
theorem aSJ:cF Tryz.f444=some WN:=by kernel_rfl
theorem aSR:cF Tryz.f445=some YC:=by kernel_rfl
theorem aTR:cF Tryz.f466=some aC8:=by kernel_rfl
theorem aT7:cF Tryz.f467=some YD:=by kernel_rfl
theorem aRB:cF Tryz.f468=some IF:=by kernel_rfl
theorem aRM:cF Tryz.f482=some aDT:=by kernel_rfl
theorem aRJ:cF Tryz.f483=some X4:=by kernel_rfl
theorem aT9:cF Tryz.f484=some aC9:=by kernel_rfl
theorem aT4:cF Tryz.f485=some aAW:=by kernel_rfl
theorem aRR:cF Tryz.f486=some ZU:=by kernel_rfl
theorem aR4:cF Tryz.f487=some aDO:=by kernel_rfl
theorem aTJ:cF Tryz.f488=some aB8:=by kernel_rfl
theorem hT(f:FuncId)(af:AFunc)(h:Go.Am.Room.T f=some af):∃ fn,Tryz.prog.funcs[f]? = some fn/\mV Tryz.prog hh fn=some af:=node h (fun h=>node h (fun h=>node h (fun h=>node h (fun h=>node h (fun h=>node h (fun h=>node h (fun h=>leaf h Tryz.func2 c2) (fun h=>leaf h Tryz.func3 c3)) (fun h=>node h (fun h=>leaf h Tryz.func4 c4) (fun h=>leaf h Tryz.func5 c5))) (fun h=>node h (fun h=>node h (fun h=>leaf h Tryz.func6 c6) (fun h=>leaf h Tryz.func7 c7)) (fun h=>node h (fun h=>leaf h Tryz.func8 c8) (fun h=>leaf h Tryz.func10 c10)))) (fun h=>node h (fun h=>node h (fun h=>node h (fun h=>leaf h Tryz.func12 c12) (fun h=>leaf h Tryz.func14 c14)) (fun h=>node h (fun h=>leaf h Tryz.func15 c15) (fun h=>leaf h Tryz.func18 c18))) (fun h=>node h (fun h=>node h (fun h=>leaf h Tryz.func20 c20) (fun h=>leaf h Tryz.func26 c26)) (fun h=>node h (fun h=>leaf h Tryz.func29 c29) (fun h=>leaf h Tryz.func44 c44))))) (fun h=>node h (fun h=>node h (fun h=>node h (fun h=>node h (fun h=>leaf h Tryz.func45 c45) (fun h=>leaf h Tryz.func48 c48)) (fun h=>node h (fun h=>leaf h Tryz.func49 c49) (fun h=>leaf h Tryz.func50 c50))) (fun h=>node h (fun h=>node h (fun h=>leaf h Tryz.func51 c51) (fun h=>leaf h Tryz.func52 c52)) (fun h=>node h (fun h=>leaf h Tryz.func54 c54) (fun h=>leaf h Tryz.func58 c58)))) (fun h=>node h (fun h=>node h (fun h=>node h (fun h=>leaf h Tryz.func59 c59) (fun h=>leaf h Tryz.func64 c64)) (fun h=>node h (fun h=>leaf h Tryz.func67 c67) (fun h=>leaf h Tryz.func68 c68))) (fun h=>node h (fun h=>node h (fun h=>leaf h Tryz.func72 c72) (fun h=>leaf h Tryz.func73 c73)) (fun h=>node h (fun h=>leaf h Tryz.func74 c74) (fun h=>node h (fun h=>leaf h Tryz.func75 c75) (fun h=>leaf h Tryz.func76 c76))))))) (fun h=>node h (fun h=>node h (fun h=>node h (fun h=>node h (fun h=>node h (fun h=>leaf h Tryz.func77 c77) (fun h=>leaf h Tryz.func78 c78)) (fun h=>node h (fun h=>leaf h Tryz.func79 c79) (fun h=>leaf h Tryz.func90 c90))) (fun h=>node h (fun h=>node h (fun h=>leaf h Tryz.func91 c91) (fun h=>leaf h Tryz.func92 c92)) (fun h=>node h (fun h=>leaf h Tryz.func93 c93) (fun h=>leaf h Tryz.func94 c94)))) (fun h=>node h (fun h=>node h (fun h=>node h (fun h=>leaf h Tryz.func111 aS2) (fun h=>leaf h Tryz.func117 aRS)) (fun h=>node h (fun h=>leaf h Tryz.func118 aTY) (fun h=>leaf h Tryz.func170 aR3))) (fun h=>node h (fun h=>node h (fun h=>leaf h Tryz.func171 aR9) (fun h=>leaf h Tryz.func172 aTA)) (fun h=>node h (fun h=>leaf h Tryz.func181 aS1) (fun h=>node h (fun h=>leaf h Tryz.func182 aSM) (fun h=>leaf h Tryz.func183 aUD)))))) (fun h=>node h (fun h=>node h (fun h=>node h (fun h=>node h (fun h=>leaf h Tryz.func184 aRL) (fun h=>leaf h Tryz.func185 aQ3)) (fun h=>node h (fun h=>leaf h Tryz.func186 aTV) (fun h=>leaf h Tryz.func187 aRH))) (fun h=>node h (fun h=>node h (fun h=>leaf h Tryz.func188 aRZ) (fun h=>leaf h Tryz.func189 aUA)) (fun h=>node h (fun h=>leaf h Tryz.func190 aSB) (fun h=>leaf h Tryz.func191 aS6)))) (fun h=>node h (fun h=>node h (fun h=>node h (fun h=>leaf h Tryz.func192 aS3) (fun h=>leaf h Tryz.func193 aRG)) (fun h=>node h (fun h=>leaf h Tryz.func194 aSH) (fun h=>leaf h Tryz.func204 aRQ))) (fun h=>node h (fun h=>node h (fun h=>leaf h Tryz.func220 aRP) (fun h=>leaf h Tryz.func221 aQV)) (fun h=>node h (fun h=>leaf h Tryz.func222 aSG) (fun h=>node h (fun h=>leaf h Tryz.func223 aSZ) (fun h=>leaf h Tryz.func224 aTL)))))))) (fun h=>node h (fun h=>node h (fun h=>node h (fun h=>node h (fun h=>node h (fun h=>node h (fun h=>leaf h Tryz.func232 aTU) (fun h=>leaf h Tryz.func233 aQ2)) (fun h=>node h (fun h=>leaf h Tryz.func234 aSX) (fun h=>leaf h Tryz.func244 aR7))) (fun h=>node h (fun h=>node h (fun h=>leaf h Tryz.func254 aQW) (fun h=>leaf h Tryz.func257 aTE)) (fun h=>node h (fun h=>leaf h Tryz.func309 aS7) (fun h=>leaf h Tryz.func310 aSC)))) (fun h=>node h (fun h=>node h (fun h=>node h (fun h=>leaf h Tryz.func316 aQ9) (fun h=>leaf h Tryz.func317 aUE)) (fun h=>node h (fun h=>leaf h Tryz.func318 aSN) (fun h=>leaf h Tryz.func319 aQ8))) (fun h=>node h (fun h=>node h (fun h=>leaf h Tryz.func320 aTH) (fun h=>leaf h Tryz.func321 aT8)) (fun h=>node h (fun h=>leaf h Tryz.func322 aTQ) (fun h=>leaf h Tryz.func323 aSP))))) (fun h=>node h (fun h=>node h (fun h=>node h (fun h=>node h (fun h=>leaf h Tryz.func324 aR1) (fun h=>leaf h Tryz.func325 aTK)) (fun h=>node h (fun h=>leaf h Tryz.func326 aTP) (fun h=>leaf h Tryz.func327 aUB))) (fun h=>node h (fun h=>node h (fun h=>leaf h Tryz.func331 aR0) (fun h=>leaf h Tryz.func344 aSK)) (fun h=>node h (fun h=>leaf h Tryz.func345 aSU) (fun h=>leaf h Tryz.func346 aS9)))) (fun h=>node h (fun h=>node h (fun h=>node h (fun h=>leaf h Tryz.func347 aTS) (fun h=>leaf h Tryz.func348 aT5)) (fun h=>node h (fun h=>leaf h Tryz.func349 aSQ) (fun h=>leaf h Tryz.func350 aS8))) (fun h=>node h (fun h=>node h (fun h=>leaf h Tryz.func351 aRF) (fun h=>leaf h Tryz.func352 aT2)) (fun h=>node h (fun h=>leaf h Tryz.func353 aSD) (fun h=>node h (fun h=>leaf h Tryz.func354 aQ0) (fun h=>leaf h Tryz.func356 aSV))))))) (fun h=>node h (fun h=>node h (fun h=>node h (fun h=>node h (fun h=>node h (fun h=>leaf h Tryz.func369 aRA) (fun h=>leaf h Tryz.func378 aRI)) (fun h=>node h (fun h=>leaf h Tryz.func386 aTW) (fun h=>leaf h Tryz.func415 aTT))) (fun h=>node h (fun h=>node h (fun h=>leaf h Tryz.func420 aR2) (fun h=>leaf h Tryz.func421 aTF)) (fun h=>node h (fun h=>leaf h Tryz.func422 aRC) (fun h=>leaf h Tryz.func423 aTN)))) (fun h=>node h (fun h=>node h (fun h=>node h (fun h=>leaf h Tryz.func424 aTX) (fun h=>leaf h Tryz.func425 aRO)) (fun h=>node h (fun h=>leaf h Tryz.func426 aRX) (fun h=>leaf h Tryz.func427 aQ6))) (fun h=>node h (fun h=>node h (fun h=>leaf h Tryz.func428 aR5) (fun h=>leaf h Tryz.func429 aT3)) (fun h=>node h (fun h=>leaf h Tryz.func430 aTB) (fun h=>node h (fun h=>leaf h Tryz.func431 aSW) (fun h=>leaf h Tryz.func432 aTO)))))) (fun h=>node h (fun h=>node h (fun h=>node h (fun h=>node h (fun h=>leaf h Tryz.func433 aQ5) (fun h=>leaf h Tryz.func434 aR8)) (fun h=>node h (fun h=>leaf h Tryz.func435 aRU) (fun h=>leaf h Tryz.func436 aRT))) (fun h=>node h (fun h=>node h (fun h=>leaf h Tryz.func443 aSI) (fun h=>leaf h Tryz.func444 aSJ)) (fun h=>node h (fun h=>leaf h Tryz.func445 aSR) (fun h=>leaf h Tryz.func466 aTR)))) (fun h=>node h (fun h=>node h (fun h=>node h (fun h=>leaf h Tryz.func467 aT7) (fun h=>leaf h Tryz.func468 aRB)) (fun h=>node h (fun h=>leaf h Tryz.func482 aRM) (fun h=>leaf h Tryz.func483 aRJ))) (fun h=>node h (fun h=>node h (fun h=>leaf h Tryz.func484 aT9) (fun h=>leaf h Tryz.func485 aT4)) (fun h=>node h (fun h=>leaf h Tryz.func486 aRR) (fun h=>node h (fun h=>leaf h Tryz.func487 aR4) (fun h=>leaf h Tryz.func488 aTJ))))))))
theorem own:ownKnob Tryz.prog.godebug=none:=by kernel_rfl
theorem laidOut:laidOutB Tryz.prog=true:=by kernel_rfl
end Go.Proofs.YtckllniniolhcaaGreat
namespace Go.Proofs.YtckllniniolhcaaGreat
open Go.Am Go.Am.Room
theorem tys:Fa.TysP Tryz.prog:=⟨Tryz.underlying3,Tryz.underlying5,Tryz.underlying9,Tryz.underlying22,⟨_,Tryz.underlying24,rfl⟩,Tryz.underlying25,Tryz.underlying26,⟨_,Tryz.underlying28,rfl⟩,Tryz.underlying30,Tryz.underlying34,⟨_,Tryz.underlying71,rfl⟩,Tryz.underlying124,Tryz.underlying125,Tryz.underlying126,⟨_,Tryz.underlying128,rfl⟩,⟨_,Tryz.underlying175,rfl⟩,⟨_,Tryz.underlying301,rfl⟩,⟨_,Tryz.underlying303,rfl⟩,⟨_,Tryz.underlying306,rfl⟩⟩
end Go.Proofs.YtckllniniolhcaaGreat
