/- A part of the proof of TopRipening: an abstract machine, or what functions come to on it. -/
import Derived.Test.YtckllniniolhcaaGreatTopRipeningQ5
import Derived.Test.YtckllniniolhcaaGreatRows
import Derived.WalkKit
import Derived.ProofKit
import Derived.OpenShut
import Derived.ChangeOld
import Derived.Below
import Derived.Carry
set_option linter.unusedVariables false
set_option linter.unusedSimpArgs false
set_option linter.defProp false
namespace Go.Proofs.YtckllniniolhcaaGreat
open Go.Am Go.Am.Room
def hh (s:String):Bool:=false
theorem leaf {f k:Nat} {a af:AFunc} (h:cond (Nat.beq f k) (some a) none=some af) {fn:Func} (h1:Tryz.prog.funcs[k]? = some fn) (h2:aD Tryz.prog hh fn=some a):∃ fn,Tryz.prog.funcs[f]? = some fn∧aD Tryz.prog hh fn=some af:=by
 cases hb:Nat.beq f k with
 |false=>rw [hb] at h;cases h
 |true =>
  rw [hb] at h
  have hf:f=k:=Nat.eq_of_beq_eq_true hb
  simp only [cond_true,Option.some.injEq] at h
  subst h
  subst hf
  exact ⟨fn,h1,h2⟩
theorem node {b:Bool} {x y:Option AFunc} {af:AFunc} {Q:Prop} (h:cond b x y=some af) (h1:x=some af→Q) (h2:y=some af→Q):Q:=by
 cases b
 ·exact h2 h
 ·exact h1 h
theorem c2:aD Tryz.prog hh Tryz.f2=some Go.Am.Room.a2:=by kernel_rfl
theorem c3:aD Tryz.prog hh Tryz.f3=some Go.Am.Room.a3:=by kernel_rfl
theorem c4:aD Tryz.prog hh Tryz.f4=some Go.Am.Room.a4:=by kernel_rfl
theorem c5:aD Tryz.prog hh Tryz.f5=some Go.Am.Room.a5:=by kernel_rfl
theorem c6:aD Tryz.prog hh Tryz.f6=some Go.Am.Room.a6:=by kernel_rfl
theorem c7:aD Tryz.prog hh Tryz.f7=some Go.Am.Room.a7:=by kernel_rfl
theorem c10:aD Tryz.prog hh Tryz.f10=some Go.Am.Room.a10:=by kernel_rfl
theorem c11:aD Tryz.prog hh Tryz.f11=some Go.Am.Room.a11:=by kernel_rfl
theorem c12:aD Tryz.prog hh Tryz.f12=some Go.Am.Room.a12:=by kernel_rfl
theorem c13:aD Tryz.prog hh Tryz.f13=some Go.Am.Room.a13:=by kernel_rfl
theorem c14:aD Tryz.prog hh Tryz.f14=some Go.Am.Room.a14:=by kernel_rfl
theorem c15:aD Tryz.prog hh Tryz.f15=some Go.Am.Room.a15:=by kernel_rfl
theorem c16:aD Tryz.prog hh Tryz.f16=some Go.Am.Room.a16:=by kernel_rfl
theorem c17:aD Tryz.prog hh Tryz.f17=some Go.Am.Room.a17:=by kernel_rfl
theorem c18:aD Tryz.prog hh Tryz.f18=some Go.Am.Room.a18:=by kernel_rfl
theorem c19:aD Tryz.prog hh Tryz.f19=some Go.Am.Room.a19:=by kernel_rfl
theorem c20:aD Tryz.prog hh Tryz.f20=some Go.Am.Room.a20:=by kernel_rfl
theorem c21:aD Tryz.prog hh Tryz.f21=some Go.Am.Room.a21:=by kernel_rfl
theorem c26:aD Tryz.prog hh Tryz.f26=some Go.Am.Room.a26:=by kernel_rfl
theorem c29:aD Tryz.prog hh Tryz.f29=some Go.Am.Room.a29:=by kernel_rfl
theorem c44:aD Tryz.prog hh Tryz.f44=some Go.Am.Room.a44:=by kernel_rfl
theorem c59:aD Tryz.prog hh Tryz.f59=some Go.Am.Room.a59:=by kernel_rfl
theorem c64:aD Tryz.prog hh Tryz.f64=some Go.Am.Room.a64:=by kernel_rfl
theorem c67:aD Tryz.prog hh Tryz.f67=some Go.Am.Room.a67:=by kernel_rfl
theorem c68:aD Tryz.prog hh Tryz.f68=some Go.Am.Room.a68:=by kernel_rfl
theorem c69:aD Tryz.prog hh Tryz.f69=some Go.Am.Room.a69:=by kernel_rfl
theorem c70:aD Tryz.prog hh Tryz.f70=some Go.Am.Room.a70:=by kernel_rfl
theorem c71:aD Tryz.prog hh Tryz.f71=some Go.Am.Room.a71:=by kernel_rfl
theorem c72:aD Tryz.prog hh Tryz.f72=some Go.Am.Room.a72:=by kernel_rfl
theorem c73:aD Tryz.prog hh Tryz.f73=some Go.Am.Room.a73:=by kernel_rfl
theorem c74:aD Tryz.prog hh Tryz.f74=some Go.Am.Room.a74:=by kernel_rfl
theorem c75:aD Tryz.prog hh Tryz.f75=some Go.Am.Room.a75:=by kernel_rfl
theorem c76:aD Tryz.prog hh Tryz.f76=some Go.Am.Room.a76:=by kernel_rfl
theorem c77:aD Tryz.prog hh Tryz.f77=some Go.Am.Room.a77:=by kernel_rfl
theorem c78:aD Tryz.prog hh Tryz.f78=some Go.Am.Room.a78:=by kernel_rfl
theorem c79:aD Tryz.prog hh Tryz.f79=some Go.Am.Room.a79:=by kernel_rfl
theorem c80:aD Tryz.prog hh Tryz.f80=some Go.Am.Room.a80:=by kernel_rfl
theorem c81:aD Tryz.prog hh Tryz.f81=some Go.Am.Room.a81:=by kernel_rfl
theorem c82:aD Tryz.prog hh Tryz.f82=some Go.Am.Room.a82:=by kernel_rfl
theorem c83:aD Tryz.prog hh Tryz.f83=some Go.Am.Room.a83:=by kernel_rfl
theorem c84:aD Tryz.prog hh Tryz.f84=some Go.Am.Room.a84:=by kernel_rfl
theorem c85:aD Tryz.prog hh Tryz.f85=some Go.Am.Room.a85:=by kernel_rfl
theorem c86:aD Tryz.prog hh Tryz.f86=some Go.Am.Room.a86:=by kernel_rfl
theorem c87:aD Tryz.prog hh Tryz.f87=some Go.Am.Room.a87:=by kernel_rfl
theorem c88:aD Tryz.prog hh Tryz.f88=some Go.Am.Room.a88:=by kernel_rfl
theorem c89:aD Tryz.prog hh Tryz.f89=some Go.Am.Room.a89:=by kernel_rfl
theorem c90:aD Tryz.prog hh Tryz.f90=some Go.Am.Room.a90:=by kernel_rfl
theorem c91:aD Tryz.prog hh Tryz.f91=some Go.Am.Room.a91:=by kernel_rfl
theorem c92:aD Tryz.prog hh Tryz.f92=some Go.Am.Room.a92:=by kernel_rfl
theorem c93:aD Tryz.prog hh Tryz.f93=some Go.Am.Room.a93:=by kernel_rfl
theorem c94:aD Tryz.prog hh Tryz.f94=some Go.Am.Room.a94:=by kernel_rfl
theorem c95:aD Tryz.prog hh Tryz.f95=some Go.Am.Room.a95:=by kernel_rfl
theorem c96:aD Tryz.prog hh Tryz.f96=some Go.Am.Room.a96:=by kernel_rfl
theorem c97:aD Tryz.prog hh Tryz.f97=some Go.Am.Room.a97:=by kernel_rfl
theorem c98:aD Tryz.prog hh Tryz.f98=some Go.Am.Room.a98:=by kernel_rfl
theorem c99:aD Tryz.prog hh Tryz.f99=some Go.Am.Room.a99:=by kernel_rfl
theorem aJD:aD Tryz.prog hh Tryz.f111=some Go.Am.Room.a111:=by kernel_rfl
theorem aIJ:aD Tryz.prog hh Tryz.f117=some Go.Am.Room.a117:=by kernel_rfl
theorem aJA:aD Tryz.prog hh Tryz.f118=some Go.Am.Room.a118:=by kernel_rfl
theorem aJR:aD Tryz.prog hh Tryz.f170=some Go.Am.Room.a170:=by kernel_rfl
theorem aH5:aD Tryz.prog hh Tryz.f204=some Go.Am.Room.a204:=by kernel_rfl
theorem aJH:aD Tryz.prog hh Tryz.f220=some Go.Am.Room.a220:=by kernel_rfl
theorem aJW:aD Tryz.prog hh Tryz.f221=some Go.Am.Room.a221:=by kernel_rfl
theorem aI6:aD Tryz.prog hh Tryz.f222=some Go.Am.Room.a222:=by kernel_rfl
theorem aJE:aD Tryz.prog hh Tryz.f223=some Go.Am.Room.a223:=by kernel_rfl
theorem aIW:aD Tryz.prog hh Tryz.f224=some Go.Am.Room.a224:=by kernel_rfl
theorem aIC:aD Tryz.prog hh Tryz.f225=some Go.Am.Room.a225:=by kernel_rfl
theorem aJX:aD Tryz.prog hh Tryz.f226=some Go.Am.Room.a226:=by kernel_rfl
theorem aHO:aD Tryz.prog hh Tryz.f227=some Go.Am.Room.a227:=by kernel_rfl
theorem aJ3:aD Tryz.prog hh Tryz.f228=some Go.Am.Room.a228:=by kernel_rfl
theorem aJ2:aD Tryz.prog hh Tryz.f229=some Go.Am.Room.a229:=by kernel_rfl
theorem aIV:aD Tryz.prog hh Tryz.f230=some Go.Am.Room.a230:=by kernel_rfl
theorem aJU:aD Tryz.prog hh Tryz.f231=some Go.Am.Room.a231:=by kernel_rfl
theorem aHN:aD Tryz.prog hh Tryz.f232=some Go.Am.Room.a232:=by kernel_rfl
theorem aJT:aD Tryz.prog hh Tryz.f233=some Go.Am.Room.a233:=by kernel_rfl
theorem aIX:aD Tryz.prog hh Tryz.f234=some Go.Am.Room.a234:=by kernel_rfl
theorem aI3:aD Tryz.prog hh Tryz.f235=some Go.Am.Room.a235:=by kernel_rfl
theorem aIO:aD Tryz.prog hh Tryz.f236=some Go.Am.Room.a236:=by kernel_rfl
theorem aI5:aD Tryz.prog hh Tryz.f237=some Go.Am.Room.a237:=by kernel_rfl
theorem aIT:aD Tryz.prog hh Tryz.f238=some Go.Am.Room.a238:=by kernel_rfl
theorem aJY:aD Tryz.prog hh Tryz.f244=some Go.Am.Room.a244:=by kernel_rfl
theorem aJF:aD Tryz.prog hh Tryz.f254=some Go.Am.Room.a254:=by kernel_rfl
theorem aIA:aD Tryz.prog hh Tryz.f257=some Go.Am.Room.a257:=by kernel_rfl
theorem aIZ:aD Tryz.prog hh Tryz.f331=some Go.Am.Room.a331:=by kernel_rfl
theorem aIP:aD Tryz.prog hh Tryz.f344=some Go.Am.Room.a344:=by kernel_rfl
theorem aJ9:aD Tryz.prog hh Tryz.f345=some Go.Am.Room.a345:=by kernel_rfl
theorem aIE:aD Tryz.prog hh Tryz.f346=some Go.Am.Room.a346:=by kernel_rfl
theorem aJC:aD Tryz.prog hh Tryz.f347=some Go.Am.Room.a347:=by kernel_rfl
theorem aHY:aD Tryz.prog hh Tryz.f348=some Go.Am.Room.a348:=by kernel_rfl
theorem aJP:aD Tryz.prog hh Tryz.f349=some Go.Am.Room.a349:=by kernel_rfl
theorem aII:aD Tryz.prog hh Tryz.f350=some Go.Am.Room.a350:=by kernel_rfl
theorem aH3:aD Tryz.prog hh Tryz.f351=some Go.Am.Room.a351:=by kernel_rfl
theorem aH0:aD Tryz.prog hh Tryz.f352=some Go.Am.Room.a352:=by kernel_rfl
theorem aI9:aD Tryz.prog hh Tryz.f353=some Go.Am.Room.a353:=by kernel_rfl
theorem aH7:aD Tryz.prog hh Tryz.f354=some Go.Am.Room.a354:=by kernel_rfl
theorem aJ1:aD Tryz.prog hh Tryz.f355=some Go.Am.Room.a355:=by kernel_rfl
theorem aJJ:aD Tryz.prog hh Tryz.f356=some Go.Am.Room.a356:=by kernel_rfl
theorem aH1:aD Tryz.prog hh Tryz.f357=some Go.Am.Room.a357:=by kernel_rfl
theorem aIM:aD Tryz.prog hh Tryz.f358=some Go.Am.Room.a358:=by kernel_rfl
theorem aIR:aD Tryz.prog hh Tryz.f359=some Go.Am.Room.a359:=by kernel_rfl
theorem aIF:aD Tryz.prog hh Tryz.f360=some Go.Am.Room.a360:=by kernel_rfl
theorem aHL:aD Tryz.prog hh Tryz.f361=some Go.Am.Room.a361:=by kernel_rfl
theorem aJ4:aD Tryz.prog hh Tryz.f362=some Go.Am.Room.a362:=by kernel_rfl
theorem aHT:aD Tryz.prog hh Tryz.f363=some Go.Am.Room.a363:=by kernel_rfl
theorem aID:aD Tryz.prog hh Tryz.f364=some Go.Am.Room.a364:=by kernel_rfl
theorem aIK:aD Tryz.prog hh Tryz.f365=some Go.Am.Room.a365:=by kernel_rfl
theorem aIG:aD Tryz.prog hh Tryz.f366=some Go.Am.Room.a366:=by kernel_rfl
theorem aI4:aD Tryz.prog hh Tryz.f367=some Go.Am.Room.a367:=by kernel_rfl
theorem aJ5:aD Tryz.prog hh Tryz.f368=some Go.Am.Room.a368:=by kernel_rfl
theorem aHM:aD Tryz.prog hh Tryz.f369=some Go.Am.Room.a369:=by kernel_rfl
theorem aHW:aD Tryz.prog hh Tryz.f370=some Go.Am.Room.a370:=by kernel_rfl
theorem aHK:aD Tryz.prog hh Tryz.f371=some Go.Am.Room.a371:=by kernel_rfl
theorem aI7:aD Tryz.prog hh Tryz.f372=some Go.Am.Room.a372:=by kernel_rfl
theorem aHR:aD Tryz.prog hh Tryz.f378=some Go.Am.Room.a378:=by kernel_rfl
theorem aJL:aD Tryz.prog hh Tryz.f386=some Go.Am.Room.a386:=by kernel_rfl
theorem aIN:aD Tryz.prog hh Tryz.f443=some Go.Am.Room.a443:=by kernel_rfl
theorem aIU:aD Tryz.prog hh Tryz.f444=some Go.Am.Room.a444:=by kernel_rfl
theorem aH2:aD Tryz.prog hh Tryz.f445=some Go.Am.Room.a445:=by kernel_rfl
theorem aH9:aD Tryz.prog hh Tryz.f466=some Go.Am.Room.a466:=by kernel_rfl
theorem aH6:aD Tryz.prog hh Tryz.f467=some Go.Am.Room.a467:=by kernel_rfl
theorem aIQ:aD Tryz.prog hh Tryz.f468=some Go.Am.Room.a468:=by kernel_rfl
theorem aJB:aD Tryz.prog hh Tryz.f469=some Go.Am.Room.a469:=by kernel_rfl
theorem aHH:aD Tryz.prog hh Tryz.f470=some Go.Am.Room.a470:=by kernel_rfl
theorem aKA:aD Tryz.prog hh Tryz.f471=some Go.Am.Room.a471:=by kernel_rfl
theorem hT (f:FuncId) (af:AFunc) (h:Go.Am.Room.T f=some af):∃ fn,Tryz.prog.funcs[f]? = some fn∧aD Tryz.prog hh fn=some af:=node h (fun h=>node h (fun h=>node h (fun h=>node h (fun h=>node h (fun h=>node h (fun h=>leaf h Tryz.func2 c2) (fun h=>node h (fun h=>leaf h Tryz.func3 c3) (fun h=>leaf h Tryz.func4 c4))) (fun h=>node h (fun h=>node h (fun h=>leaf h Tryz.func5 c5) (fun h=>leaf h Tryz.func6 c6)) (fun h=>node h (fun h=>leaf h Tryz.func7 c7) (fun h=>leaf h Tryz.func10 c10)))) (fun h=>node h (fun h=>node h (fun h=>node h (fun h=>leaf h Tryz.func11 c11) (fun h=>leaf h Tryz.func12 c12)) (fun h=>node h (fun h=>leaf h Tryz.func13 c13) (fun h=>leaf h Tryz.func14 c14))) (fun h=>node h (fun h=>node h (fun h=>leaf h Tryz.func15 c15) (fun h=>leaf h Tryz.func16 c16)) (fun h=>node h (fun h=>leaf h Tryz.func17 c17) (fun h=>leaf h Tryz.func18 c18))))) (fun h=>node h (fun h=>node h (fun h=>node h (fun h=>node h (fun h=>leaf h Tryz.func19 c19) (fun h=>leaf h Tryz.func20 c20)) (fun h=>node h (fun h=>leaf h Tryz.func21 c21) (fun h=>leaf h Tryz.func26 c26))) (fun h=>node h (fun h=>node h (fun h=>leaf h Tryz.func29 c29) (fun h=>leaf h Tryz.func44 c44)) (fun h=>node h (fun h=>leaf h Tryz.func59 c59) (fun h=>leaf h Tryz.func64 c64)))) (fun h=>node h (fun h=>node h (fun h=>node h (fun h=>leaf h Tryz.func67 c67) (fun h=>leaf h Tryz.func68 c68)) (fun h=>node h (fun h=>leaf h Tryz.func69 c69) (fun h=>leaf h Tryz.func70 c70))) (fun h=>node h (fun h=>node h (fun h=>leaf h Tryz.func71 c71) (fun h=>leaf h Tryz.func72 c72)) (fun h=>node h (fun h=>leaf h Tryz.func73 c73) (fun h=>leaf h Tryz.func74 c74)))))) (fun h=>node h (fun h=>node h (fun h=>node h (fun h=>node h (fun h=>leaf h Tryz.func75 c75) (fun h=>node h (fun h=>leaf h Tryz.func76 c76) (fun h=>leaf h Tryz.func77 c77))) (fun h=>node h (fun h=>node h (fun h=>leaf h Tryz.func78 c78) (fun h=>leaf h Tryz.func79 c79)) (fun h=>node h (fun h=>leaf h Tryz.func80 c80) (fun h=>leaf h Tryz.func81 c81)))) (fun h=>node h (fun h=>node h (fun h=>node h (fun h=>leaf h Tryz.func82 c82) (fun h=>leaf h Tryz.func83 c83)) (fun h=>node h (fun h=>leaf h Tryz.func84 c84) (fun h=>leaf h Tryz.func85 c85))) (fun h=>node h (fun h=>node h (fun h=>leaf h Tryz.func86 c86) (fun h=>leaf h Tryz.func87 c87)) (fun h=>node h (fun h=>leaf h Tryz.func88 c88) (fun h=>leaf h Tryz.func89 c89))))) (fun h=>node h (fun h=>node h (fun h=>node h (fun h=>node h (fun h=>leaf h Tryz.func90 c90) (fun h=>leaf h Tryz.func91 c91)) (fun h=>node h (fun h=>leaf h Tryz.func92 c92) (fun h=>leaf h Tryz.func93 c93))) (fun h=>node h (fun h=>node h (fun h=>leaf h Tryz.func94 c94) (fun h=>leaf h Tryz.func95 c95)) (fun h=>node h (fun h=>leaf h Tryz.func96 c96) (fun h=>leaf h Tryz.func97 c97)))) (fun h=>node h (fun h=>node h (fun h=>node h (fun h=>leaf h Tryz.func98 c98) (fun h=>leaf h Tryz.func99 c99)) (fun h=>node h (fun h=>leaf h Tryz.func111 aJD) (fun h=>leaf h Tryz.func117 aIJ))) (fun h=>node h (fun h=>node h (fun h=>leaf h Tryz.func118 aJA) (fun h=>leaf h Tryz.func170 aJR)) (fun h=>node h (fun h=>leaf h Tryz.func204 aH5) (fun h=>leaf h Tryz.func220 aJH))))))) (fun h=>node h (fun h=>node h (fun h=>node h (fun h=>node h (fun h=>node h (fun h=>leaf h Tryz.func221 aJW) (fun h=>node h (fun h=>leaf h Tryz.func222 aI6) (fun h=>leaf h Tryz.func223 aJE))) (fun h=>node h (fun h=>node h (fun h=>leaf h Tryz.func224 aIW) (fun h=>leaf h Tryz.func225 aIC)) (fun h=>node h (fun h=>leaf h Tryz.func226 aJX) (fun h=>leaf h Tryz.func227 aHO)))) (fun h=>node h (fun h=>node h (fun h=>node h (fun h=>leaf h Tryz.func228 aJ3) (fun h=>leaf h Tryz.func229 aJ2)) (fun h=>node h (fun h=>leaf h Tryz.func230 aIV) (fun h=>leaf h Tryz.func231 aJU))) (fun h=>node h (fun h=>node h (fun h=>leaf h Tryz.func232 aHN) (fun h=>leaf h Tryz.func233 aJT)) (fun h=>node h (fun h=>leaf h Tryz.func234 aIX) (fun h=>leaf h Tryz.func235 aI3))))) (fun h=>node h (fun h=>node h (fun h=>node h (fun h=>node h (fun h=>leaf h Tryz.func236 aIO) (fun h=>leaf h Tryz.func237 aI5)) (fun h=>node h (fun h=>leaf h Tryz.func238 aIT) (fun h=>leaf h Tryz.func244 aJY))) (fun h=>node h (fun h=>node h (fun h=>leaf h Tryz.func254 aJF) (fun h=>leaf h Tryz.func257 aIA)) (fun h=>node h (fun h=>leaf h Tryz.func331 aIZ) (fun h=>leaf h Tryz.func344 aIP)))) (fun h=>node h (fun h=>node h (fun h=>node h (fun h=>leaf h Tryz.func345 aJ9) (fun h=>leaf h Tryz.func346 aIE)) (fun h=>node h (fun h=>leaf h Tryz.func347 aJC) (fun h=>leaf h Tryz.func348 aHY))) (fun h=>node h (fun h=>node h (fun h=>leaf h Tryz.func349 aJP) (fun h=>leaf h Tryz.func350 aII)) (fun h=>node h (fun h=>leaf h Tryz.func351 aH3) (fun h=>leaf h Tryz.func352 aH0)))))) (fun h=>node h (fun h=>node h (fun h=>node h (fun h=>node h (fun h=>leaf h Tryz.func353 aI9) (fun h=>node h (fun h=>leaf h Tryz.func354 aH7) (fun h=>leaf h Tryz.func355 aJ1))) (fun h=>node h (fun h=>node h (fun h=>leaf h Tryz.func356 aJJ) (fun h=>leaf h Tryz.func357 aH1)) (fun h=>node h (fun h=>leaf h Tryz.func358 aIM) (fun h=>leaf h Tryz.func359 aIR)))) (fun h=>node h (fun h=>node h (fun h=>node h (fun h=>leaf h Tryz.func360 aIF) (fun h=>leaf h Tryz.func361 aHL)) (fun h=>node h (fun h=>leaf h Tryz.func362 aJ4) (fun h=>leaf h Tryz.func363 aHT))) (fun h=>node h (fun h=>node h (fun h=>leaf h Tryz.func364 aID) (fun h=>leaf h Tryz.func365 aIK)) (fun h=>node h (fun h=>leaf h Tryz.func366 aIG) (fun h=>leaf h Tryz.func367 aI4))))) (fun h=>node h (fun h=>node h (fun h=>node h (fun h=>node h (fun h=>leaf h Tryz.func368 aJ5) (fun h=>leaf h Tryz.func369 aHM)) (fun h=>node h (fun h=>leaf h Tryz.func370 aHW) (fun h=>leaf h Tryz.func371 aHK))) (fun h=>node h (fun h=>node h (fun h=>leaf h Tryz.func372 aI7) (fun h=>leaf h Tryz.func378 aHR)) (fun h=>node h (fun h=>leaf h Tryz.func386 aJL) (fun h=>leaf h Tryz.func443 aIN)))) (fun h=>node h (fun h=>node h (fun h=>node h (fun h=>leaf h Tryz.func444 aIU) (fun h=>leaf h Tryz.func445 aH2)) (fun h=>node h (fun h=>leaf h Tryz.func466 aH9) (fun h=>leaf h Tryz.func467 aH6))) (fun h=>node h (fun h=>node h (fun h=>leaf h Tryz.func468 aIQ) (fun h=>leaf h Tryz.func469 aJB)) (fun h=>node h (fun h=>leaf h Tryz.func470 aHH) (fun h=>leaf h Tryz.func471 aKA)))))))
theorem own:ownKnob Tryz.prog.godebug=none:=by kernel_rfl
theorem laidOut:laidOutB Tryz.prog=true:=by kernel_rfl
end Go.Proofs.YtckllniniolhcaaGreat
namespace Go.Proofs.YtckllniniolhcaaGreat
open Go.Am Go.Am.Room
theorem tys:Fa.TysR Tryz.prog:=⟨Tryz.underlying3,Tryz.underlying5,Tryz.underlying9,Tryz.underlying22,⟨_,Tryz.underlying24,rfl⟩,Tryz.underlying25,Tryz.underlying26,⟨_,Tryz.underlying28,rfl⟩,Tryz.underlying29,Tryz.underlying30,Tryz.underlying31,⟨_,Tryz.underlying33,rfl⟩,Tryz.underlying34,⟨_,Tryz.underlying36,rfl⟩,⟨_,Tryz.underlying56,rfl⟩,⟨_,Tryz.underlying71,rfl⟩,⟨_,Tryz.underlying175,rfl⟩,⟨_,Tryz.underlying178,rfl⟩⟩
end Go.Proofs.YtckllniniolhcaaGreat
