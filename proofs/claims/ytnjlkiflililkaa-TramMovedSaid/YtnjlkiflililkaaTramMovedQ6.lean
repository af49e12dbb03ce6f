/- A part of the proof of TramMoved: an abstract machine, or what functions come to on it. -/
import Derived.Test.YtnjlkiflililkaaTramMovedQ5
import Derived.Test.YtnjlkiflililkaaRows
import Derived.WalkKit
import Derived.ProofKit
import Derived.OpenShut
import Derived.ChangeOld
import Derived.Below
import Derived.Carry
set_option linter.unusedVariables false
set_option linter.unusedSimpArgs false
set_option linter.defProp false
namespace Go.Proofs.Ytnjlkiflililkaa
open Go.Am Go.Am.Room
def hh (s:String):Bool:=s== "law.go".push (Char.ofNat 58)++ "16"||s== "outright.go".push (Char.ofNat 58)++ "33"||s== "outright.go".push (Char.ofNat 58)++ "296"
theorem leaf {f k:Nat} {a af:AFunc} (h:cond (Nat.beq f k) (some a) none=some af) {fn:Func} (h1:Try.prog.funcs[k]? = some fn) (h2:aD Try.prog hh fn=some a):∃ fn,Try.prog.funcs[f]? = some fn∧aD Try.prog hh fn=some af:=by
 cases hb:Nat.beq f k with
 |false=>rw [hb] at h;cases h
 |true =>
  rw [hb] at h
  have hf:f=k:=Nat.eq_of_beq_eq_true hb
  simp only [cond_true,Option.some.injEq] at h
  subst h
  subst hf
  exact ⟨fn,h1,h2⟩
theorem node {b:Bool} {x y:Option AFunc} {af:AFunc} {Q:Prop} (h:cond b x y=some af) (h1:x=some af→Q) (h2:y=some af→Q):Q:=by
 cases b
 ·exact h2 h
 ·exact h1 h
theorem c2:aD Try.prog hh Try.f2=some Go.Am.Room.a2:=by kernel_rfl
theorem c3:aD Try.prog hh Try.f3=some Go.Am.Room.a3:=by kernel_rfl
theorem c4:aD Try.prog hh Try.f4=some Go.Am.Room.a4:=by kernel_rfl
theorem c5:aD Try.prog hh Try.f5=some Go.Am.Room.a5:=by kernel_rfl
theorem c6:aD Try.prog hh Try.f6=some Go.Am.Room.a6:=by kernel_rfl
theorem c7:aD Try.prog hh Try.f7=some Go.Am.Room.a7:=by kernel_rfl
theorem c8:aD Try.prog hh Try.f8=some Go.Am.Room.a8:=by kernel_rfl
theorem c10:aD Try.prog hh Try.f10=some Go.Am.Room.a10:=by kernel_rfl
theorem c17:aD Try.prog hh Try.f17=some Go.Am.Room.a17:=by kernel_rfl
theorem c18:aD Try.prog hh Try.f18=some Go.Am.Room.a18:=by kernel_rfl
theorem c19:aD Try.prog hh Try.f19=some Go.Am.Room.a19:=by kernel_rfl
theorem c21:aD Try.prog hh Try.f21=some Go.Am.Room.a21:=by kernel_rfl
theorem c22:aD Try.prog hh Try.f22=some Go.Am.Room.a22:=by kernel_rfl
theorem c23:aD Try.prog hh Try.f23=some Go.Am.Room.a23:=by kernel_rfl
theorem c25:aD Try.prog hh Try.f25=some Go.Am.Room.a25:=by kernel_rfl
theorem c27:aD Try.prog hh Try.f27=some Go.Am.Room.a27:=by kernel_rfl
theorem c28:aD Try.prog hh Try.f28=some Go.Am.Room.a28:=by kernel_rfl
theorem c30:aD Try.prog hh Try.f30=some Go.Am.Room.a30:=by kernel_rfl
theorem c32:aD Try.prog hh Try.f32=some Go.Am.Room.a32:=by kernel_rfl
theorem c34:aD Try.prog hh Try.f34=some Go.Am.Room.a34:=by kernel_rfl
theorem c36:aD Try.prog hh Try.f36=some Go.Am.Room.a36:=by kernel_rfl
theorem c38:aD Try.prog hh Try.f38=some Go.Am.Room.a38:=by kernel_rfl
theorem c39:aD Try.prog hh Try.f39=some Go.Am.Room.a39:=by kernel_rfl
theorem c40:aD Try.prog hh Try.f40=some Go.Am.Room.a40:=by kernel_rfl
theorem c41:aD Try.prog hh Try.f41=some Go.Am.Room.a41:=by kernel_rfl
theorem c43:aD Try.prog hh Try.f43=some Go.Am.Room.a43:=by kernel_rfl
theorem c44:aD Try.prog hh Try.f44=some Go.Am.Room.a44:=by kernel_rfl
theorem c46:aD Try.prog hh Try.f46=some Go.Am.Room.a46:=by kernel_rfl
theorem c48:aD Try.prog hh Try.f48=some Go.Am.Room.a48:=by kernel_rfl
theorem c49:aD Try.prog hh Try.f49=some Go.Am.Room.a49:=by kernel_rfl
theorem c50:aD Try.prog hh Try.f50=some Go.Am.Room.a50:=by kernel_rfl
theorem c51:aD Try.prog hh Try.f51=some Go.Am.Room.a51:=by kernel_rfl
theorem c52:aD Try.prog hh Try.f52=some Go.Am.Room.a52:=by kernel_rfl
theorem c53:aD Try.prog hh Try.f53=some Go.Am.Room.a53:=by kernel_rfl
theorem c54:aD Try.prog hh Try.f54=some Go.Am.Room.a54:=by kernel_rfl
theorem c55:aD Try.prog hh Try.f55=some Go.Am.Room.a55:=by kernel_rfl
theorem c56:aD Try.prog hh Try.f56=some Go.Am.Room.a56:=by kernel_rfl
theorem c61:aD Try.prog hh Try.f61=some Go.Am.Room.a61:=by kernel_rfl
theorem c62:aD Try.prog hh Try.f62=some Go.Am.Room.a62:=by kernel_rfl
theorem c63:aD Try.prog hh Try.f63=some Go.Am.Room.a63:=by kernel_rfl
theorem c64:aD Try.prog hh Try.f64=some Go.Am.Room.a64:=by kernel_rfl
theorem c65:aD Try.prog hh Try.f65=some Go.Am.Room.a65:=by kernel_rfl
theorem c66:aD Try.prog hh Try.f66=some Go.Am.Room.a66:=by kernel_rfl
theorem c67:aD Try.prog hh Try.f67=some Go.Am.Room.a67:=by kernel_rfl
theorem c68:aD Try.prog hh Try.f68=some Go.Am.Room.a68:=by kernel_rfl
theorem c69:aD Try.prog hh Try.f69=some Go.Am.Room.a69:=by kernel_rfl
theorem c70:aD Try.prog hh Try.f70=some Go.Am.Room.a70:=by kernel_rfl
theorem c71:aD Try.prog hh Try.f71=some Go.Am.Room.a71:=by kernel_rfl
theorem c72:aD Try.prog hh Try.f72=some Go.Am.Room.a72:=by kernel_rfl
theorem c73:aD Try.prog hh Try.f73=some Go.Am.Room.a73:=by kernel_rfl
theorem c74:aD Try.prog hh Try.f74=some Go.Am.Room.a74:=by kernel_rfl
theorem c75:aD Try.prog hh Try.f75=some Go.Am.Room.a75:=by kernel_rfl
theorem c76:aD Try.prog hh Try.f76=some Go.Am.Room.a76:=by kernel_rfl
theorem c77:aD Try.prog hh Try.f77=some Go.Am.Room.a77:=by kernel_rfl
theorem c78:aD Try.prog hh Try.f78=some Go.Am.Room.a78:=by kernel_rfl
theorem c79:aD Try.prog hh Try.f79=some Go.Am.Room.a79:=by kernel_rfl
theorem c80:aD Try.prog hh Try.f80=some Go.Am.Room.a80:=by kernel_rfl
theorem c84:aD Try.prog hh Try.f84=some Go.Am.Room.a84:=by kernel_rfl
theorem c85:aD Try.prog hh Try.f85=some Go.Am.Room.a85:=by kernel_rfl
theorem c86:aD Try.prog hh Try.f86=some Go.Am.Room.a86:=by kernel_rfl
theorem c87:aD Try.prog hh Try.f87=some Go.Am.Room.a87:=by kernel_rfl
theorem c88:aD Try.prog hh Try.f88=some Go.Am.Room.a88:=by kernel_rfl
theorem c91:aD Try.prog hh Try.f91=some Go.Am.Room.a91:=by kernel_rfl
theorem c92:aD Try.prog hh Try.f92=some Go.Am.Room.a92:=by kernel_rfl
theorem c93:aD Try.prog hh Try.f93=some Go.Am.Room.a93:=by kernel_rfl
theorem c95:aD Try.prog hh Try.f95=some Go.Am.Room.a95:=by kernel_rfl
theorem c96:aD Try.prog hh Try.f96=some Go.Am.Room.a96:=by kernel_rfl
theorem c97:aD Try.prog hh Try.f97=some Go.Am.Room.a97:=by kernel_rfl
theorem c98:aD Try.prog hh Try.f98=some Go.Am.Room.a98:=by kernel_rfl
theorem c99:aD Try.prog hh Try.f99=some Go.Am.Room.a99:=by kernel_rfl
theorem aGM:aD Try.prog hh Try.f100=some Go.Am.Room.a100:=by kernel_rfl
theorem aG6:aD Try.prog hh Try.f101=some Go.Am.Room.a101:=by kernel_rfl
theorem aHP:aD Try.prog hh Try.f102=some Go.Am.Room.a102:=by kernel_rfl
theorem aGT:aD Try.prog hh Try.f103=some Go.Am.Room.a103:=by kernel_rfl
theorem aHN:aD Try.prog hh Try.f104=some Go.Am.Room.a104:=by kernel_rfl
theorem aHZ:aD Try.prog hh Try.f105=some Go.Am.Room.a105:=by kernel_rfl
theorem aGS:aD Try.prog hh Try.f106=some Go.Am.Room.a106:=by kernel_rfl
theorem aHQ:aD Try.prog hh Try.f107=some Go.Am.Room.a107:=by kernel_rfl
theorem aG2:aD Try.prog hh Try.f108=some Go.Am.Room.a108:=by kernel_rfl
theorem aHY:aD Try.prog hh Try.f109=some Go.Am.Room.a109:=by kernel_rfl
theorem aHT:aD Try.prog hh Try.f110=some Go.Am.Room.a110:=by kernel_rfl
theorem aHD:aD Try.prog hh Try.f111=some Go.Am.Room.a111:=by kernel_rfl
theorem aHB:aD Try.prog hh Try.f112=some Go.Am.Room.a112:=by kernel_rfl
theorem aHL:aD Try.prog hh Try.f113=some Go.Am.Room.a113:=by kernel_rfl
theorem aG5:aD Try.prog hh Try.f114=some Go.Am.Room.a114:=by kernel_rfl
theorem aGU:aD Try.prog hh Try.f115=some Go.Am.Room.a115:=by kernel_rfl
theorem aGW:aD Try.prog hh Try.f116=some Go.Am.Room.a116:=by kernel_rfl
theorem aGR:aD Try.prog hh Try.f117=some Go.Am.Room.a117:=by kernel_rfl
theorem aGX:aD Try.prog hh Try.f118=some Go.Am.Room.a118:=by kernel_rfl
theorem aHU:aD Try.prog hh Try.f119=some Go.Am.Room.a119:=by kernel_rfl
theorem aHG:aD Try.prog hh Try.f120=some Go.Am.Room.a120:=by kernel_rfl
theorem aHC:aD Try.prog hh Try.f121=some Go.Am.Room.a121:=by kernel_rfl
theorem hT (f:FuncId) (af:AFunc) (h:Go.Am.Room.T f=some af):∃ fn,Try.prog.funcs[f]? = some fn∧aD Try.prog hh fn=some af:=node h (fun h=>node h (fun h=>node h (fun h=>node h (fun h=>node h (fun h=>node h (fun h=>leaf h Try.func2 c2) (fun h=>leaf h Try.func3 c3)) (fun h=>node h (fun h=>leaf h Try.func4 c4) (fun h=>node h (fun h=>leaf h Try.func5 c5) (fun h=>leaf h Try.func6 c6)))) (fun h=>node h (fun h=>node h (fun h=>leaf h Try.func7 c7) (fun h=>node h (fun h=>leaf h Try.func8 c8) (fun h=>leaf h Try.func10 c10))) (fun h=>node h (fun h=>leaf h Try.func17 c17) (fun h=>node h (fun h=>leaf h Try.func18 c18) (fun h=>leaf h Try.func19 c19))))) (fun h=>node h (fun h=>node h (fun h=>node h (fun h=>leaf h Try.func21 c21) (fun h=>node h (fun h=>leaf h Try.func22 c22) (fun h=>leaf h Try.func23 c23))) (fun h=>node h (fun h=>leaf h Try.func25 c25) (fun h=>node h (fun h=>leaf h Try.func27 c27) (fun h=>leaf h Try.func28 c28)))) (fun h=>node h (fun h=>node h (fun h=>leaf h Try.func30 c30) (fun h=>node h (fun h=>leaf h Try.func32 c32) (fun h=>leaf h Try.func34 c34))) (fun h=>node h (fun h=>leaf h Try.func36 c36) (fun h=>node h (fun h=>leaf h Try.func38 c38) (fun h=>leaf h Try.func39 c39)))))) (fun h=>node h (fun h=>node h (fun h=>node h (fun h=>node h (fun h=>leaf h Try.func40 c40) (fun h=>leaf h Try.func41 c41)) (fun h=>node h (fun h=>leaf h Try.func43 c43) (fun h=>node h (fun h=>leaf h Try.func44 c44) (fun h=>leaf h Try.func46 c46)))) (fun h=>node h (fun h=>node h (fun h=>leaf h Try.func48 c48) (fun h=>node h (fun h=>leaf h Try.func49 c49) (fun h=>leaf h Try.func50 c50))) (fun h=>node h (fun h=>leaf h Try.func51 c51) (fun h=>node h (fun h=>leaf h Try.func52 c52) (fun h=>leaf h Try.func53 c53))))) (fun h=>node h (fun h=>node h (fun h=>node h (fun h=>leaf h Try.func54 c54) (fun h=>node h (fun h=>leaf h Try.func55 c55) (fun h=>leaf h Try.func56 c56))) (fun h=>node h (fun h=>leaf h Try.func61 c61) (fun h=>node h (fun h=>leaf h Try.func62 c62) (fun h=>leaf h Try.func63 c63)))) (fun h=>node h (fun h=>node h (fun h=>leaf h Try.func64 c64) (fun h=>node h (fun h=>leaf h Try.func65 c65) (fun h=>leaf h Try.func66 c66))) (fun h=>node h (fun h=>leaf h Try.func67 c67) (fun h=>node h (fun h=>leaf h Try.func68 c68) (fun h=>leaf h Try.func69 c69))))))) (fun h=>node h (fun h=>node h (fun h=>node h (fun h=>node h (fun h=>node h (fun h=>leaf h Try.func70 c70) (fun h=>leaf h Try.func71 c71)) (fun h=>node h (fun h=>leaf h Try.func72 c72) (fun h=>node h (fun h=>leaf h Try.func73 c73) (fun h=>leaf h Try.func74 c74)))) (fun h=>node h (fun h=>node h (fun h=>leaf h Try.func75 c75) (fun h=>node h (fun h=>leaf h Try.func76 c76) (fun h=>leaf h Try.func77 c77))) (fun h=>node h (fun h=>leaf h Try.func78 c78) (fun h=>node h (fun h=>leaf h Try.func79 c79) (fun h=>leaf h Try.func80 c80))))) (fun h=>node h (fun h=>node h (fun h=>node h (fun h=>leaf h Try.func84 c84) (fun h=>node h (fun h=>leaf h Try.func85 c85) (fun h=>leaf h Try.func86 c86))) (fun h=>node h (fun h=>leaf h Try.func87 c87) (fun h=>node h (fun h=>leaf h Try.func88 c88) (fun h=>leaf h Try.func91 c91)))) (fun h=>node h (fun h=>node h (fun h=>leaf h Try.func92 c92) (fun h=>node h (fun h=>leaf h Try.func93 c93) (fun h=>leaf h Try.func95 c95))) (fun h=>node h (fun h=>leaf h Try.func96 c96) (fun h=>node h (fun h=>leaf h Try.func97 c97) (fun h=>leaf h Try.func98 c98)))))) (fun h=>node h (fun h=>node h (fun h=>node h (fun h=>node h (fun h=>leaf h Try.func99 c99) (fun h=>leaf h Try.func100 aGM)) (fun h=>node h (fun h=>leaf h Try.func101 aG6) (fun h=>node h (fun h=>leaf h Try.func102 aHP) (fun h=>leaf h Try.func103 aGT)))) (fun h=>node h (fun h=>node h (fun h=>leaf h Try.func104 aHN) (fun h=>node h (fun h=>leaf h Try.func105 aHZ) (fun h=>leaf h Try.func106 aGS))) (fun h=>node h (fun h=>leaf h Try.func107 aHQ) (fun h=>node h (fun h=>leaf h Try.func108 aG2) (fun h=>leaf h Try.func109 aHY))))) (fun h=>node h (fun h=>node h (fun h=>node h (fun h=>leaf h Try.func110 aHT) (fun h=>node h (fun h=>leaf h Try.func111 aHD) (fun h=>leaf h Try.func112 aHB))) (fun h=>node h (fun h=>leaf h Try.func113 aHL) (fun h=>node h (fun h=>leaf h Try.func114 aG5) (fun h=>leaf h Try.func115 aGU)))) (fun h=>node h (fun h=>node h (fun h=>leaf h Try.func116 aGW) (fun h=>node h (fun h=>leaf h Try.func117 aGR) (fun h=>leaf h Try.func118 aGX))) (fun h=>node h (fun h=>leaf h Try.func119 aHU) (fun h=>node h (fun h=>leaf h Try.func120 aHG) (fun h=>leaf h Try.func121 aHC)))))))
theorem own:ownKnob Try.prog.godebug=none:=by kernel_rfl
theorem laidOut:laidOutB Try.prog=true:=by kernel_rfl
end Go.Proofs.Ytnjlkiflililkaa
namespace Go.Proofs.Ytnjlkiflililkaa
open Go.Am Go.Am.Room
theorem tys:Tys Try.prog:=⟨Try.underlying3,Try.underlying5,Try.underlying9,Try.underlying22,Try.underlying23,Try.underlying24,⟨_,Try.underlying26,rfl⟩,⟨_,Try.underlying37,rfl⟩,Try.underlying40,⟨_,Try.underlying53,rfl⟩,Try.underlying56,⟨_,Try.underlying65,rfl⟩,Try.underlying74,⟨_,Try.underlying87,rfl⟩,Try.underlying91,by kernel_rfl,by kernel_rfl⟩
end Go.Proofs.Ytnjlkiflililkaa
