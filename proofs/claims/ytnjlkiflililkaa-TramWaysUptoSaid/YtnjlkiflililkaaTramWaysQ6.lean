/- A part of the proof of TramWays: an abstract machine, or what functions come to on it. -/
import Derived.Test.YtnjlkiflililkaaTramWaysQ5
import Derived.Test.YtnjlkiflililkaaRows
import Derived.WalkKit
import Derived.ProofKit
import Derived.OpenShut
import Derived.ChangeOld
import Derived.Below
import Derived.Carry
set_option linter.unusedVariables false
set_option linter.unusedSimpArgs false
set_option linter.defProp false
namespace Go.Proofs.Ytnjlkiflililkaa
open Go.Am Go.Am.Room
def hh (s:String):Bool:=s== "law.go".push (Char.ofNat 58)++ "16"||s== "outright.go".push (Char.ofNat 58)++ "33"||s== "outright.go".push (Char.ofNat 58)++ "296"
theorem leaf {f k:Nat} {a af:AFunc} (h:cond (Nat.beq f k) (some a) none=some af) {fn:Func} (h1:Try.prog.funcs[k]? = some fn) (h2:aC Try.prog hh fn=some a):∃ fn,Try.prog.funcs[f]? = some fn∧aC Try.prog hh fn=some af:=by
 cases hb:Nat.beq f k with
 |false=>rw [hb] at h;cases h
 |true =>
  rw [hb] at h
  have hf:f=k:=Nat.eq_of_beq_eq_true hb
  simp only [cond_true,Option.some.injEq] at h
  subst h
  subst hf
  exact ⟨fn,h1,h2⟩
theorem node {b:Bool} {x y:Option AFunc} {af:AFunc} {Q:Prop} (h:cond b x y=some af) (h1:x=some af→Q) (h2:y=some af→Q):Q:=by
 cases b
 ·exact h2 h
 ·exact h1 h
theorem c2:aC Try.prog hh Try.f2=some Go.Am.Room.a2:=by kernel_rfl
theorem c3:aC Try.prog hh Try.f3=some Go.Am.Room.a3:=by kernel_rfl
theorem c4:aC Try.prog hh Try.f4=some Go.Am.Room.a4:=by kernel_rfl
theorem c5:aC Try.prog hh Try.f5=some Go.Am.Room.a5:=by kernel_rfl
theorem c6:aC Try.prog hh Try.f6=some Go.Am.Room.a6:=by kernel_rfl
theorem c7:aC Try.prog hh Try.f7=some Go.Am.Room.a7:=by kernel_rfl
theorem c8:aC Try.prog hh Try.f8=some Go.Am.Room.a8:=by kernel_rfl
theorem c14:aC Try.prog hh Try.f14=some Go.Am.Room.a14:=by kernel_rfl
theorem c17:aC Try.prog hh Try.f17=some Go.Am.Room.a17:=by kernel_rfl
theorem c18:aC Try.prog hh Try.f18=some Go.Am.Room.a18:=by kernel_rfl
theorem c19:aC Try.prog hh Try.f19=some Go.Am.Room.a19:=by kernel_rfl
theorem c21:aC Try.prog hh Try.f21=some Go.Am.Room.a21:=by kernel_rfl
theorem c22:aC Try.prog hh Try.f22=some Go.Am.Room.a22:=by kernel_rfl
theorem c23:aC Try.prog hh Try.f23=some Go.Am.Room.a23:=by kernel_rfl
theorem c25:aC Try.prog hh Try.f25=some Go.Am.Room.a25:=by kernel_rfl
theorem c27:aC Try.prog hh Try.f27=some Go.Am.Room.a27:=by kernel_rfl
theorem c28:aC Try.prog hh Try.f28=some Go.Am.Room.a28:=by kernel_rfl
theorem c30:aC Try.prog hh Try.f30=some Go.Am.Room.a30:=by kernel_rfl
theorem c32:aC Try.prog hh Try.f32=some Go.Am.Room.a32:=by kernel_rfl
theorem c34:aC Try.prog hh Try.f34=some Go.Am.Room.a34:=by kernel_rfl
theorem c36:aC Try.prog hh Try.f36=some Go.Am.Room.a36:=by kernel_rfl
theorem c38:aC Try.prog hh Try.f38=some Go.Am.Room.a38:=by kernel_rfl
theorem c39:aC Try.prog hh Try.f39=some Go.Am.Room.a39:=by kernel_rfl
theorem c40:aC Try.prog hh Try.f40=some Go.Am.Room.a40:=by kernel_rfl
theorem c41:aC Try.prog hh Try.f41=some Go.Am.Room.a41:=by kernel_rfl
theorem c43:aC Try.prog hh Try.f43=some Go.Am.Room.a43:=by kernel_rfl
theorem c52:aC Try.prog hh Try.f52=some Go.Am.Room.a52:=by kernel_rfl
theorem c56:aC Try.prog hh Try.f56=some Go.Am.Room.a56:=by kernel_rfl
theorem c61:aC Try.prog hh Try.f61=some Go.Am.Room.a61:=by kernel_rfl
theorem c62:aC Try.prog hh Try.f62=some Go.Am.Room.a62:=by kernel_rfl
theorem c63:aC Try.prog hh Try.f63=some Go.Am.Room.a63:=by kernel_rfl
theorem c64:aC Try.prog hh Try.f64=some Go.Am.Room.a64:=by kernel_rfl
theorem c65:aC Try.prog hh Try.f65=some Go.Am.Room.a65:=by kernel_rfl
theorem c66:aC Try.prog hh Try.f66=some Go.Am.Room.a66:=by kernel_rfl
theorem c67:aC Try.prog hh Try.f67=some Go.Am.Room.a67:=by kernel_rfl
theorem c68:aC Try.prog hh Try.f68=some Go.Am.Room.a68:=by kernel_rfl
theorem c69:aC Try.prog hh Try.f69=some Go.Am.Room.a69:=by kernel_rfl
theorem c70:aC Try.prog hh Try.f70=some Go.Am.Room.a70:=by kernel_rfl
theorem c71:aC Try.prog hh Try.f71=some Go.Am.Room.a71:=by kernel_rfl
theorem c72:aC Try.prog hh Try.f72=some Go.Am.Room.a72:=by kernel_rfl
theorem c73:aC Try.prog hh Try.f73=some Go.Am.Room.a73:=by kernel_rfl
theorem c74:aC Try.prog hh Try.f74=some Go.Am.Room.a74:=by kernel_rfl
theorem c75:aC Try.prog hh Try.f75=some Go.Am.Room.a75:=by kernel_rfl
theorem c76:aC Try.prog hh Try.f76=some Go.Am.Room.a76:=by kernel_rfl
theorem c77:aC Try.prog hh Try.f77=some Go.Am.Room.a77:=by kernel_rfl
theorem c78:aC Try.prog hh Try.f78=some Go.Am.Room.a78:=by kernel_rfl
theorem c79:aC Try.prog hh Try.f79=some Go.Am.Room.a79:=by kernel_rfl
theorem c80:aC Try.prog hh Try.f80=some Go.Am.Room.a80:=by kernel_rfl
theorem c84:aC Try.prog hh Try.f84=some Go.Am.Room.a84:=by kernel_rfl
theorem c85:aC Try.prog hh Try.f85=some Go.Am.Room.a85:=by kernel_rfl
theorem c86:aC Try.prog hh Try.f86=some Go.Am.Room.a86:=by kernel_rfl
theorem c87:aC Try.prog hh Try.f87=some Go.Am.Room.a87:=by kernel_rfl
theorem c88:aC Try.prog hh Try.f88=some Go.Am.Room.a88:=by kernel_rfl
theorem c91:aC Try.prog hh Try.f91=some Go.Am.Room.a91:=by kernel_rfl
theorem c92:aC Try.prog hh Try.f92=some Go.Am.Room.a92:=by kernel_rfl
theorem c93:aC Try.prog hh Try.f93=some Go.Am.Room.a93:=by kernel_rfl
theorem c97:aC Try.prog hh Try.f97=some Go.Am.Room.a97:=by kernel_rfl
theorem c98:aC Try.prog hh Try.f98=some Go.Am.Room.a98:=by kernel_rfl
theorem c99:aC Try.prog hh Try.f99=some Go.Am.Room.a99:=by kernel_rfl
theorem aEO:aC Try.prog hh Try.f100=some Go.Am.Room.a100:=by kernel_rfl
theorem aDS:aC Try.prog hh Try.f101=some Go.Am.Room.a101:=by kernel_rfl
theorem aEU:aC Try.prog hh Try.f102=some Go.Am.Room.a102:=by kernel_rfl
theorem aD3:aC Try.prog hh Try.f103=some Go.Am.Room.a103:=by kernel_rfl
theorem aDL:aC Try.prog hh Try.f104=some Go.Am.Room.a104:=by kernel_rfl
theorem aEH:aC Try.prog hh Try.f105=some Go.Am.Room.a105:=by kernel_rfl
theorem aD5:aC Try.prog hh Try.f106=some Go.Am.Room.a106:=by kernel_rfl
theorem aD0:aC Try.prog hh Try.f107=some Go.Am.Room.a107:=by kernel_rfl
theorem aD4:aC Try.prog hh Try.f108=some Go.Am.Room.a108:=by kernel_rfl
theorem aEM:aC Try.prog hh Try.f109=some Go.Am.Room.a109:=by kernel_rfl
theorem aDP:aC Try.prog hh Try.f110=some Go.Am.Room.a110:=by kernel_rfl
theorem aDT:aC Try.prog hh Try.f111=some Go.Am.Room.a111:=by kernel_rfl
theorem aES:aC Try.prog hh Try.f112=some Go.Am.Room.a112:=by kernel_rfl
theorem aER:aC Try.prog hh Try.f113=some Go.Am.Room.a113:=by kernel_rfl
theorem aEV:aC Try.prog hh Try.f114=some Go.Am.Room.a114:=by kernel_rfl
theorem aEA:aC Try.prog hh Try.f115=some Go.Am.Room.a115:=by kernel_rfl
theorem aDY:aC Try.prog hh Try.f116=some Go.Am.Room.a116:=by kernel_rfl
theorem aDW:aC Try.prog hh Try.f117=some Go.Am.Room.a117:=by kernel_rfl
theorem aD8:aC Try.prog hh Try.f118=some Go.Am.Room.a118:=by kernel_rfl
theorem aEB:aC Try.prog hh Try.f119=some Go.Am.Room.a119:=by kernel_rfl
theorem aDN:aC Try.prog hh Try.f120=some Go.Am.Room.a120:=by kernel_rfl
theorem aDQ:aC Try.prog hh Try.f121=some Go.Am.Room.a121:=by kernel_rfl
theorem hT (f:FuncId) (af:AFunc) (h:Go.Am.Room.T f=some af):∃ fn,Try.prog.funcs[f]? = some fn∧aC Try.prog hh fn=some af:=node h (fun h=>node h (fun h=>node h (fun h=>node h (fun h=>node h (fun h=>node h (fun h=>leaf h Try.func2 c2) (fun h=>leaf h Try.func3 c3)) (fun h=>node h (fun h=>leaf h Try.func4 c4) (fun h=>node h (fun h=>leaf h Try.func5 c5) (fun h=>leaf h Try.func6 c6)))) (fun h=>node h (fun h=>node h (fun h=>leaf h Try.func7 c7) (fun h=>leaf h Try.func8 c8)) (fun h=>node h (fun h=>leaf h Try.func14 c14) (fun h=>node h (fun h=>leaf h Try.func17 c17) (fun h=>leaf h Try.func18 c18))))) (fun h=>node h (fun h=>node h (fun h=>node h (fun h=>leaf h Try.func19 c19) (fun h=>leaf h Try.func21 c21)) (fun h=>node h (fun h=>leaf h Try.func22 c22) (fun h=>node h (fun h=>leaf h Try.func23 c23) (fun h=>leaf h Try.func25 c25)))) (fun h=>node h (fun h=>node h (fun h=>leaf h Try.func27 c27) (fun h=>leaf h Try.func28 c28)) (fun h=>node h (fun h=>leaf h Try.func30 c30) (fun h=>node h (fun h=>leaf h Try.func32 c32) (fun h=>leaf h Try.func34 c34)))))) (fun h=>node h (fun h=>node h (fun h=>node h (fun h=>node h (fun h=>leaf h Try.func36 c36) (fun h=>leaf h Try.func38 c38)) (fun h=>node h (fun h=>leaf h Try.func39 c39) (fun h=>node h (fun h=>leaf h Try.func40 c40) (fun h=>leaf h Try.func41 c41)))) (fun h=>node h (fun h=>node h (fun h=>leaf h Try.func43 c43) (fun h=>leaf h Try.func52 c52)) (fun h=>node h (fun h=>leaf h Try.func56 c56) (fun h=>node h (fun h=>leaf h Try.func61 c61) (fun h=>leaf h Try.func62 c62))))) (fun h=>node h (fun h=>node h (fun h=>node h (fun h=>leaf h Try.func63 c63) (fun h=>leaf h Try.func64 c64)) (fun h=>node h (fun h=>leaf h Try.func65 c65) (fun h=>node h (fun h=>leaf h Try.func66 c66) (fun h=>leaf h Try.func67 c67)))) (fun h=>node h (fun h=>node h (fun h=>leaf h Try.func68 c68) (fun h=>leaf h Try.func69 c69)) (fun h=>node h (fun h=>leaf h Try.func70 c70) (fun h=>node h (fun h=>leaf h Try.func71 c71) (fun h=>leaf h Try.func72 c72))))))) (fun h=>node h (fun h=>node h (fun h=>node h (fun h=>node h (fun h=>node h (fun h=>leaf h Try.func73 c73) (fun h=>leaf h Try.func74 c74)) (fun h=>node h (fun h=>leaf h Try.func75 c75) (fun h=>node h (fun h=>leaf h Try.func76 c76) (fun h=>leaf h Try.func77 c77)))) (fun h=>node h (fun h=>node h (fun h=>leaf h Try.func78 c78) (fun h=>leaf h Try.func79 c79)) (fun h=>node h (fun h=>leaf h Try.func80 c80) (fun h=>node h (fun h=>leaf h Try.func84 c84) (fun h=>leaf h Try.func85 c85))))) (fun h=>node h (fun h=>node h (fun h=>node h (fun h=>leaf h Try.func86 c86) (fun h=>leaf h Try.func87 c87)) (fun h=>node h (fun h=>leaf h Try.func88 c88) (fun h=>node h (fun h=>leaf h Try.func91 c91) (fun h=>leaf h Try.func92 c92)))) (fun h=>node h (fun h=>node h (fun h=>leaf h Try.func93 c93) (fun h=>leaf h Try.func97 c97)) (fun h=>node h (fun h=>leaf h Try.func98 c98) (fun h=>node h (fun h=>leaf h Try.func99 c99) (fun h=>leaf h Try.func100 aEO)))))) (fun h=>node h (fun h=>node h (fun h=>node h (fun h=>node h (fun h=>leaf h Try.func101 aDS) (fun h=>leaf h Try.func102 aEU)) (fun h=>node h (fun h=>leaf h Try.func103 aD3) (fun h=>node h (fun h=>leaf h Try.func104 aDL) (fun h=>leaf h Try.func105 aEH)))) (fun h=>node h (fun h=>node h (fun h=>leaf h Try.func106 aD5) (fun h=>leaf h Try.func107 aD0)) (fun h=>node h (fun h=>leaf h Try.func108 aD4) (fun h=>node h (fun h=>leaf h Try.func109 aEM) (fun h=>leaf h Try.func110 aDP))))) (fun h=>node h (fun h=>node h (fun h=>node h (fun h=>leaf h Try.func111 aDT) (fun h=>leaf h Try.func112 aES)) (fun h=>node h (fun h=>leaf h Try.func113 aER) (fun h=>node h (fun h=>leaf h Try.func114 aEV) (fun h=>leaf h Try.func115 aEA)))) (fun h=>node h (fun h=>node h (fun h=>leaf h Try.func116 aDY) (fun h=>node h (fun h=>leaf h Try.func117 aDW) (fun h=>leaf h Try.func118 aD8))) (fun h=>node h (fun h=>leaf h Try.func119 aEB) (fun h=>node h (fun h=>leaf h Try.func120 aDN) (fun h=>leaf h Try.func121 aDQ)))))))
theorem own:ownKnob Try.prog.godebug=none:=by kernel_rfl
theorem laidOut:laidOutB Try.prog=true:=by kernel_rfl
end Go.Proofs.Ytnjlkiflililkaa
namespace Go.Proofs.Ytnjlkiflililkaa
open Go.Am Go.Am.Room
theorem tys:Tys Try.prog:=⟨Try.underlying3,Try.underlying5,Try.underlying9,Try.underlying22,Try.underlying23,Try.underlying24,⟨_,Try.underlying26,rfl⟩,⟨_,Try.underlying37,rfl⟩,Try.underlying40,⟨_,Try.underlying53,rfl⟩,Try.underlying56,⟨_,Try.underlying65,rfl⟩,Try.underlying74,⟨_,Try.underlying87,rfl⟩,Try.underlying91,by kernel_rfl,by kernel_rfl⟩
end Go.Proofs.Ytnjlkiflililkaa
namespace Go.Proofs.Ytnjlkiflililkaa
open Go.Am
theorem OS {H:Type}:∀ d:DataW H,1≤Rows.uptoBulk d
 |.lit l=>by cases l<;>simp [Rows.uptoBulk]
 |.nil=>by simp [Rows.uptoBulk]
 |.ptr d=>by simp [Rows.uptoBulk]
 |.slice a b=>by simp [Rows.uptoBulk]
 |.agg p=>by simp [Rows.uptoBulk]
 |.iface _ d=>by simp [Rows.uptoBulk]
 |.map e=>by simp [Rows.uptoBulk]
 |.held _=>by simp [Rows.uptoBulk]
theorem DQ {H:Type}:∀ l:List (DataW H),l.length≤Rows.uptoBulkAll l
 |[]=>Nat.zero_le _
 |d::l=>by
  have h1:=OS d
  have h2:=DQ l
  simp only [Rows.uptoBulkAll,List.length_cons]
  omega
theorem H3 {P:Program} {H:Type} {enc:TypeId×Value→H} {w:World} {base:Nat} {sp:Nat→Bool} {held:Bool} {t e:TypeId} {v:Value} {d:DataW H} {ps:List MemPlace} {G:Gh} {xs:List AV} {f:Bool} {tk:Option Nat} (hu:P.underlying t=some (.slice e)) (h:DataW.Trod enc P w base sp held t v d ps) (rel:RelV G w (.lit xs f tk) v):xs.length≤Rows.uptoBulk d:=by
 obtain ⟨m,hm⟩:=h
 rcases DataW.trod_slice hu hm with ⟨hc,hx⟩|⟨a,len,cap,elems,rest,m',_,hc,hx,_,_,_,hel,_⟩
 ·cases rel with
  |nil ht hb=>exact Nat.zero_le _
  |lit ht hl hc2 =>
   have:=List.cons.inj hc
   cases this.1
 ·simp only [Prod.mk.injEq] at hx
  rw [hx.1]
  have h1:=DQ (elems.map (·.1))
  simp only [List.length_map] at h1
  have h2:xs.length=len:=by
   cases rel with
   |nil ht hb =>
    have:=(List.cons.inj hc).1
    injection this
   |lit ht hl hc2 =>
    have:=(List.cons.inj hc).1
    injection this
  simp only [Rows.uptoBulk]
  omega
end Go.Proofs.Ytnjlkiflililkaa
