/- A part of the proof of TopDoors: an abstract machine, or what functions come to on it. -/
import Derived.Test.YtckllniniolhcaaGreatTopDoorsQ4
open Nat (reduceLT reduceEqDiff reduceAdd reduceLeDiff reduceMul)
set_option linter.unusedVariables false
set_option linter.unusedSimpArgs false
set_option linter.defProp false
noncomputable section
namespace Go.Am.Ex
inductive N16 (α:Type) where
 |mk (a0 a1 a2 a3 a4 a5 a6 a7 a8 a9 aa ab ac ad ae af:α)
inductive Dg where
 |d0
 |d1
 |d2
 |d3
 |d4
 |d5
 |d6
 |d7
 |d8
 |d9
 |da
 |db
 |dc
 |dd
 |de
 |df
def Dg.nat:Dg->Nat
 |.d0=>0
 |.d1=>1
 |.d2=>2
 |.d3=>3
 |.d4=>4
 |.d5=>5
 |.d6=>6
 |.d7=>7
 |.d8=>8
 |.d9=>9
 |.da=>10
 |.db=>11
 |.dc=>12
 |.dd=>13
 |.de=>14
 |.df=>15
instance:DecidableEq Dg:=fun a b=>decidable_of_iff (a.nat=b.nat) ⟨fun h=>by cases a<;>cases b<;>first|rfl|(exact absurd h (by decide)),fun h=>by rw[h]⟩
namespace N16
variable {α:Type}
def g0(b:N16 α):α:=N16.rec (fun a0 a1 a2 a3 a4 a5 a6 a7 a8 a9 aa ab ac ad ae af=>a0) b
def p0(v:α)(b:N16 α):N16 α:=N16.rec (fun a0 a1 a2 a3 a4 a5 a6 a7 a8 a9 aa ab ac ad ae af=>.mk v a1 a2 a3 a4 a5 a6 a7 a8 a9 aa ab ac ad ae af) b
def g1(b:N16 α):α:=N16.rec (fun a0 a1 a2 a3 a4 a5 a6 a7 a8 a9 aa ab ac ad ae af=>a1) b
def p1(v:α)(b:N16 α):N16 α:=N16.rec (fun a0 a1 a2 a3 a4 a5 a6 a7 a8 a9 aa ab ac ad ae af=>.mk a0 v a2 a3 a4 a5 a6 a7 a8 a9 aa ab ac ad ae af) b
def g2(b:N16 α):α:=N16.rec (fun a0 a1 a2 a3 a4 a5 a6 a7 a8 a9 aa ab ac ad ae af=>a2) b
def p2(v:α)(b:N16 α):N16 α:=N16.rec (fun a0 a1 a2 a3 a4 a5 a6 a7 a8 a9 aa ab ac ad ae af=>.mk a0 a1 v a3 a4 a5 a6 a7 a8 a9 aa ab ac ad ae af) b
def g3(b:N16 α):α:=N16.rec (fun a0 a1 a2 a3 a4 a5 a6 a7 a8 a9 aa ab ac ad ae af=>a3) b
def p3(v:α)(b:N16 α):N16 α:=N16.rec (fun a0 a1 a2 a3 a4 a5 a6 a7 a8 a9 aa ab ac ad ae af=>.mk a0 a1 a2 v a4 a5 a6 a7 a8 a9 aa ab ac ad ae af) b
def g4(b:N16 α):α:=N16.rec (fun a0 a1 a2 a3 a4 a5 a6 a7 a8 a9 aa ab ac ad ae af=>a4) b
def p4(v:α)(b:N16 α):N16 α:=N16.rec (fun a0 a1 a2 a3 a4 a5 a6 a7 a8 a9 aa ab ac ad ae af=>.mk a0 a1 a2 a3 v a5 a6 a7 a8 a9 aa ab ac ad ae af) b
def g5(b:N16 α):α:=N16.rec (fun a0 a1 a2 a3 a4 a5 a6 a7 a8 a9 aa ab ac ad ae af=>a5) b
def p5(v:α)(b:N16 α):N16 α:=N16.rec (fun a0 a1 a2 a3 a4 a5 a6 a7 a8 a9 aa ab ac ad ae af=>.mk a0 a1 a2 a3 a4 v a6 a7 a8 a9 aa ab ac ad ae af) b
def g6(b:N16 α):α:=N16.rec (fun a0 a1 a2 a3 a4 a5 a6 a7 a8 a9 aa ab ac ad ae af=>a6) b
def p6(v:α)(b:N16 α):N16 α:=N16.rec (fun a0 a1 a2 a3 a4 a5 a6 a7 a8 a9 aa ab ac ad ae af=>.mk a0 a1 a2 a3 a4 a5 v a7 a8 a9 aa ab ac ad ae af) b
def g7(b:N16 α):α:=N16.rec (fun a0 a1 a2 a3 a4 a5 a6 a7 a8 a9 aa ab ac ad ae af=>a7) b
def p7(v:α)(b:N16 α):N16 α:=N16.rec (fun a0 a1 a2 a3 a4 a5 a6 a7 a8 a9 aa ab ac ad ae af=>.mk a0 a1 a2 a3 a4 a5 a6 v a8 a9 aa ab ac ad ae af) b
def g8(b:N16 α):α:=N16.rec (fun a0 a1 a2 a3 a4 a5 a6 a7 a8 a9 aa ab ac ad ae af=>a8) b
def p8(v:α)(b:N16 α):N16 α:=N16.rec (fun a0 a1 a2 a3 a4 a5 a6 a7 a8 a9 aa ab ac ad ae af=>.mk a0 a1 a2 a3 a4 a5 a6 a7 v a9 aa ab ac ad ae af) b
def g9(b:N16 α):α:=N16.rec (fun a0 a1 a2 a3 a4 a5 a6 a7 a8 a9 aa ab ac ad ae af=>a9) b
def p9(v:α)(b:N16 α):N16 α:=N16.rec (fun a0 a1 a2 a3 a4 a5 a6 a7 a8 a9 aa ab ac ad ae af=>.mk a0 a1 a2 a3 a4 a5 a6 a7 a8 v aa ab ac ad ae af) b
def ga(b:N16 α):α:=N16.rec (fun a0 a1 a2 a3 a4 a5 a6 a7 a8 a9 aa ab ac ad ae af=>aa) b
def pa(v:α)(b:N16 α):N16 α:=N16.rec (fun a0 a1 a2 a3 a4 a5 a6 a7 a8 a9 aa ab ac ad ae af=>.mk a0 a1 a2 a3 a4 a5 a6 a7 a8 a9 v ab ac ad ae af) b
def gb(b:N16 α):α:=N16.rec (fun a0 a1 a2 a3 a4 a5 a6 a7 a8 a9 aa ab ac ad ae af=>ab) b
def pb(v:α)(b:N16 α):N16 α:=N16.rec (fun a0 a1 a2 a3 a4 a5 a6 a7 a8 a9 aa ab ac ad ae af=>.mk a0 a1 a2 a3 a4 a5 a6 a7 a8 a9 aa v ac ad ae af) b
def gc(b:N16 α):α:=N16.rec (fun a0 a1 a2 a3 a4 a5 a6 a7 a8 a9 aa ab ac ad ae af=>ac) b
def pc(v:α)(b:N16 α):N16 α:=N16.rec (fun a0 a1 a2 a3 a4 a5 a6 a7 a8 a9 aa ab ac ad ae af=>.mk a0 a1 a2 a3 a4 a5 a6 a7 a8 a9 aa ab v ad ae af) b
def gd(b:N16 α):α:=N16.rec (fun a0 a1 a2 a3 a4 a5 a6 a7 a8 a9 aa ab ac ad ae af=>ad) b
def pd(v:α)(b:N16 α):N16 α:=N16.rec (fun a0 a1 a2 a3 a4 a5 a6 a7 a8 a9 aa ab ac ad ae af=>.mk a0 a1 a2 a3 a4 a5 a6 a7 a8 a9 aa ab ac v ae af) b
def ge(b:N16 α):α:=N16.rec (fun a0 a1 a2 a3 a4 a5 a6 a7 a8 a9 aa ab ac ad ae af=>ae) b
def pe(v:α)(b:N16 α):N16 α:=N16.rec (fun a0 a1 a2 a3 a4 a5 a6 a7 a8 a9 aa ab ac ad ae af=>.mk a0 a1 a2 a3 a4 a5 a6 a7 a8 a9 aa ab ac ad v af) b
def gf(b:N16 α):α:=N16.rec (fun a0 a1 a2 a3 a4 a5 a6 a7 a8 a9 aa ab ac ad ae af=>af) b
def pf(v:α)(b:N16 α):N16 α:=N16.rec (fun a0 a1 a2 a3 a4 a5 a6 a7 a8 a9 aa ab ac ad ae af=>.mk a0 a1 a2 a3 a4 a5 a6 a7 a8 a9 aa ab ac ad ae v) b
def sel(d:Dg):N16 α->α:=Dg.rec g0 g1 g2 g3 g4 g5 g6 g7 g8 g9 ga gb gc gd ge gf d
def put(d:Dg):α->N16 α->N16 α:=Dg.rec p0 p1 p2 p3 p4 p5 p6 p7 p8 p9 pa pb pc pd pe pf d
theorem sel_put(d d':Dg)(v:α)(b:N16 α):sel d' (put d v b)=if d=d' then v else sel d' b:=by
 cases b;cases d<;>cases d'<;>rfl
def all(v:α):N16 α:=.mk v v v v v v v v v v v v v v v v
theorem sel_all(d:Dg)(v:α):sel d (all v)=v:=by cases d<;>rfl
end N16
def dig(n:Nat):Dg:=cond (Nat.beq n 0) .d0 (cond (Nat.beq n 1) .d1 (cond (Nat.beq n 2) .d2 (cond (Nat.beq n 3) .d3 (cond (Nat.beq n 4) .d4 (cond (Nat.beq n 5) .d5 (cond (Nat.beq n 6) .d6 (cond (Nat.beq n 7) .d7 (cond (Nat.beq n 8) .d8 (cond (Nat.beq n 9) .d9 (cond (Nat.beq n 10) .da (cond (Nat.beq n 11) .db (cond (Nat.beq n 12) .dc (cond (Nat.beq n 13) .dd (cond (Nat.beq n 14) .de (cond (Nat.beq n 15) .df (.d0))))))))))))))))
theorem L6:∀ n,n<16->(dig n).nat=n:=by decide
theorem tY{n m:Nat}(hn:n<16)(hm:m<16)(h:dig n=dig m):n=m:=by rw[<-L6 n hn,<-L6 m hm,h]
abbrev Tre:=N16 (N16 AV)
def Tre.none:Tre:=.all (.all .undef)
def Tre.get(e:Tre)(t:Nat):AV:=cond (Nat.ble t 255) (N16.sel (dig (Nat.mod t 16)) (N16.sel (dig (Nat.div t 16)) e)) .undef
def Tre.put(e:Tre)(t:Nat)(v:AV):Tre:=N16.put (dig (Nat.div t 16)) (N16.put (dig (Nat.mod t 16)) v (N16.sel (dig (Nat.div t 16)) e)) e
theorem Tre.get_none(t:Nat):Tre.get .none t = .undef:=by
 unfold Tre.get Tre.none;cases Nat.ble t 255<;>simp[N16.sel_all]
theorem Tre.get_put(e:Tre)(t:Nat)(v:AV)(ht:Nat.ble t 255=true)(s:Nat):Tre.get (Tre.put e t v) s=if t=s then v else Tre.get e s:=by
 have h1:t<=255:=Nat.le_of_ble_eq_true ht;unfold Tre.get Tre.put;cases hs:Nat.ble s 255 with
 |false =>
  have:t≠s:=fun h=>by rw[h,hs] at ht;cases ht
  rw[if_neg this];rfl
 |true =>
  have h2:s<=255:=Nat.le_of_ble_eq_true hs;simp only[cond_true,N16.sel_put];by_cases hd:dig (Nat.div t 16)=dig (Nat.div s 16)
  ·have e1:t/16=s/16:=tY (by omega) (by omega) hd;rw[if_pos hd,N16.sel_put];by_cases hm:dig (Nat.mod t 16)=dig (Nat.mod s 16)
   ·have e2:t%16=s%16:=tY (Nat.mod_lt _ (by omega)) (Nat.mod_lt _ (by omega)) hm;rw[if_pos hm,if_pos (by omega)]
   ·rw[if_neg hm,if_neg (fun h=>hm (by rw[h])),hd]
  ·rw[if_neg hd,if_neg (fun h=>hd (by rw[h]))]
def jF(env:Env)(e:Tre):Prop:=∀ t,Env.get env t=Tre.get e t
theorem jF.put{env:Env}{e:Tre}(h:jF env e)(t:Nat)(v:AV)(ht:Nat.ble t 255=true):jF (Env.put env (some t) v) (Tre.put e t v):=by
 intro s;rw[Tre.get_put e t v ht];simp only[Env.put,Env.get];split
 ·rfl
 ·exact h s
def nth{α:Type}(l:List α):Nat->Option α:=List.rec (motive:=fun _=>Nat->Option α) (fun _=>none) (fun x _ ih n=>Nat.rec (some x) (fun m _=>ih m) n) l
theorem wP{α:Type}:∀ (l:List α) (n:Nat),nth l n=l[n]?
 |[],n=>by simp[nth]
 |x::l,0=>by rw[List.getElem?_cons_zero];rfl
 |x::l,n+1=>by rw[List.getElem?_cons_succ,<-wP l n];rfl
def aCJ{α:Type}(x:α)(l:List α):Nat->List α:=List.rec (motive:=fun _=>Nat->List α) (fun _=>[]) (fun y ys ih n=>Nat.rec (x::ys) (fun m _=>y::ih m) n) l
theorem MG{α:Type}(x:α):∀ (l:List α) (n:Nat),aCJ x l n=l.set n x
 |[],n=>by simp[aCJ]
 |y::l,0=>by rw[List.set_cons_zero];rfl
 |y::l,n+1=>by rw[List.set_cons_succ,<-MG x l n];rfl
def mG{α:Type}(l:List α):Nat:=List.rec 0 (fun _ _ ih=>Nat.add ih 1) l
theorem gA{α:Type}:∀ l:List α,mG l=l.length
 |[]=>rfl
 |x::l=>by rw[List.length_cons,<-gA l];rfl
def snoc{α:Type}(x:α)(l:List α):List α:=List.rec [x] (fun y _ ih=>y::ih) l
theorem MF{α:Type}(x:α):∀ l:List α,snoc x l=l++[x]
 |[]=>rfl
 |y::l=>by rw[List.cons_append,<-MF x l];rfl
def J0{α:Type}(l k:List α):List α:=List.rec k (fun y _ ih=>y::ih) l
theorem oP{α:Type}(k:List α):∀ l:List α,J0 l k=l++k
 |[]=>rfl
 |y::l=>by rw[List.cons_append,<-oP k l];rfl
def aI6{α β:Type}(f:α->β)(l:List α):List β:=List.rec [] (fun y _ ih=>f y::ih) l
theorem KY{α β:Type}(f:α->β):∀ l:List α,aI6 f l=l.map f
 |[]=>rfl
 |y::l=>by rw[List.map_cons,<-KY f l];rfl
def K0{α:Type}(l:List α):Nat->List α:=List.rec (motive:=fun _=>Nat->List α) (fun _=>[]) (fun y ys ih n=>Nat.rec (y::ys) (fun m _=>ih m) n) l
theorem AZ{α:Type}:∀ (l:List α) (n:Nat),K0 l n=l.drop n
 |[],n=>by simp[K0]
 |y::l,0=>by rw[List.drop_zero];rfl
 |y::l,n+1=>by rw[List.drop_succ_cons,<-AZ l n];rfl
def PD{α:Type}(l:List α):Nat->List α:=List.rec (motive:=fun _=>Nat->List α) (fun _=>[]) (fun y _ ih n=>Nat.rec [] (fun m _=>y::ih m) n) l
theorem HB{α:Type}:∀ (l:List α) (n:Nat),PD l n=l.take n
 |[],n=>by simp[PD]
 |y::l,0=>by rw[List.take_zero];rfl
 |y::l,n+1=>by rw[List.take_succ_cons,<-HB l n];rfl
def H7{α:Type}(f:α->Bool)(l:List α):Bool:=List.rec true (fun y _ ih=>cond (f y) ih false) l
theorem D0{α:Type}(f:α->Bool):∀ l:List α,H7 f l=l.all f
 |[]=>rfl
 |y::l=>by rw[List.all_cons,<-D0 f l];simp only[H7];cases f y<;>rfl
section
variable {R:Type}
def aHY(v:AV):(IntKind->Int->R)->R->R:=AV.rec (motive_1:=fun _=>(IntKind->Int->R)->R->R) (motive_2:=fun _=>PUnit) (fun _ d=>d) (fun k n K d=>K k n) (fun _ _ d=>d) (fun _ _ d=>d) (fun _ _ _ _ _ _ d=>d) (fun _ d=>d) (fun _ _ d=>d) (fun _ _ _ d=>d) (fun _ d=>d) (fun _ _ _ _ _ _ d=>d) (fun _ _ _ _ _ d=>d) (fun _ _ _ _ _ d=>d) (fun _ _ d=>d) (fun _ d=>d) (fun _ _ _ d=>d) (fun _ _ _ d=>d) ⟨⟩ (fun _ _ _ _=>⟨⟩) v
theorem ZU(v:AV)(K:IntKind->Int->R)(d:R):aHY v K d=match v with|.int k n=>K k n|_=>d:=by cases v<;>rfl
def xL(v:AV):(Bool->R)->R->R:=AV.rec (motive_1:=fun _=>(Bool->R)->R->R) (motive_2:=fun _=>PUnit) (fun _ d=>d) (fun _ _ _ d=>d) (fun b K d=>K b) (fun _ _ d=>d) (fun _ _ _ _ _ _ d=>d) (fun _ d=>d) (fun _ _ d=>d) (fun _ _ _ d=>d) (fun _ d=>d) (fun _ _ _ _ _ _ d=>d) (fun _ _ _ _ _ d=>d) (fun _ _ _ _ _ d=>d) (fun _ _ d=>d) (fun _ d=>d) (fun _ _ _ d=>d) (fun _ _ _ d=>d) ⟨⟩ (fun _ _ _ _=>⟨⟩) v
theorem qN(v:AV)(K:Bool->R)(d:R):xL v K d=match v with|.bool b=>K b|_=>d:=by cases v<;>rfl
def L4(v:AV):(FuncId->List AV->List AV->R)->R->R:=AV.rec (motive_1:=fun _=>(FuncId->List AV->List AV->R)->R->R) (motive_2:=fun _=>PUnit) (fun _ d=>d) (fun _ _ _ d=>d) (fun _ _ d=>d) (fun _ _ d=>d) (fun f a c _ _ K d=>K f a c) (fun _ d=>d) (fun _ _ d=>d) (fun _ _ _ d=>d) (fun _ d=>d) (fun _ _ _ _ _ _ d=>d) (fun _ _ _ _ _ d=>d) (fun _ _ _ _ _ d=>d) (fun _ _ d=>d) (fun _ d=>d) (fun _ _ _ d=>d) (fun _ _ _ d=>d) ⟨⟩ (fun _ _ _ _=>⟨⟩) v
theorem zX(v:AV)(K:FuncId->List AV->List AV->R)(d:R):L4 v K d=match v with|.func f a c=>K f a c|_=>d:=by cases v<;>rfl
def JV(v:AV):(Nat->R)->R->R:=AV.rec (motive_1:=fun _=>(Nat->R)->R->R) (motive_2:=fun _=>PUnit) (fun _ d=>d) (fun _ _ _ d=>d) (fun _ _ d=>d) (fun _ _ d=>d) (fun _ _ _ _ _ _ d=>d) (fun _ d=>d) (fun i K d=>K i) (fun _ _ _ d=>d) (fun _ d=>d) (fun _ _ _ _ _ _ d=>d) (fun _ _ _ _ _ d=>d) (fun _ _ _ _ _ d=>d) (fun _ _ d=>d) (fun _ d=>d) (fun _ _ _ d=>d) (fun _ _ _ d=>d) ⟨⟩ (fun _ _ _ _=>⟨⟩) v
theorem CK(v:AV)(K:Nat->R)(d:R):JV v K d=match v with|.yield i=>K i|_=>d:=by cases v<;>rfl
def VP(v:AV):(Nat->Nat->R)->R->R:=AV.rec (motive_1:=fun _=>(Nat->Nat->R)->R->R) (motive_2:=fun _=>PUnit) (fun _ d=>d) (fun _ _ _ d=>d) (fun _ _ d=>d) (fun _ _ d=>d) (fun _ _ _ _ _ _ d=>d) (fun _ d=>d) (fun _ _ d=>d) (fun i o K d=>K i o) (fun _ d=>d) (fun _ _ _ _ _ _ d=>d) (fun _ _ _ _ _ d=>d) (fun _ _ _ _ _ d=>d) (fun _ _ d=>d) (fun _ d=>d) (fun _ _ _ d=>d) (fun _ _ _ d=>d) ⟨⟩ (fun _ _ _ _=>⟨⟩) v
theorem yM(v:AV)(K:Nat->Nat->R)(d:R):VP v K d=match v with|.ptr i o=>K i o|_=>d:=by cases v<;>rfl
def LG(v:AV):(List AV->Nat->Nat->Option Nat->R)->R->R:=AV.rec (motive_1:=fun _=>(List AV->Nat->Nat->Option Nat->R)->R->R) (motive_2:=fun _=>PUnit) (fun _ d=>d) (fun _ _ _ d=>d) (fun _ _ d=>d) (fun _ _ d=>d) (fun _ _ _ _ _ _ d=>d) (fun _ d=>d) (fun _ _ d=>d) (fun _ _ _ d=>d) (fun _ d=>d) (fun xs i o tk _ K d=>K xs i o tk) (fun _ _ _ _ _ d=>d) (fun _ _ _ _ _ d=>d) (fun _ _ d=>d) (fun _ d=>d) (fun _ _ _ d=>d) (fun _ _ _ d=>d) ⟨⟩ (fun _ _ _ _=>⟨⟩) v
theorem zV(v:AV)(K:List AV->Nat->Nat->Option Nat->R)(d:R):LG v K d=match v with|.lptr xs i o tk=>K xs i o tk|_=>d:=by cases v<;>rfl
def wE(v:AV):(List AV->Bool->Option Nat->R)->R->R:=AV.rec (motive_1:=fun _=>(List AV->Bool->Option Nat->R)->R->R) (motive_2:=fun _=>PUnit) (fun _ d=>d) (fun _ _ _ d=>d) (fun _ _ d=>d) (fun _ _ d=>d) (fun _ _ _ _ _ _ d=>d) (fun _ d=>d) (fun _ _ d=>d) (fun _ _ _ d=>d) (fun _ d=>d) (fun _ _ _ _ _ _ d=>d) (fun xs fl tk _ K d=>K xs fl tk) (fun _ _ _ _ _ d=>d) (fun _ _ d=>d) (fun _ d=>d) (fun _ _ _ d=>d) (fun _ _ _ d=>d) ⟨⟩ (fun _ _ _ _=>⟨⟩) v
theorem u4(v:AV)(K:List AV->Bool->Option Nat->R)(d:R):wE v K d=match v with|.lit xs fl tk=>K xs fl tk|_=>d:=by cases v<;>rfl
def ST(v:AV):(Nat->Nat->Nat->Nat->R)->R->R:=AV.rec (motive_1:=fun _=>(Nat->Nat->Nat->Nat->R)->R->R) (motive_2:=fun _=>PUnit) (fun _ d=>d) (fun _ _ _ d=>d) (fun _ _ d=>d) (fun _ _ d=>d) (fun _ _ _ _ _ _ d=>d) (fun _ d=>d) (fun _ _ d=>d) (fun _ _ _ d=>d) (fun _ d=>d) (fun _ _ _ _ _ _ d=>d) (fun _ _ _ _ _ d=>d) (fun i o l z K d=>K i o l z) (fun _ _ d=>d) (fun _ d=>d) (fun _ _ _ d=>d) (fun _ _ _ d=>d) ⟨⟩ (fun _ _ _ _=>⟨⟩) v
theorem DG(v:AV)(K:Nat->Nat->Nat->Nat->R)(d:R):ST v K d=match v with|.ref i o l z=>K i o l z|_=>d:=by cases v<;>rfl
def aEP(v:AV):(List AV->R)->R->R:=AV.rec (motive_1:=fun _=>(List AV->R)->R->R) (motive_2:=fun _=>PUnit) (fun _ d=>d) (fun _ _ _ d=>d) (fun _ _ d=>d) (fun _ _ d=>d) (fun _ _ _ _ _ _ d=>d) (fun _ d=>d) (fun _ _ d=>d) (fun _ _ _ d=>d) (fun _ d=>d) (fun _ _ _ _ _ _ d=>d) (fun _ _ _ _ _ d=>d) (fun _ _ _ _ _ d=>d) (fun _ _ d=>d) (fun _ d=>d) (fun cs _ K d=>K cs) (fun _ _ _ d=>d) ⟨⟩ (fun _ _ _ _=>⟨⟩) v
theorem ZV(v:AV)(K:List AV->R)(d:R):aEP v K d=match v with|.agg cs=>K cs|_=>d:=by cases v<;>rfl
def HS(v:AV):(List AV->R)->R->R:=AV.rec (motive_1:=fun _=>(List AV->R)->R->R) (motive_2:=fun _=>PUnit) (fun _ d=>d) (fun _ _ _ d=>d) (fun _ _ d=>d) (fun _ _ d=>d) (fun _ _ _ _ _ _ d=>d) (fun _ d=>d) (fun _ _ d=>d) (fun _ _ _ d=>d) (fun _ d=>d) (fun _ _ _ _ _ _ d=>d) (fun _ _ _ _ _ d=>d) (fun _ _ _ _ _ d=>d) (fun _ _ d=>d) (fun _ d=>d) (fun _ _ _ d=>d) (fun vs _ K d=>K vs) ⟨⟩ (fun _ _ _ _=>⟨⟩) v
theorem C3(v:AV)(K:List AV->R)(d:R):HS v K d=match v with|.tuple vs=>K vs|_=>d:=by cases v<;>rfl
def iW(b:ABlk):(List AV->R)->R->R:=ABlk.rec (motive:=fun _=>(List AV->R)->R->R) (fun cs K d=>K cs) (fun _ _ d=>d) (fun _ _ _ _ d=>d) (fun _ _ _ d=>d) (fun _ _ _ _ _ d=>d) (fun _ _ _ _ _ _ _ d=>d) (fun _ d=>d) b
theorem wG(b:ABlk)(K:List AV->R)(d:R):iW b K d=match b with|.cells cs=>K cs|_=>d:=by cases b<;>rfl
def B2(b:ABlk):(LS->Option AJump->Env->List Nat->ACode->ACode->R)->R->R:=ABlk.rec (motive:=fun _=>(LS->Option AJump->Env->List Nat->ACode->ACode->R)->R->R) (fun _ _ d=>d) (fun _ _ d=>d) (fun _ _ _ _ d=>d) (fun _ _ _ d=>d) (fun _ _ _ _ _ d=>d) (fun s p e q a b K d=>K s p e q a b) (fun _ d=>d) b
theorem EV(b:ABlk)(K:LS->Option AJump->Env->List Nat->ACode->ACode->R)(d:R):B2 b K d=match b with|.loop s p e q a b=>K s p e q a b|_=>d:=by cases b<;>rfl
def LQ(k:IntKind):Bool:=IntKind.rec false false false true false false false false k
theorem S3{k:IntKind}(h:LQ k=true):k = .i64:=by cases k<;>first|rfl|(cases h;done)
def aG3(n:Int):(Nat->R)->R->R:=Int.rec (motive:=fun _=>(Nat->R)->R->R) (fun m K d=>K m) (fun _ _ d=>d) n
theorem Z2(n:Int)(K:Nat->R)(d:R):(∃ m:Nat,n=m/\aG3 n K d=K m)\/aG3 n K d=d:=by
 cases n with
 |ofNat m=>exact .inl ⟨m,rfl,rfl⟩
 |negSucc m=>exact .inr rfl
end
def dY{α R:Type}(d:R)(x:Option α)(K:α->R):R:=Option.rec d (fun y=>K y) x
theorem cC{α R:Type}(d:R)(x:Option α)(K:α->R):dY d x K=match x with|some y=>K y|none=>d:=by cases x<;>rfl
def lY{R:Type}(n:Nat)(K:Nat->R):R:=Nat.rec (K 0) (fun m _=>K (Nat.succ m)) n
theorem iR{R:Type}(n:Nat)(K:Nat->R):lY n K=K n:=by cases n<;>rfl
def odv(x:AOpd):Tre->AV:=AOpd.rec (fun t e=>Tre.get e t) (fun v _=>v) x
theorem fJ{env:Env}{e:Tre}(h:jF env e)(x:AOpd):odv x e=x.ev env:=by
 cases x with
 |t n=>exact (h n).symm
 |c v=>rfl
def NR(xs:List AOpd)(e:Tre):List AV:=List.rec [] (fun x _ ih=>odv x e::ih) xs
theorem uX{env:Env}{e:Tre}(h:jF env e):∀ xs:List AOpd,NR xs e=xs.map (·.ev env)
 |[]=>rfl
 |x::xs=>by rw[List.map_cons,<-uX h xs,<-fJ h];rfl
def GM(e:Tre)(ts:List Nat):Env:=List.rec [] (fun t _ ih=>(t,Tre.get e t)::ih) ts
theorem wH{env:Env}{e:Tre}(h:jF env e):∀ (ts:List Nat) (t:Nat),t∈ts->Env.get (GM e ts) t=Env.get env t
 |s::ts,t,ht=>by
  have e1:GM e (s::ts)=(s,Tre.get e s)::GM e ts:=rfl;rw[e1,Env.get];split
  ·rename_i hs;subst hs;exact (h _).symm
  ·rename_i hs;refine wH h ts t ?_;rcases List.mem_cons.1 ht with rfl|ht
   ·exact absurd rfl hs
   ·exact ht
inductive SS where
 |mk (n:Nat) (t:N16 (N16 (N16 (Option ABlk))))
def SS.len(s:SS):Nat:=SS.rec (fun n _=>n) s
def SS.tree(s:SS):N16 (N16 (N16 (Option ABlk))):=SS.rec (fun _ t=>t) s
def zO(t:N16 (N16 (N16 (Option ABlk))))(i:Nat):Option ABlk:=N16.sel (dig (Nat.mod i 16)) (N16.sel (dig (Nat.mod (Nat.div i 16) 16)) (N16.sel (dig (Nat.div i 256)) t))
def J9(t:N16 (N16 (N16 (Option ABlk))))(i:Nat)(b:Option ABlk):N16 (N16 (N16 (Option ABlk))) :=
 N16.put (dig (Nat.div i 256)) (N16.put (dig (Nat.mod (Nat.div i 16) 16)) (N16.put (dig (Nat.mod i 16)) b (N16.sel (dig (Nat.mod (Nat.div i 16) 16)) (N16.sel (dig (Nat.div i 256)) t))) (N16.sel (dig (Nat.div i 256)) t)) t
theorem BY(t:N16 (N16 (N16 (Option ABlk)))){i j:Nat}(b:Option ABlk)(hi:i<=4095)(hj:j<=4095):zO (J9 t i b) j=if i=j then b else zO t j:=by
 unfold zO J9;rw[N16.sel_put];by_cases h1:dig (Nat.div i 256)=dig (Nat.div j 256)
 ·have e1:i/256=j/256:=tY (by omega) (by omega) h1;rw[if_pos h1,N16.sel_put];by_cases h2:dig (Nat.mod (Nat.div i 16) 16)=dig (Nat.mod (Nat.div j 16) 16)
  ·have e2:i/16%16=j/16%16:=tY (Nat.mod_lt _ (by omega)) (Nat.mod_lt _ (by omega)) h2;rw[if_pos h2,N16.sel_put];by_cases h3:dig (Nat.mod i 16)=dig (Nat.mod j 16)
   ·have e3:i%16=j%16:=tY (Nat.mod_lt _ (by omega)) (Nat.mod_lt _ (by omega)) h3;rw[if_pos h3,if_pos (by omega)]
   ·rw[if_neg h3,if_neg (fun h=>h3 (by rw[h])),h2,h1]
  ·rw[if_neg h2,if_neg (fun h=>h2 (by rw[h])),h1]
 ·rw[if_neg h1,if_neg (fun h=>h1 (by rw[h]))]
def SS.get(s:SS)(i:Nat):Option ABlk:=cond (Nat.ble i 4095) (zO s.tree i) none
def SS.set(s:SS)(i:Nat)(b:ABlk):SS:=SS.rec (fun n t=>.mk n (J9 t i (some b))) s
def SS.new:SS:=.mk 0 (.all (.all (.all none)))
def AY{R:Type}(d:R)(s:SS)(b:ABlk)(K:SS->R):R:=SS.rec (fun n t=>cond (Nat.ble n 4095) (lY (Nat.add n 1) fun m=>K (.mk m (J9 t n (some b)))) d) s
def cL(σ:St)(s:SS):Prop:=σ.length=s.len/\∀ i,σ[i]? = s.get i
theorem cL.new:cL [] SS.new:=⟨rfl,fun i=>by
 simp only[SS.get,SS.new,SS.tree,zO,N16.sel_all]
 cases Nat.ble i 4095<;>rfl⟩
theorem cL.small{σ:St}{s:SS}(h:cL σ s){i:Nat}{b:ABlk}(hb:σ[i]? = some b):i<=4095:=by
 rw[h.2 i,SS.get] at hb;cases hi:Nat.ble i 4095 with
 |true=>exact Nat.le_of_ble_eq_true hi
 |false=>rw[hi] at hb;cases hb
theorem cL.set{σ:St}{s:SS}(h:cL σ s){i:Nat}{b0:ABlk}(hb:σ[i]? = some b0)(b:ABlk):cL (σ.set i b) (s.set i b):=by
 have hi:=h.small hb;have hl:=(List.getElem?_eq_some_iff.1 hb).1;obtain⟨n,t⟩:=s;refine⟨by rw[List.length_set];exact h.1,fun j=>?_⟩;have hj:=h.2 j;show _=cond (Nat.ble j 4095) (zO (J9 t i (some b)) j) none
 cases hjb:Nat.ble j 4095 with
 |true =>
  rw[cond_true,BY t (some b) hi (Nat.le_of_ble_eq_true hjb)];by_cases e:i=j
  ·subst e;rw[if_pos rfl,List.getElem?_set_self hl]
  ·rw[if_neg e,List.getElem?_set_ne e,hj];show cond (Nat.ble j 4095) (zO t j) none=_
   rw[hjb];rfl
 |false =>
  have e:i≠j:=fun e=>by subst e;rw[Nat.ble_eq_true_of_le hi] at hjb;cases hjb
  rw[List.getElem?_set_ne e,hj];show cond (Nat.ble j 4095) (zO t j) none=_
  rw[hjb];rfl
theorem pY{σ:St}{s:SS}{α:Type}{b:ABlk}{K:SS->Option α}{r:α}(h:cL σ s)(hr:AY none s b K=some r):∃ s',cL (σ++[b]) s'/\K s'=some r:=by
 obtain⟨n,t⟩:=s;have hr':cond (Nat.ble n 4095) (lY (Nat.add n 1) fun m=>K (.mk m (J9 t n (some b)))) none=some r:=hr;cases hn:Nat.ble n 4095 with
 |false=>rw[hn] at hr';cases hr'
 |true =>
  rw[hn,cond_true,iR] at hr';refine⟨_,⟨?_,fun j=>?_⟩,hr'⟩
  ·rw[List.length_append];have:=h.1;show σ.length+1=n+1;rw[this];rfl
  ·have hl:σ.length=n:=h.1;have hj:=h.2 j;show _=cond (Nat.ble j 4095) (zO (J9 t n (some b)) j) none
   cases hjb:Nat.ble j 4095 with
   |true =>
    rw[cond_true,BY t (some b) (Nat.le_of_ble_eq_true hn) (Nat.le_of_ble_eq_true hjb)];have hj':σ[j]? = zO t j:=by rw[hj];show cond (Nat.ble j 4095) (zO t j) none=_;rw[hjb];rfl
    by_cases e:n=j
    ·subst e;rw[if_pos rfl,List.getElem?_append_right (by omega)];simp[hl]
    ·rw[if_neg e,<-hj'];rcases Nat.lt_or_ge j n with q|q
     ·rw[List.getElem?_append_left (by omega)]
     ·rw[List.getElem?_append_right (by omega),List.getElem?_eq_none (by simp;omega),List.getElem?_eq_none (by omega)]
   |false =>
    have hn':=Nat.le_of_ble_eq_true hn;have hj4:4095<j:=by
     rcases Nat.lt_or_ge 4095 j with q|q
     ·exact q
     ·rw[Nat.ble_eq_true_of_le q] at hjb;cases hjb
    rw[List.getElem?_eq_none (by simp;omega)];rfl
def MA(s:SS)(n:Nat):Nat->List ABlk:=Nat.rec (motive:=fun _=>Nat->List ABlk) (fun _=>[]) (fun _ ih i=>dY [] (s.get i) fun b=>b::ih (Nat.add i 1)) n
def OM(s:SS):St:=MA s s.len 0
theorem HC{σ:St}{s:SS}(h:cL σ s):∀ (k i:Nat),i+k=σ.length->MA s k i=σ.drop i
 |0,i,hi=>by rw[List.drop_eq_nil_of_le (by omega)];rfl
 |k+1,i,hi=>by
  have e:MA s (k+1) i=dY [] (s.get i) fun b=>b::MA s k (i+1):=rfl
  rw[e,<-h.2 i,List.getElem?_eq_getElem (by omega),cC];simp only;rw[HC h k (i+1) (by omega)];exact (List.drop_eq_getElem_cons (by omega)).symm
theorem yI{σ:St}{s:SS}(h:cL σ s):OM s=σ:=by
 unfold OM;rw[HC h _ 0 (by rw[Nat.zero_add];exact h.1.symm)];rfl
def HH{α:Type}(σ:List ABlk):SS->(SS->Option α)->Option α:=List.rec (motive:=fun _=>SS->(SS->Option α)->Option α) (fun s K=>K s) (fun b _ ih s K=>AY none s b fun s=>ih s K) σ
theorem uY{α:Type}{K:SS->Option α}{r:α}:∀ {τ σ:St} {s:SS},cL σ s->HH τ s K=some r->∃ s',cL (σ++τ) s'/\K s'=some r
 |[],σ,s,h,hr=>⟨s,by rw[List.append_nil];exact h,hr⟩
 |b::τ,σ,s,h,hr=>by
  have hr':AY none s b (fun s=>HH τ s K)=some r:=hr;obtain⟨s',h1,h2⟩:=pY h hr';obtain⟨s2,h3,h4⟩:=uY h1 h2;exact⟨s2,by rw[List.append_assoc] at h3;exact h3,h4⟩
abbrev RR:=Option (AV×SS)
abbrev KV:=AV->SS->RR
def bv(r:Option AV)(s:SS)(K:KV):RR:=Option.rec none (fun v=>K v s) r
theorem jT(v:AV)(s:SS)(K:KV):bv (some v) s K=K v s:=rfl
theorem aOB{o:Option AV}{s:SS}{K:KV}{r:AV×SS}(h:bv o s K=some r):∃ v,o=some v/\K v s=some r:=by
 cases o with
 |none=>cases h
 |some v=>exact⟨v,rfl,h⟩
def bnd(r:RR)(K:KV):RR:=Option.rec none (fun p=>Prod.rec (fun v s=>K v s) p) r
theorem IR{r:RR}{K:KV}{x:AV×SS}(h:bnd r K=some x):∃ v s,r=some (v,s)/\K v s=some x:=by
 cases r with
 |none=>cases h
 |some p=>exact⟨p.1,p.2,rfl,h⟩
def bnO{R:Type}(r:Option (AV×St))(K:AV->St->Option R):Option R:=Option.rec none (fun p=>Prod.rec (fun v s=>K v s) p) r
theorem aCO{R:Type}{r:Option (AV×St)}{K:AV->St->Option R}{x:R}(h:bnO r K=some x):∃ v s,r=some (v,s)/\K v s=some x:=by
 cases r with
 |none=>cases h
 |some p=>exact⟨p.1,p.2,rfl,h⟩
def Did(q:AOp)(env:Env)(σ:St)(K:KV)(r:AV×SS):Prop:=∃ v σ' s',aop q env σ=some (v,σ')/\cL σ' s'/\K v s'=some r
theorem C6{q:AOp}{env:Env}{σ s:St}{v:AV}(hq:aop q env σ=some (v,s))(h1:q.acts=false)(h2:q.allocs=false):s=σ:=by
 cases q<;>simp only[AOp.acts,AOp.allocs] at h1 h2<;>first|(cases h1;done)|(cases h2;done)|skip
 all_goals
  simp only[aop] at hq
  repeat' split at hq
  all_goals first|(cases hq;done)|(cases hq;rfl)
def NH(q:AOp)(e:Tre)(s:SS)(K:KV):RR:=bnO (aop q (GM e q.tmps) (OM s)) fun v σ'=>cond (cond q.acts true q.allocs) (HH σ' SS.new fun s'=>K v s') (K v s)
theorem rQ{env:Env}{e:Tre}{σ:St}{s:SS}(h:jF env e)(hs:cL σ s){q:AOp}{K:KV}{r:AV×SS}(hr:NH q e s K=some r):Did q env σ K r:=by
 unfold NH at hr;rw[sA (fun t ht=>wH h _ t ht),yI hs] at hr;obtain⟨v,σ',h1,h2⟩:=aCO hr;cases ha:q.acts with
 |true =>
  rw[ha] at h2;obtain⟨s',h3,h4⟩:=uY cL.new h2;exact⟨v,σ',s',h1,h3,h4⟩
 |false =>
  cases hb:q.allocs with
  |true =>
   rw[ha,hb] at h2;obtain⟨s',h3,h4⟩:=uY cL.new h2;exact⟨v,σ',s',h1,h3,h4⟩
  |false =>
   rw[ha,hb] at h2;have:=C6 h1 ha hb;subst this;exact⟨v,σ',s,h1,hs,h2⟩
def mS(v:AV):List AV:=aEP v (fun cs=>cs) [v]
theorem nN(v:AV):mS v=v.cells:=by cases v<;>rfl
def JM(v:AV):Bool:=AV.rec (motive_1:=fun _=>Bool) (motive_2:=fun _=>PUnit) false (fun _ _=>true) (fun _=>true) (fun _=>true) (fun _ _ _ _ _=>true) true (fun _=>true) (fun _ _=>true) true (fun _ _ _ _ _=>true) (fun _ _ _ _=>true) (fun _ _ _ _=>true) (fun _=>true) true (fun _ _=>false) (fun _ _=>false) ⟨⟩ (fun _ _ _ _=>⟨⟩) v
theorem MT(v:AV):JM v=v.cell:=by cases v<;>rfl
theorem aNH(m n:Nat):(m==n)=Nat.beq m n:=by
 cases h:Nat.beq m n with
 |true=>simpa using Nat.eq_of_beq_eq_true h
 |false=>simpa using Nat.ne_of_beq_eq_false h
def DW(n:Nat)(v:AV):Bool:=cond (Nat.beq (mG (mS v)) n) (H7 JM (mS v)) false
theorem DH(n:Nat)(v:AV):DW n v=(v.cells.length==n&&v.cells.all (·.cell)):=by
 unfold DW;rw[gA,nN,D0];have e:JM=(·.cell):=funext MT;rw[e];cases h:Nat.beq v.cells.length n with
 |true=>have:(v.cells.length==n)=true:=(aNH _ _).trans h;rw[this];rfl
 |false=>have:(v.cells.length==n)=false:=(aNH _ _).trans h;rw[this];rfl
def rJ(sh:Option Nat):List AV->Nat->(AV->RR)->RR :=
 Option.rec (motive:=fun _=>List AV->Nat->(AV->RR)->RR) (fun cs off K=>dY none (nth cs off) K)
  (fun n cs off K=>cond (Nat.ble (Nat.add off n) (mG cs)) (cond (Nat.beq n (mG cs)) (K (.agg cs)) (K (.agg (PD (K0 cs off) n)))) none) sh
theorem tQ(sh:Option Nat)(cs:List AV)(off:Nat)(K:AV->RR):rJ sh cs off K=match cU sh cs off with|some v=>K v|none=>none:=by
 cases sh with
 |none=>unfold rJ cU;simp only[cC,wP];cases cs[off]?<;>rfl
 |some n =>
  unfold rJ cU;simp only[gA,HB,AZ];cases h:Nat.ble (Nat.add off n) cs.length with
  |true =>
   have h1:off+n<=cs.length:=Nat.le_of_ble_eq_true h;rw[if_pos h1];cases h2:Nat.beq n cs.length with
   |true =>
    have h3:n=cs.length:=Nat.eq_of_beq_eq_true h2;have h4:off=0:=by omega
    subst h4;subst h3;simp
   |false=>rfl
  |false =>
   have h1:¬off+n<=cs.length:=fun h'=>by rw[show Nat.ble (Nat.add off n) cs.length=true from Nat.ble_eq_true_of_le h'] at h;cases h
   rw[if_neg h1];rfl
def R7(sh:Option Nat)(s:SS)(v:AV)(K:KV):RR :=
 VP v (fun id off=>dY none (s.get id) fun b=>iW b (fun cs=>rJ sh cs off fun w=>K w s) none)
  (LG v (fun xs i off _=>dY none (nth xs i) fun x=>rJ sh (mS x) off fun w=>K w s) none)
theorem SL(sh:Option Nat){σ:St}{s:SS}(hs:cL σ s)(v:AV)(K:KV):R7 sh s v K=bv (gZ sh σ v) s K:=by
 unfold R7;cases v<;>simp only[yM,zV,gZ,aL,cC,wP,<-hs.2]<;>try rfl
 case ptr id off =>
  cases h:σ[id]? with
  |none=>rfl
  |some b =>
   simp only[wG];cases b<;>try rfl
   rename_i cs;simp only[tQ];cases cU sh cs off<;>rfl
 case lptr xs i off tk =>
  cases h:xs[i]? with
  |none=>rfl
  |some x =>
   simp only[tQ,nN];cases cU sh x.cells off<;>rfl
def wN(cs:List AV)(off:Nat)(v:AV):Option (List AV) :=
 cond (Nat.beq (mG (mS v)) 1) (cond (Nat.ble (Nat.add off 1) (mG cs)) (dY none (nth (mS v) 0) fun x=>some (aCJ x cs off)) none) (dF cs off (mS v))
theorem DU(cs:List AV)(off:Nat)(v:AV):wN cs off v=dF cs off v.cells:=by
 unfold wN;rw[gA,gA,nN];cases h:Nat.beq v.cells.length 1 with
 |false=>rfl
 |true =>
  have h1:v.cells.length=1:=Nat.eq_of_beq_eq_true h;obtain⟨x,hx⟩:∃ x,v.cells=[x]:=List.length_eq_one_iff.1 h1;rw[hx];simp only[cond_true,dF,List.length_cons,List.length_nil,wP,cC,MG];cases h2:Nat.ble (Nat.add off 1) cs.length with
  |true =>
   have h3:off+1<=cs.length:=Nat.le_of_ble_eq_true h2;rw[if_pos (by simpa using h3)];simp only[cond_true,List.getElem?_cons_zero];rw[List.set_eq_take_append_cons_drop,if_pos (by omega)];simp
  |false =>
   have h3:¬off+1<=cs.length:=fun h'=>by rw[show Nat.ble (Nat.add off 1) cs.length=true from Nat.ble_eq_true_of_le h'] at h2;cases h2
   rw[if_neg (by simpa using h3)];rfl
def I3(n:Nat)(s:SS)(a v:AV)(K:KV):RR :=
 VP a (fun id off=>cond (DW n v) (dY none (s.get id) fun b=>iW b (fun cs=>dY none (wN cs off v) fun cs'=>K (.tuple []) (s.set id (.cells cs'))) none) none) none
theorem MM{n:Nat}{σ:St}{s:SS}(hs:cL σ s){a v:AV}{K:KV}{r:AV×SS}(hr:I3 n s a v K=some r):∃ σ' s',i5 n σ a v=some σ'/\cL σ' s'/\K (.tuple []) s'=some r:=by
 unfold I3 at hr;cases a<;>simp only[yM] at hr<;>try (cases hr;done)
 rename_i id off;simp only[i5,aL];rw[DH] at hr;cases hf:(v.cells.length==n&&v.cells.all (·.cell)) with
 |false=>rw[hf] at hr;cases hr
 |true =>
  rw[hf,cond_true,cC,<-hs.2] at hr;simp only[if_true];cases h:σ[id]? with
  |none=>rw[h] at hr;cases hr
  |some b =>
   rw[h] at hr;simp only[wG] at hr;cases b<;>try (cases hr;done)
   rename_i cs;simp only[DU,cC] at hr ⊢;cases hc:dF cs off v.cells with
   |none=>rw[hc] at hr;cases hr
   |some cs'=>rw[hc] at hr;exact⟨_,_,rfl,hs.set h _,hr⟩
def big:Nat:=9223372036854775807
theorem cB{m:Nat}(h:Nat.ble m big=true):IntKind.i64.wrap (m:Int)=m:=by
 have h1:m<=9223372036854775807:=Nat.le_of_ble_eq_true h;unfold IntKind.wrap;have e1:(2^IntKind.i64.bits:Int)=18446744073709551616:=by decide
 have e2:(2^(IntKind.i64.bits-1):Int)=9223372036854775808:=by decide
 rw[e1,e2];have e3:(m:Int)%18446744073709551616=m:=by omega
 simp only[e3];rw[if_neg (by simp;omega)]
def F4(b:Bool)(s:SS)(K:KV):RR:=cond b (K (.bool true) s) (K (.bool false) s)
theorem sB(b:Bool)(s:SS)(K:KV):F4 b s K=K (.bool b) s:=by cases b<;>rfl
def EN(n:Nat)(s:SS)(K:KV):RR:=lY n fun n=>K (.int .i64 (.ofNat n)) s
theorem rU(n:Nat)(s:SS)(K:KV):EN n s K=K (.int .i64 n) s:=by unfold EN;rw[iR];rfl
abbrev FB:=Nat->Nat->SS->KV->RR->RR
def aBV:FB:=fun m n s K d=>cond (Nat.ble (Nat.add m n) big) (EN (Nat.add m n) s K) d
def aBC:FB:=fun m n s K d=>cond (Nat.ble n m) (cond (Nat.ble m big) (EN (Nat.sub m n) s K) d) d
def aB0:FB:=fun m n s K d=>cond (Nat.ble (Nat.mul m n) big) (EN (Nat.mul m n) s K) d
def aBE:FB:=fun m n s K d=>cond (Nat.beq n 0) d (cond (Nat.ble m big) (EN (Nat.div m n) s K) d)
def aA6:FB:=fun m n s K d=>cond (Nat.beq n 0) d (EN (Nat.mod m n) s K)
def aCB:FB:=fun m n s K d=>F4 (Nat.ble (Nat.add m 1) n) s K
def aAT:FB:=fun m n s K d=>F4 (Nat.ble m n) s K
def aB9:FB:=fun m n s K d=>F4 (Nat.ble (Nat.add n 1) m) s K
def aCC:FB:=fun m n s K d=>F4 (Nat.ble n m) s K
def w9:FB:=fun _ _ _ _ d=>d
def xU(op:BinOp):FB:=BinOp.rec aBV aBC aB0 aBE aA6 w9 w9 w9 w9 w9 w9 w9 w9 aCB aAT aB9 aCC op
def qR(op:BinOp)(s:SS)(x y:AV)(K:KV):RR:=bv (cA op x y) s K
theorem CO{m n:Nat}(h:Nat.ble m n=false):n<m:=by
 rcases Nat.lt_or_ge n m with h'|h'
 ·exact h'
 ·rw[Nat.ble_eq_true_of_le h'] at h;cases h
theorem yG(m n:Nat):Nat.ble m n=decide ((m:Int)<=n):=by
 cases h:Nat.ble m n with
 |true=>have:=Nat.le_of_ble_eq_true h;simp;omega
 |false=>have:=CO h;simp;omega
theorem W7(op:BinOp)(m n:Nat)(s:SS)(K:KV):xU op m n s K (qR op s (.int .i64 m) (.int .i64 n) K)=qR op s (.int .i64 m) (.int .i64 n) K:=by
 cases op<;>try rfl
 case add =>
  simp only[xU,aBV];cases h:Nat.ble (Nat.add m n) big with
  |false=>rfl
  |true =>
   simp only[cond_true,rU,qR,cA,eJ,if_true,jT];have:IntKind.i64.wrap ((m:Int)+n)=((Nat.add m n:Nat):Int):=by have:=cB h;rw[<-this];congr 1
   rw[this]
 case sub =>
  simp only[xU,aBC];cases h:Nat.ble n m with
  |false=>rfl
  |true =>
   cases h2:Nat.ble m big with
   |false=>rfl
   |true =>
    have h3:=Nat.le_of_ble_eq_true h;have h4:=Nat.le_of_ble_eq_true h2;have h5:Nat.ble (m-n) big=true:=Nat.ble_eq_true_of_le (by omega);simp only[cond_true,rU,qR,cA,eJ,if_true,jT];have:IntKind.i64.wrap ((m:Int)-n)=((Nat.sub m n:Nat):Int):=by
     have:=cB h5;rw[show ((Nat.sub m n:Nat):Int)=((m-n:Nat):Int) from rfl,<-this]
     congr 1
     omega
    rw[this]
 case mul =>
  simp only[xU,aB0];cases h:Nat.ble (Nat.mul m n) big with
  |false=>rfl
  |true =>
   simp only[cond_true,rU,qR,cA,eJ,if_true,jT];have:IntKind.i64.wrap ((m:Int)*n)=((Nat.mul m n:Nat):Int):=by have:=cB h;rw[<-this];congr 1
   rw[this]
 case quo =>
  simp only[xU,aBE];cases h:Nat.beq n 0 with
  |true=>rfl
  |false =>
   have h1:n≠0:=Nat.ne_of_beq_eq_false h;cases h2:Nat.ble m big with
   |false=>rfl
   |true =>
    have h4:=Nat.le_of_ble_eq_true h2;have h5:Nat.ble (m/n) big=true:=Nat.ble_eq_true_of_le (Nat.le_trans (Nat.div_le_self _ _) h4);have h6:¬((n:Int)=0):=by omega
    simp only[cond_true,cond_false,rU,qR,cA,eJ,if_true,if_neg h6,jT];have:IntKind.i64.wrap ((m:Int).tdiv n)=((Nat.div m n:Nat):Int):=by
     have:=cB h5;rw[show ((Nat.div m n:Nat):Int)=((m/n:Nat):Int) from rfl,<-this]
     congr 1
    rw[this]
 case rem =>
  simp only[xU,aA6];cases h:Nat.beq n 0 with
  |true=>rfl
  |false =>
   have h1:n≠0:=Nat.ne_of_beq_eq_false h;have h6:¬((n:Int)=0):=by omega
   simp only[cond_false,rU,qR,cA,eJ,if_true,if_neg h6,jT];rfl
 case lss =>
  simp only[xU,aCB,sB,yG,qR,cA,eJ,if_true,jT];rfl
 case leq =>
  simp only[xU,aAT,sB,yG,qR,cA,eJ,if_true,jT]
 case gtr =>
  simp only[xU,aB9,sB,yG,qR,cA,eJ,if_true,jT];rfl
 case geq =>
  simp only[xU,aCC,sB,yG,qR,cA,eJ,if_true,jT];try rfl
def F7(x:AV):Option Nat:=AV.rec (motive_1:=fun _=>Option Nat) (motive_2:=fun _=>PUnit) none (fun k n=>cond (LQ k) (Int.rec (fun m=>some m) (fun _=>none) n) none) (fun _=>none) (fun _=>none) (fun _ _ _ _ _=>none) none (fun _=>none) (fun _ _=>none) none (fun _ _ _ _ _=>none) (fun _ _ _ _=>none) (fun _ _ _ _=>none) (fun _=>none) none (fun _ _=>none) (fun _ _=>none) ⟨⟩ (fun _ _ _ _=>⟨⟩) x
theorem GP{x:AV}{m:Nat}(h:F7 x=some m):x = .int .i64 m:=by
 cases x<;>try (cases h;done)
 rename_i k n;have h':cond (LQ k) (Int.rec (fun m=>some m) (fun _=>none) n:Option Nat) none=some m:=h;cases hk:LQ k with
 |false=>rw[hk] at h';cases h'
 |true =>
  rw[hk] at h';cases S3 hk;cases n with
  |ofNat q=>cases h';rfl
  |negSucc q=>cases h'
def WB(x y:AV)(K:Nat->Nat->RR)(d:RR):RR:=dY d (F7 x) fun m=>dY d (F7 y) fun n=>K m n
theorem KP(x y:AV)(K:Nat->Nat->RR)(d:RR):(∃ m n:Nat,x = .int .i64 m/\y = .int .i64 n/\WB x y K d=K m n)\/WB x y K d=d:=by
 unfold WB;cases hx:F7 x with
 |none=>right;rfl
 |some m =>
  cases hy:F7 y with
  |none=>right;rfl
  |some n=>left;exact⟨m,n,GP hx,GP hy,rfl⟩
def aEK(op:BinOp)(s:SS)(x y:AV)(K:KV):RR:=WB x y (fun m n=>xU op m n s K (qR op s x y K)) (qR op s x y K)
theorem XB(op:BinOp)(s:SS)(x y:AV)(K:KV):aEK op s x y K=qR op s x y K:=by
 unfold aEK;rcases KP x y (fun m n=>xU op m n s K (qR op s x y K)) (qR op s x y K) with⟨m,n,rfl,rfl,h⟩|h
 ·rw[h];exact W7 op m n s K
 ·exact h
def F3(sh:EqTy)(neg:Bool)(s:SS)(x y:AV)(K:KV):RR:=bv (match gK sh x y with|some b=>some (.bool (if neg then !b else b))|none=>none) s K
def aEX(sh:EqTy)(neg:Bool)(s:SS)(x y:AV)(K:KV):RR :=
 EqTy.rec (fun k=>SK.rec (WB x y (fun m n=>F4 (cond neg (not (Nat.beq m n)) (Nat.beq m n)) s K) (F3 sh neg s x y K)) (F3 sh neg s x y K) (F3 sh neg s x y K) k) (fun _=>F3 sh neg s x y K) sh
theorem PZ(m n:Nat):Nat.beq m n=((m:Int)==n):=by
 cases h:Nat.beq m n with
 |true=>have:=Nat.eq_of_beq_eq_true h;subst this;simp
 |false=>have:=Nat.ne_of_beq_eq_false h;symm;simp;omega
theorem Y4(sh:EqTy)(neg:Bool)(s:SS)(x y:AV)(K:KV):aEX sh neg s x y K=F3 sh neg s x y K:=by
 unfold aEX;cases sh with
 |agg ks=>rfl
 |one k =>
  cases k<;>try rfl
  simp only;rcases KP x y (fun m n=>F4 (cond neg (not (Nat.beq m n)) (Nat.beq m n)) s K) (F3 (.one .i) neg s x y K) with⟨m,n,rfl,rfl,h⟩|h
  ·rw[h,sB];simp only[F3,gK,eV,if_true,jT,PZ];cases neg<;>rfl
  ·exact h
def SP(s:SS)(y:AV):Option (List AV) :=
 wE y (fun ys _ _=>some ys) (ST y (fun id off l z=>dY none (s.get id) fun b=>iW b (fun cs=>cond (Nat.ble (Nat.add off (Nat.mul l z)) (mG cs)) (some (BL z l (K0 cs off))) none) none) none)
theorem PB{σ:St}{s:SS}(hs:cL σ s)(y:AV):SP s y=kT σ y:=by
 unfold SP;cases y<;>simp only[u4,DG,kT];rename_i id off l z;simp only[cC,<-hs.2,aL];cases σ[id]? with
 |none=>rfl
 |some b =>
  simp only[wG];cases b<;>try rfl
  rename_i cs;simp only[gA,AZ];cases h:Nat.ble (Nat.add off (Nat.mul l z)) cs.length with
  |true=>have h':off+l*z<=cs.length:=Nat.le_of_ble_eq_true h;rw[if_pos h'];rfl
  |false=>have h':cs.length<off+l*z:=CO h;rw[if_neg (by omega)];rfl
theorem LH(n:Nat)(xs:List AV):H7 (DW n) xs=aF n xs:=by
 have h1:DW n=fun x=>x.cells.length==n&&x.cells.all (·.cell):=funext fun x=>DH n x
 rw[D0,h1];rfl
def aNM{R:Type}(b:ABlk):(Nat->Nat->R)->R->R:=ABlk.rec (motive:=fun _=>(Nat->Nat->R)->R->R) (fun _ _ d=>d) (fun _ _ d=>d) (fun sz n _ K d=>K sz n) (fun _ _ _ d=>d) (fun _ _ _ _ _ d=>d) (fun _ _ _ _ _ _ _ d=>d) (fun _ d=>d) b
theorem XP{R:Type}(b:ABlk)(K:Nat->Nat->R)(d:R):aNM b K d=match b with|.tok sz n _=>K sz n|_=>d:=by cases b<;>rfl
def GB:Nat:=140737488355328
theorem GC:GB=room:=by decide
def aA2(sz:Nat)(s:SS)(xs ys:List AV)(full:Bool)(tk:Option Nat)(m:Nat)(K:KV):RR :=
 cond full (lY s.len fun n=>AY none s (.tok sz m true) fun s'=>K (.lit (J0 xs ys) false (some n)) s')
  (dY none tk fun t=>dY none (s.get t) fun b=>aNM b (fun sz' n=>cond (Nat.beq sz' sz) (cond (Nat.beq n (mG xs)) (K (.lit (J0 xs ys) false (some t)) (s.set t (.tok sz m true))) none) none) none)
def EI(sz bytes:Nat)(s:SS)(x y:AV)(K:KV):RR :=
 wE x (fun xs full tk=>dY none (SP s y) fun ys=>cond (Nat.beq (mG ys) 0) (K (.lit xs full tk) s)
  (cond (pW sz y) (cond (H7 (DW sz) xs) (cond (H7 (DW sz) ys) (lY (Nat.add (mG xs) (mG ys)) fun m=>cond (Nat.ble (Nat.mul m bytes) GB) (cond (Nat.ble m GB) (aA2 sz s xs ys full tk m K) none) none) none) none) none)) none
theorem HW{sz bytes:Nat}{σ:St}{s:SS}(hs:cL σ s){x y:AV}{K:KV}{r:AV×SS}(hr:EI sz bytes s x y K=some r):∃ v σ' s',bT sz bytes σ x y=some (v,σ')/\cL σ' s'/\K v s'=some r:=by
 unfold EI at hr;rw[u4] at hr;split at hr
 ·rename_i xs full tk;rw[cC,PB hs] at hr;split at hr
  ·rename_i ys hv;simp only[gA,LH,iR] at hr;have h0:bT sz bytes σ (.lit xs full tk) y=if ys.length=0 then some (.lit xs full tk,σ) else
    if (pW sz y&&aF sz xs&&aF sz ys&&decide ((xs.length+ys.length)*bytes<=room)&&decide (xs.length+ys.length<=room))=true then
     if full=true then some (.lit (xs++ys) false (some σ.length),σ++[.tok sz (xs.length+ys.length) true])
     else match tk with
      |some t=>match σ[t]? with
       |some (.tok sz' n _)=>if sz'=sz/\n=xs.length then some (.lit (xs++ys) false (some t),σ.set t (.tok sz (xs.length+ys.length) true)) else none
       |_=>none
      |none=>none
    else none:=by unfold bT;rw[hv];rfl
   rw[h0];cases hz:Nat.beq ys.length 0 with
   |true=>rw[hz] at hr;rw[if_pos (Nat.eq_of_beq_eq_true hz)];exact⟨_,σ,s,rfl,hs,hr⟩
   |false =>
    rw[hz] at hr;rw[if_neg (Nat.ne_of_beq_eq_false hz)];simp only[cond_false] at hr;cases c1:pW sz y with
    |false=>rw[c1] at hr;cases hr
    |true =>
    cases c2:aF sz xs with
    |false=>rw[c1,c2] at hr;cases hr
    |true =>
    cases c3:aF sz ys with
    |false=>rw[c1,c2,c3] at hr;cases hr
    |true =>
    rw[c1,c2,c3] at hr;simp only[cond_true] at hr;cases c4:Nat.ble (Nat.mul (Nat.add xs.length ys.length) bytes) GB with
    |false=>rw[c4] at hr;cases hr
    |true =>
    cases c5:Nat.ble (Nat.add xs.length ys.length) GB with
    |false=>rw[c4,c5] at hr;cases hr
    |true =>
    rw[c4,c5] at hr;simp only[cond_true] at hr;have d4:(xs.length+ys.length)*bytes<=room:=by rw[<-GC];exact Nat.le_of_ble_eq_true c4
    have d5:xs.length+ys.length<=room:=by rw[<-GC];exact Nat.le_of_ble_eq_true c5
    rw[if_pos (by simp[d4,d5])];unfold aA2 at hr;cases full with
    |true =>
     simp only[cond_true,iR,oP,if_true] at hr ⊢;obtain⟨s',h1,h2⟩:=pY hs hr;rw[<-hs.1] at h2;exact⟨_,_,s',rfl,h1,h2⟩
    |false =>
     simp only[cond_false,cC,oP,<-hs.2,gA] at hr;rw[if_neg (by simp)];cases tk with
     |none=>cases hr
     |some t =>
      simp only at hr ⊢;cases hb:σ[t]? with
      |none=>rw[hb] at hr;cases hr
      |some b =>
       rw[hb] at hr;simp only[XP] at hr;cases b<;>try (cases hr;done)
       rename_i sz' n ex;simp only at hr ⊢;cases e1:Nat.beq sz' sz with
       |false=>rw[e1] at hr;cases hr
       |true =>
        cases e2:Nat.beq n xs.length with
        |false=>rw[e1,e2] at hr;cases hr
        |true =>
         rw[e1,e2] at hr;rw[if_pos ⟨Nat.eq_of_beq_eq_true e1,Nat.eq_of_beq_eq_true e2⟩];exact⟨_,_,_,rfl,hs.set hb _,hr⟩
  ·cases hr
 ·cases hr
abbrev CC:=AV->List AV->SS->RR
abbrev Arm:=CC->Tre->SS->KV->RR
def hJ(q:AOp):Arm:=fun _ e s K=>NH q e s K
def aMQ(x:AOpd):Arm:=fun _ e s K=>K (odv x e) s
def aAW(c a b:AOpd):Arm:=fun _ e s K=>xL (odv c e) (fun t=>cond t (K (odv a e) s) (K (odv b e) s)) none
def RO(z:List AV):Arm:=fun _ e s K=>lY s.len fun n=>AY none s (.cells z) fun s'=>K (.ptr n 0) s'
def aHX(n:Nat)(x:AOpd):Arm:=fun _ e s K=>cond (DW n (odv x e)) (lY s.len fun n=>AY none s (.cells (mS (odv x e))) fun s'=>K (.ptr n 0) s') none
def aE8(z:List AV)(ps:List (Nat×Nat×AOpd)):Arm:=hJ (.build z ps)
def UB(sz:Nat)(xs:List AOpd):Arm:=fun _ e s K=>cond (H7 (DW sz) (NR xs e)) (K (.lit (NR xs e) true none) s) none
def aE5(sz:Nat)(xs:List AOpd):Arm:=hJ (.mkref sz xs)
def aBG(sh:Option Nat)(x:AOpd):Arm:=fun _ e s K=>R7 sh s (odv x e) K
def QM(n:Nat)(a x:AOpd):Arm:=fun _ e s K=>I3 n s (odv a e) (odv x e) K
def C1(x:AOpd):Arm:=fun _ e s K=>VP (odv x e) (fun i o=>K (.ptr i o) s) (LG (odv x e) (fun xs i o t=>K (.lptr xs i o t) s) (L4 (odv x e) (fun f a b=>K (.func f a b) s) (JV (odv x e) (fun i=>K (.yield i) s) none)))
def aOP(op:BinOp)(x y:AOpd):Arm:=fun _ e s K=>aEK op s (odv x e) (odv y e) K
def aK8(sh:EqTy)(neg:Bool)(x y:AOpd):Arm:=fun _ e s K=>aEX sh neg s (odv x e) (odv y e) K
def aH3(x:AOpd):Arm:=fun _ e s K=>xL (odv x e) (fun b=>F4 (not b) s K) none
def aP3(x:AOpd):Arm:=hJ (.neg x)
def aIJ(k:IntKind)(x:AOpd):Arm:=hJ (.conv k x)
def V6(f:FuncId)(a b:List AOpd):Arm:=fun _ e s K=>K (.func f (NR a e) (NR b e)) s
def aFJ:Arm:=hJ .mkmap
def VD(z:List AV)(n:Nat)(l c:AOpd):Arm:=hJ (.mkslice z n l c)
def YB(sz:Nat)(x:AOpd)(l h m:Option AOpd):Arm:=hJ (.slicev sz x l h m)
def XX(n sz:Nat)(x:AOpd)(l h:Option AOpd):Arm:=hJ (.slicea n sz x l h)
def TA(x:AOpd)(off:Nat):Arm:=fun _ e s K=>VP (odv x e) (fun i o=>K (.ptr i (Nat.add o off)) s) (LG (odv x e) (fun xs i o t=>K (.lptr xs i (Nat.add o off) t) s) none)
def TG(x:AOpd)(off:Nat)(sh:Option Nat):Arm:=fun _ e s K=>aEP (odv x e) (fun cs=>rJ sh cs off fun w=>K w s) none
def JP(sz:Nat)(x i:AV)(s:SS)(K:KV)(d:RR):RR :=
 aHY i (fun _ n=>aG3 n (fun j=>wE x (fun xs _ t=>dY none (nth xs j) fun y=>cond (Nat.beq (mG (mS y)) sz) (K (.lptr xs j 0 t) s) none)
  (ST x (fun id off len sz'=>cond (Nat.beq sz' sz) (cond (Nat.ble (Nat.add j 1) len) (lY (Nat.add off (Nat.mul j sz)) fun o=>K (.ptr id o) s) none) none) d)) d) d
def TT(arr:Option Nat)(sz:Nat)(x i:AOpd):Arm :=
 Option.rec (motive:=fun _=>Arm) (fun _ e s K=>JP sz (odv x e) (odv i e) s K (NH (.iaddr none sz x i) e s K)) (fun n=>hJ (.iaddr (some n) sz x i)) arr
def aC0(n sz:Nat)(sh:Option Nat)(x i:AOpd):Arm:=hJ (.index n sz sh x i)
def W2(x i:AOpd):Arm:=hJ (.sindex x i)
def XT(sh:EqTy)(ok:Bool)(z:AV)(m k:AOpd):Arm:=hJ (.lookup sh ok z m k)
def W5(sh:EqTy)(m k v:AOpd):Arm:=hJ (.mapset sh m k v)
def YA(x:AOpd):Arm:=hJ (.srange x)
def aEA(x:AOpd):Arm:=hJ (.snext x)
def X9(x:AOpd):Arm:=hJ (.mrange x)
def aDZ(x:AOpd):Arm:=fun _ _ _ _=>none
def aCW(x:AOpd):Arm:=hJ (.entry x)
def aNE(x:AOpd)(i:Nat):Arm:=fun _ e s K=>HS (odv x e) (fun vs=>dY none (nth vs i) fun v=>K v s) none
def aLZ(x:AV)(s:SS)(K:KV)(d:RR):RR:=wE x (fun xs _ _=>EN (mG xs) s K) (ST x (fun _ _ l _=>K (.int .i64 (.ofNat l)) s) d)
def aMB(k:Nat)(x:AOpd):Arm:=fun _ e s K=>cond (Nat.beq k 1) (aLZ (odv x e) s K (NH (.len k x) e s K)) (NH (.len k x) e s K)
def LA(sz bytes:Nat)(x y:AOpd):Arm:=fun _ e s K=>EI sz bytes s (odv x e) (odv y e) K
def aCY(sz bytes:Nat)(x y:AOpd):Arm:=hJ (.apref sz bytes x y)
def aJE(sz:Nat)(x y:AOpd):Arm:=hJ (.copy sz x y)
def aQ2(xs:List AOpd):Arm:=hJ (.min xs)
def aS9(xs:List AOpd):Arm:=hJ (.max xs)
def Q5(f:AOpd)(args:List AOpd):Arm:=fun C e s K=>bnd (C (odv f e) (NR args e) s) K
def fI(q:AOp):Arm:=AOp.rec (motive:=fun _=>Arm) aMQ aAW RO aHX aE8 UB aE5 aBG QM C1 aOP aK8 aH3 aP3 aIJ V6 aFJ VD YB XX TA TG TT aC0 W2 XT W5 YA aEA X9 aDZ aCW aNE aMB LA aCY aJE aQ2 aS9 Q5 q
theorem OS{sz:Nat}{x i:AOpd}{env:Env}{σ:St}{s:SS}{K:KV}{d:RR}{r:AV×SS}(hs:cL σ s)(hd:d=some r->Did (.iaddr none sz x i) env σ K r)(hr:JP sz (x.ev env) (i.ev env) s K d=some r):Did (.iaddr none sz x i) env σ K r:=by
 unfold JP at hr;unfold Did at hd ⊢;simp only[aop] at hd ⊢;generalize i.ev env=iv at *;generalize x.ev env=xv at *;cases iv<;>try exact hd hr
 rename_i k n;simp only[ZU] at hr
 rcases Z2 n (fun j=>wE xv (fun xs _ t=>dY none (nth xs j) fun y=>cond (Nat.beq (mG (mS y)) sz) (K (.lptr xs j 0 t) s) none)
  (ST xv (fun id off len sz'=>cond (Nat.beq sz' sz) (cond (Nat.ble (Nat.add j 1) len) (lY (Nat.add off (Nat.mul j sz)) fun o=>K (.ptr id o) s) none) none) d)) d with⟨j,rfl,h⟩|h
 ·rw[h] at hr;cases xv<;>try exact hd hr
  case lit xs fl tk =>
   simp only[u4,cC,wP,gA,nN] at hr;simp only[eE,Int.toNat_natCast];cases hx:xs[j]? with
   |none=>rw[hx] at hr;cases hr
   |some y =>
    rw[hx] at hr;simp only at hr ⊢;cases hb:Nat.beq y.cells.length sz with
    |true =>
     rw[hb] at hr;have:y.cells.length=sz:=Nat.eq_of_beq_eq_true hb;rw[if_pos ⟨by omega,this⟩];exact⟨_,σ,s,rfl,hs,hr⟩
    |false=>rw[hb] at hr;cases hr
  case ref id off len sz' =>
   simp only[u4,DG,iR] at hr;simp only[eE,Int.toNat_natCast];cases hb:Nat.beq sz' sz with
   |true =>
    have e1:sz'=sz:=Nat.eq_of_beq_eq_true hb;cases hl:Nat.ble (Nat.add j 1) len with
    |true =>
     rw[hb,hl] at hr;have e2:j+1<=len:=Nat.le_of_ble_eq_true hl;rw[if_pos ⟨by omega,by omega,e1⟩];exact⟨_,σ,s,rfl,hs,hr⟩
    |false=>rw[hb,hl] at hr;cases hr
   |false=>rw[hb] at hr;cases hr
 ·rw[h] at hr;exact hd hr
theorem did{q:AOp}{env:Env}{σ:St}{s:SS}{K:KV}{r:AV×SS}{o:Option AV}(hs:cL σ s)(ha:aop q env σ=match o with|some v=>some (v,σ)|none=>none)(hr:bv o s K=some r):Did q env σ K r:=by
 obtain⟨v,rfl,h⟩:=aOB hr;exact⟨v,σ,s,ha,hs,h⟩
theorem qD{C:CC}{q:AOp}{env:Env}{e:Tre}{σ:St}{s:SS}{K:KV}{r:AV×SS}(h:jF env e)(hs:cL σ s)(hq:∀ f args,q≠.call f args)(hr:fI q C e s K=some r):Did q env σ K r:=by
 cases q
 case mov x=>simp only[fI,aMQ,fJ h] at hr;exact⟨_,σ,s,rfl,hs,hr⟩
 case pick c a b =>
  simp only[fI,aAW,fJ h,qN] at hr;split at hr
  ·rename_i t hc;cases t<;>exact⟨_,σ,s,by simp only[aop,hc],hs,hr⟩
  ·cases hr
 case alloc z =>
  simp only[fI,RO,iR] at hr;obtain⟨s',h1,h2⟩:=pY hs hr;rw[<-hs.1] at h2;exact⟨_,_,s',rfl,h1,h2⟩
 case box n x =>
  simp only[fI,aHX,fJ h,iR,DH,nN] at hr;cases hc:((x.ev env).cells.length==n&&(x.ev env).cells.all (·.cell)) with
  |false=>rw[hc] at hr;cases hr
  |true =>
   rw[hc] at hr;obtain⟨s',h1,h2⟩:=pY hs hr;rw[<-hs.1] at h2;exact⟨_,_,s',by simp only[aop];rw[if_pos hc],h1,h2⟩
 case mklit sz xs =>
  simp only[fI,UB,uX h,LH] at hr;cases hc:aF sz (xs.map (·.ev env)) with
  |false=>rw[hc] at hr;cases hr
  |true=>rw[hc] at hr;exact⟨_,σ,s,by simp only[aop];rw[if_pos hc],hs,hr⟩
 case load sh x =>
  simp only[fI,aBG,fJ h,SL sh hs] at hr;exact did hs rfl hr
 case store n a x =>
  simp only[fI,QM,fJ h] at hr;obtain⟨σ',s',h1,h2,h3⟩:=MM hs hr;exact⟨_,σ',s',by simp only[aop,h1],h2,h3⟩
 case nilCheck x =>
  simp only[fI,C1,fJ h,yM,zV,zX,CK] at hr;cases hx:x.ev env<;>rw[hx] at hr<;>first|(cases hr;done)|exact⟨_,σ,s,by simp only[aop,hx],hs,hr⟩
 case bin op x y =>
  simp only[fI,aOP,fJ h,XB,qR] at hr;exact did hs rfl hr
 case eql sh neg x y =>
  simp only[fI,aK8,fJ h,Y4,F3] at hr;refine did hs ?_ hr;simp only[aop];cases gK sh (x.ev env) (y.ev env)<;>rfl
 case not x =>
  simp only[fI,aH3,fJ h,qN,sB] at hr;cases hx:x.ev env<;>rw[hx] at hr<;>first|(cases hr;done)|exact⟨_,σ,s,by simp only[aop,hx],hs,hr⟩
 case mkfun f a b=>simp only[fI,V6,uX h] at hr;exact⟨_,σ,s,rfl,hs,hr⟩
 case faddr x off =>
  simp only[fI,TA,fJ h,yM,zV] at hr;cases hx:x.ev env<;>rw[hx] at hr<;>first|(cases hr;done)|exact⟨_,σ,s,by simp only[aop,hx];rfl,hs,hr⟩
 case field x off sh =>
  simp only[fI,TG,fJ h,ZV,tQ] at hr;cases hx:x.ev env<;>rw[hx] at hr<;>try (cases hr;done)
  rename_i cs;simp only at hr;cases hc:cU sh cs off with
  |none=>rw[hc] at hr;cases hr
  |some v=>rw[hc] at hr;exact⟨v,σ,s,by simp only[aop,hx,hc],hs,hr⟩
 case iaddr arr sz x i =>
  cases arr with
  |none=>simp only[fI,TT,fJ h] at hr;exact OS hs (fun hd=>rQ h hs hd) hr
  |some n=>exact rQ h hs hr
 case ext x i =>
  simp only[fI,aNE,fJ h,C3,cC,wP] at hr;cases hx:x.ev env<;>rw[hx] at hr<;>try (cases hr;done)
  rename_i vs;simp only at hr;cases hc:vs[i]? with
  |none=>rw[hc] at hr;cases hr
  |some v=>rw[hc] at hr;exact⟨v,σ,s,by simp only[aop,hx,hc],hs,hr⟩
 case len k x =>
  simp only[fI,aMB,fJ h] at hr;cases hk:Nat.beq k 1 with
  |false=>rw[hk] at hr;exact rQ h hs hr
  |true =>
   have:=Nat.eq_of_beq_eq_true hk;subst this;simp only[hk,cond_true,aLZ,u4,DG,rU,gA] at hr;cases hx:x.ev env<;>rw[hx] at hr<;>first|exact rQ h hs hr|exact⟨_,σ,s,by first|(simp only[aop,hx,gD];done)|(simp only[aop,hx,gD];rfl),hs,hr⟩
 case append sz bytes x y =>
  simp only[fI,LA,fJ h] at hr;exact HW hs hr
 case mnext x=>cases hr
 case call f args=>exact absurd rfl (hq _ _)
 case mkmap=>exact rQ (q:=.mkmap) h hs hr
 all_goals exact rQ h hs hr
abbrev KE:=Tre->SS->RR
def uL(d:Option Nat)(v:AV)(e:Tre)(K:Tre->RR):RR:=Option.rec (K e) (fun t=>cond (Nat.ble t 255) (K (Tre.put e t v)) none) d
theorem jV{d:Option Nat}{v:AV}{e:Tre}{K:Tre->RR}{r:AV×SS}{env:Env}(h:jF env e)(hr:uL d v e K=some r):∃ e',jF (Env.put env d v) e'/\K e'=some r:=by
 cases d with
 |none=>exact⟨e,h,hr⟩
 |some t =>
  simp only[uL] at hr;cases ht:Nat.ble t 255 with
  |false=>rw[ht] at hr;cases hr
  |true=>rw[ht] at hr;exact⟨_,h.put t v ht,hr⟩
def D5(v:AV)(w:Bool)(A B:Unit->RR):RR:=xL v (fun b=>cond b (cond w (A ()) (B ())) (cond w (B ()) (A ()))) (HS v (fun vs=>List.rec (B ()) (fun _ _ _=>none) vs) none)
def aBS(v:AV)(w:Bool):Option Bool:=match v with|.bool b=>some (b==w)|.tuple []=>some false|_=>none
theorem MP{v:AV}{w:Bool}{A B:Unit->RR}{r:AV×SS}(h:D5 v w A B=some r):
  (aBS v w=some true/\A ()=some r)\/(aBS v w=some false/\B ()=some r):=by
 unfold D5 at h;simp only[qN,C3] at h;cases v<;>try (cases h;done)
 case bool b=>simp only at h;cases b<;>cases w<;>first|exact .inl ⟨rfl,h⟩|exact .inr ⟨rfl,h⟩
 case tuple vs =>
  simp only at h;cases vs with
  |nil=>exact .inr ⟨rfl,h⟩
  |cons x xs=>exact absurd h (by simp)
def E8(g:Option (Nat×Bool))(e:Tre)(A B:Unit->RR):RR:=Option.rec (A ()) (fun p=>Prod.rec (fun t w=>D5 (Tre.get e t) w A B) p) g
theorem FG{o:AOper}{env:Env}{e:Tre}{A B:Unit->RR}{r:AV×SS}(h:jF env e)(hr:E8 o.guard e A B=some r):
  (o.wanted env=some true/\A ()=some r)\/(o.wanted env=some false/\B ()=some r):=by
 obtain⟨dst,q,g⟩:=o;cases g with
 |none=>exact .inl ⟨rfl,hr⟩
 |some p =>
  obtain⟨t,w⟩:=p;have:=MP (show D5 (Tre.get e t) w A B=some r from hr);rw[<-h t] at this;exact this
def aKF(C:CC)(o:AOper)(e:Tre)(s:SS)(K:KE):RR :=
 AOper.rec (fun dst q g=>E8 g e (fun _=>fI q C e s fun v s'=>uL dst v e fun e'=>K e' s') (fun _=>uL dst (.tuple []) e fun e'=>K e' s)) o
def WW(C:CC)(os:List AOper):Tre->SS->KE->RR:=List.rec (motive:=fun _=>Tre->SS->KE->RR) (fun e s K=>K e s) (fun o _ ih e s K=>aKF C o e s fun e s=>ih e s K) os
variable {T:FuncId->Option AFunc}
abbrev RD:=Nat->SS->Bool
def chk(r:RR):Bool:=Option.rec false (fun _=>true) r
def ZG(C:CC)(q:AOp)(lo hi:Nat)(e:Tre)(v:AV):RD:=fun j s =>
 cond (cond (Nat.ble lo j) (Nat.ble j hi) false) (chk (fI q C e s fun w _=>cond (eqVF 100000 w v) (some (.undef,SS.new)) none)) true
def QQ(rd:RD)(hist:List SS):Nat->Bool:=List.rec (motive:=fun _=>Nat->Bool) (fun _=>true) (fun s _ ih j=>cond (rd j s) (ih (Nat.add j 1)) false) hist
theorem LP(rd:RD):∀ (hist:List SS) (k:Nat),QQ rd hist k=true->∀ j s,hist[j]? = some s->rd (k+j) s=true
 |[],k,_,j,s,h=>by simp at h
 |t::hist,k,h,j,s,hs=>by
  have h':cond (rd k t) (QQ rd hist (k+1)) false=true:=h;cases hr:rd k t with
  |false=>rw[hr] at h';cases h'
  |true =>
   rw[hr] at h';cases j with
   |zero=>simp at hs;subst hs;exact hr
   |succ j=>have:=LP rd hist (k+1) h' j s (by simpa using hs);rw[show k+(j+1)=k+1+j from by omega];exact this
def zP(rds:List RD)(hist:List SS):Bool:=List.rec true (fun rd _ ih=>cond (QQ rd hist 0) ih false) rds
def aI8(rd:RD)(r:ARead):Prop:=∀ j σ s,cL σ s->r.lo<=j->j<=r.hi->rd j s=true->aop r.op r.env σ=some (r.v,σ)
def vS(hist:List St)(hs:List SS):Prop:=hist.length=hs.length/\∀ (j:Nat) (σ:St),hist[j]? = some σ->∃ s,hs[j]? = some s/\cL σ s
theorem vS.snoc{hist:List St}{hs:List SS}(h:vS hist hs){σ:St}{s:SS}(hl:cL σ s):vS (hist++[σ]) (Ex.snoc s hs):=by
 rw[MF];refine⟨by simp[h.1],fun j τ hj=>?_⟩;rcases Nat.lt_or_ge j hist.length with q|q
 ·rw[List.getElem?_append_left q] at hj;rw[List.getElem?_append_left (by rw[<-h.1];exact q)];exact h.2 j τ hj
 ·rw[List.getElem?_append_right q] at hj;have e:j=hist.length:=by
   rcases Nat.lt_or_ge (j-hist.length) 1 with q'|q'
   ·omega
   ·rw[List.getElem?_eq_none (by simpa using q')] at hj;cases hj
  subst e;simp only[Nat.sub_self,List.getElem?_cons_zero,Option.some.injEq] at hj;subst hj;rw[h.1,List.getElem?_append_right (Nat.le_refl _)];exact⟨s,by simp,hl⟩
def VB:List RD->List ARead->Prop
 |[],[]=>True
 |rd::rds,r::rs=>aI8 rd r/\VB rds rs
 |_,_=>False
theorem B3{hist:List St}{hs:List SS}(hh:vS hist hs):∀ {rds:List RD} {rs:List ARead},VB rds rs->zP rds hs=true->∀ r∈rs,ARead.ok r hist
 |[],[],_,_,r,hm=>by cases hm
 |rd::rds,r0::rs,h,hk,r,hm=>by
  have hk':cond (QQ rd hs 0) (zP rds hs) false=true:=hk;cases h0:QQ rd hs 0 with
  |false=>rw[h0] at hk';cases hk'
  |true =>
   rw[h0] at hk';rcases List.mem_cons.1 hm with rfl|hm
   ·intro j σ h1 h2 h3;obtain⟨s,h4,h5⟩:=hh.2 j σ h3;have:=LP rd hs 0 h0 j s h4;rw[Nat.zero_add] at this;exact h.1 j σ s h5 h1 h2 this
   ·exact B3 hh h.2 hk' r hm
 |[],_::_,h,_,_,_=>h.elim
 |_::_,[],h,_,_,_=>h.elim
theorem XO{C:CC}{q:AOp}{lo hi:Nat}{env:Env}{e:Tre}{v:AV}(h:jF env e)(hq:q.reads=true):aI8 (ZG C q lo hi e v) ⟨lo,hi,q,env,v⟩:=by
 intro j σ s hs h1 h2 h3;simp only[ZG] at h3;rw[show Nat.ble lo j=true from Nat.ble_eq_true_of_le h1,show Nat.ble j hi=true from Nat.ble_eq_true_of_le h2] at h3;simp only[cond_true] at h3;cases hx:fI q C e s (fun w _=>cond (eqVF 100000 w v) (some (.undef,SS.new)) none) with
 |none=>rw[hx] at h3;cases h3
 |some r =>
  obtain⟨w,σ',s',d1,d2,d3⟩:=qD h hs (fun f args e=>by subst e;cases hq) hx;cases he:eqVF 100000 w v with
  |false=>have d4:cond (eqVF 100000 w v) (some (AV.undef,SS.new)) none=some r:=d3;rw[he] at d4;cases d4
  |true=>rw[d1,eqVF_ok _ _ _ he,CQ hq d1]
abbrev KD:=Tre->SS->Nat->List SS->List RD->RR
def SX(C:CC)(dst:Option Nat)(q:AOp)(lo hi:Nat)(e:Tre)(s:SS)(next:Nat)(hist:List SS)(rds:List RD)(K:KD):RR :=
 cond q.allocs (uL dst (.ptr next 0) e fun e'=>K e' s (Nat.add next 1) hist rds)
  (cond q.acts (fI q C e s fun v s'=>uL dst v e fun e'=>K e' s' next (snoc s' hist) rds)
   (cond q.reads (fI q C e s fun v _=>uL dst v e fun e'=>K e' s next hist (ZG C q lo hi e v::rds))
    (fI q C e s fun v _=>uL dst v e fun e'=>K e' s next hist rds)))
def FN(C:CC)(ds:List ADOper):Tre->SS->Nat->List SS->List RD->KE->RR :=
 List.rec (motive:=fun _=>Tre->SS->Nat->List SS->List RD->KE->RR) (fun e s _ hist rds K=>cond (zP rds hist) (K e s) none)
  (fun d _ ih e s next hist rds K=>ADOper.rec (fun o lo hi=>AOper.rec (fun dst q g=>E8 g e (fun _=>SX C dst q lo hi e s next hist rds fun e s next hist rds=>ih e s next hist rds K)
  (fun _=>uL dst (.tuple []) e fun e'=>ih e' s (cond q.allocs (Nat.add next 1) next) (cond q.acts (snoc s hist) hist) rds K)) o) d) ds
theorem GH{σ σ':St}{l:Nat}(h:KeepS σ σ' l):KeepS σ σ' 0:=h.weak (Nat.zero_le _)
theorem m5{σ σ1 σ2:St}(h:KeepS σ σ1 0)(k:KeepS σ1 σ2 0):KeepS σ σ2 0:=GH (h.trans k)
def uB(T:FuncId->Option AFunc)(C:CC):Prop:=∀ f args σ s v s',cL σ s->C f args s=some (v,s')->∃ σ',cL σ' s'/\KeepS σ σ' 0/\Run T (.callv f args σ) fun r=>r.v=v/\r.σ=σ'
theorem yL{C:CC}(hC:uB T C):∀ {os:List AOper} {env:Env} {e:Tre} {σ:St} {s:SS} {K:KE} {r:AV×SS},jF env e->cL σ s->WW C os e s K=some r ->
  ∃ env' e' σ' s',KeepS σ σ' 0/\Run T (.ops os env σ) (fun o=>o=⟨none,env',σ',.undef⟩)/\jF env' e'/\cL σ' s'/\K e' s'=some r
 |[],env,e,σ,s,K,r,h,hs,hr=>⟨env,e,σ,s,.refl _ _,.nil rfl,h,hs,hr⟩
 |o::os,env,e,σ,s,K,r,h,hs,hr=>by
  obtain⟨dst,q,g⟩:=o;have hr':E8 g e (fun _=>fI q C e s fun v s'=>uL dst v e fun e'=>WW C os e' s' K) (fun _=>uL dst (.tuple []) e fun e'=>WW C os e' s K)=some r:=hr;rcases FG (o:=⟨dst,q,g⟩) h hr' with⟨hw,h1⟩|⟨hw,h1⟩
  ·by_cases hc:∃ f args,q = .call f args
   ·obtain⟨f,args,rfl⟩:=hc;simp only[fI,Q5,fJ h,uX h] at h1;obtain⟨v,s1,h2,h3⟩:=IR h1;obtain⟨σ1,q1,k1,r1⟩:=hC _ _ _ _ _ _ hs h2;obtain⟨e',he',h4⟩:=jV h h3;obtain⟨env2,e2,σ2,s2,k2,r2,l2,y2,x2⟩:=yL hC he' q1 h4;exact⟨env2,e2,σ2,s2,m5 k1 k2,.stepc hw rfl r1 (fun r' hr'=>by rw[hr'.1,hr'.2];exact r2),l2,y2,x2⟩
   ·obtain⟨v,σ1,s1,h2,q1,h3⟩:=qD h hs (fun f args e=>hc ⟨f,args,e⟩) h1;obtain⟨e',he',h4⟩:=jV h h3;obtain⟨env2,e2,σ2,s2,k2,r2,l2,y2,x2⟩:=yL hC he' q1 h4;exact⟨env2,e2,σ2,s2,m5 (GH (FD h2)) k2,.step hw h2 r2,l2,y2,x2⟩
  ·obtain⟨e',he',h4⟩:=jV h h1;obtain⟨env2,e2,σ2,s2,k2,r2,l2,y2,x2⟩:=yL hC he' hs h4;exact⟨env2,e2,σ2,s2,k2,.off hw r2,l2,y2,x2⟩
theorem lH{C:CC}(hC:uB T C):∀ {ds:List ADOper} {env:Env} {e:Tre} {σ:St} {s:SS} {next:Nat} {hist:List St} {hss:List SS} {rds:List RD} {rs:List ARead} {K:KE} {r:AV×SS},jF env e->cL σ s->vS hist hss->VB rds rs ->
  FN C ds e s next hss rds K=some r->∃ env' e' σ' s',KeepS σ σ' 0/\Run T (.dops ds env σ next hist rs) (fun o=>o=⟨none,env',σ',.undef⟩)/\jF env' e'/\cL σ' s'/\K e' s'=some r
 |[],env,e,σ,s,next,hist,hss,rds,rs,K,r,h,hs,hh,hrd,hr=>by
  have hr':cond (zP rds hss) (K e s) none=some r:=hr;cases hk:zP rds hss with
  |false=>rw[hk] at hr';cases hr'
  |true=>rw[hk] at hr';exact⟨env,e,σ,s,.refl _ _,.dnil (B3 hh hrd hk) rfl,h,hs,hr'⟩
 |d::ds,env,e,σ,s,next,hist,hss,rds,rs,K,r,h,hs,hh,hrd,hr=>by
  obtain⟨⟨dst,q,g⟩,lo,hi⟩:=d;have hr':E8 g e (fun _=>SX C dst q lo hi e s next hss rds fun e s next hist rds=>FN C ds e s next hist rds K)
   (fun _=>uL dst (.tuple []) e fun e'=>FN C ds e' s (cond q.allocs (Nat.add next 1) next) (cond q.acts (snoc s hss) hss) rds K)=some r:=hr
  rcases FG (o:=⟨dst,q,g⟩) h hr' with⟨hw,h1⟩|⟨hw,h1⟩
  ·unfold SX at h1;cases hal:q.allocs with
   |true =>
    rw[hal] at h1;simp only[cond_true] at h1;obtain⟨e',he',h4⟩:=jV h h1;obtain⟨env2,e2,σ2,s2,k2,r2,l2,y2,x2⟩:=lH hC he' hs hh hrd h4;cases q<;>first|(cases hal;done)|skip
    exact⟨env2,e2,σ2,s2,k2,.dalloc hw rfl r2,l2,y2,x2⟩
   |false =>
    rw[hal] at h1;cases hac:q.acts with
    |true =>
     rw[hac] at h1;simp only[cond_true,cond_false] at h1;by_cases hc:∃ f args,q = .call f args
     ·obtain⟨f,args,rfl⟩:=hc;simp only[fI,Q5,fJ h,uX h] at h1;obtain⟨v,s1,h2,h3⟩:=IR h1;obtain⟨σ1,q1,k1,r1⟩:=hC _ _ _ _ _ _ hs h2;obtain⟨e',he',h4⟩:=jV h h3;obtain⟨env2,e2,σ2,s2,k2,r2,l2,y2,x2⟩:=lH hC he' q1 (hh.snoc q1) hrd h4;exact⟨env2,e2,σ2,s2,m5 k1 k2,.dcall hw rfl r1 r2,l2,y2,x2⟩
     ·obtain⟨v,σ1,s1,h2,q1,h3⟩:=qD h hs (fun f args e=>hc ⟨f,args,e⟩) h1;obtain⟨e',he',h4⟩:=jV h h3;obtain⟨env2,e2,σ2,s2,k2,r2,l2,y2,x2⟩:=lH hC he' q1 (hh.snoc q1) hrd h4;exact⟨env2,e2,σ2,s2,m5 (GH (FD h2)) k2,.dact hw hac h2 r2,l2,y2,x2⟩
    |false =>
     rw[hac] at h1;have hnc:∀ f args,q≠.call f args:=fun f args e=>by subst e;cases hac
     cases hre:q.reads with
     |true =>
      rw[hre] at h1;simp only[cond_true,cond_false] at h1;obtain⟨v,σ1,s1,h2,q1,h3⟩:=qD h hs hnc h1;obtain⟨e',he',h4⟩:=jV h h3;have hs1:=CQ hre h2;subst hs1;obtain⟨env2,e2,σ2,s2,k2,r2,l2,y2,x2⟩:=lH hC he' hs hh (rds:=ZG C q lo hi e v::rds) (rs:=⟨lo,hi,q,env,v⟩::rs) ⟨XO h hre,hrd⟩ h4;exact⟨env2,e2,σ2,s2,k2,.dread hw hre h2 r2,l2,y2,x2⟩
     |false =>
      rw[hre] at h1;simp only[cond_false] at h1;obtain⟨v,σ1,s1,h2,q1,h3⟩:=qD h hs hnc h1;obtain⟨e',he',h4⟩:=jV h h3;have hs1:=C6 h2 hac hal;subst hs1;obtain⟨env2,e2,σ2,s2,k2,r2,l2,y2,x2⟩:=lH hC he' hs hh hrd h4;exact⟨env2,e2,σ2,s2,k2,.dpure hw (by rw[hac,hal,hre];rfl) h2 r2,l2,y2,x2⟩
  ·obtain⟨e',he',h4⟩:=jV h h1;have e1:(cond q.allocs (Nat.add next 1) next)=if q.allocs then next+1 else next:=by cases q.allocs<;>rfl
   have hh':vS (if q.acts then hist++[σ] else hist) (cond q.acts (snoc s hss) hss):=by
    cases q.acts with
    |true=>exact hh.snoc hs
    |false=>exact hh
   rw[e1] at h4;obtain⟨env2,e2,σ2,s2,k2,r2,l2,y2,x2⟩:=lH hC he' hs hh' hrd h4;exact⟨env2,e2,σ2,s2,k2,.doff hw r2,l2,y2,x2⟩
def DX(v:AV):Bool:=AV.rec (motive_1:=fun _=>Bool) (motive_2:=fun _=>PUnit) true (fun _ _=>false) (fun _=>false) (fun _=>false) (fun _ _ _ _ _=>false) false (fun _=>false) (fun _ _=>false) false (fun _ _ _ _ _=>false) (fun _ _ _ _=>false) (fun _ _ _ _=>false) (fun _=>false) false (fun _ _=>false) (fun _ _=>false) ⟨⟩ (fun _ _ _ _=>⟨⟩) v
def AS(e:Tre)(n:Nat):Env:=Nat.rec [] (fun t ih=>cond (DX (Tre.get e t)) ih ((t,Tre.get e t)::ih)) n
theorem AW(e:Tre)(t:Nat):∀ n,Env.get (AS e n) t=if t<n then Tre.get e t else .undef
 |0=>rfl
 |n+1=>by
  have ih:=AW e t n;have e1:AS e (n+1)=cond (DX (Tre.get e n)) (AS e n) ((n,Tre.get e n)::AS e n):=rfl;rw[e1];cases hu:DX (Tre.get e n) with
  |true =>
   have hv:Tre.get e n = .undef:=by
    cases hg:Tre.get e n<;>first|rfl|(rw[hg] at hu;cases hu)
   simp only[cond_true,ih];by_cases h1:t<n
   ·rw[if_pos h1,if_pos (by omega)]
   ·rw[if_neg h1];by_cases h2:t=n
    ·subst h2;rw[if_pos (by omega),hv]
    ·rw[if_neg (by omega)]
  |false =>
   simp only[cond_false,Env.get,ih];by_cases h2:n=t
   ·subst h2;rw[if_pos rfl,if_pos (by omega)]
   ·rw[if_neg h2];by_cases h1:t<n
    ·rw[if_pos h1,if_pos (by omega)]
    ·rw[if_neg h1,if_neg (by omega)]
def K9(e:Tre):Env:=AS e 256
theorem tP(e:Tre):jF (K9 e) e:=fun t=>by
 unfold K9;rw[AW];split
 ·rfl
 ·rename_i h;unfold Tre.get;cases hb:Nat.ble t 255 with
  |true=>have:=Nat.le_of_ble_eq_true hb;omega
  |false=>rfl
def DM(env:Env):Bool:=List.rec true (fun p _ ih=>cond (Nat.ble p.1 255) ih false) env
def aBU(env:Env):Tre:=List.rec Tre.none (fun p _ ih=>Tre.put ih p.1 p.2) env
theorem y8:∀ {env:Env},DM env=true->jF env (aBU env)
 |[],_=>fun t=>(Tre.get_none t).symm
 |(k,v)::env,h=>by
  have h':cond (Nat.ble k 255) (DM env) false=true:=h;cases hk:Nat.ble k 255 with
  |false=>rw[hk] at h';cases h'
  |true=>rw[hk] at h';exact (y8 h').put k v hk
def lV(args:List AV):Nat->Tre:=List.rec (motive:=fun _=>Nat->Tre) (fun _=>Tre.none) (fun v _ ih k=>Tre.put (ih (Nat.add k 1)) k v) args
theorem qE:∀ {args:List AV} {k:Nat},k+args.length<=256->jF (dX k args) (lV args k)
 |[],k,_=>fun t=>(Tre.get_none t).symm
 |v::args,k,h=>by
  have h1:k+1+args.length<=256:=by simp only[List.length_cons] at h;omega
  exact (qE h1).put k v (Nat.ble_eq_true_of_le (by simp only[List.length_cons] at h;omega))
def Q4(ps:List Nat):List AV->Tre->(Tre->RR)->RR:=List.rec (motive:=fun _=>List AV->Tre->(Tre->RR)->RR) (fun _ e K=>K e) (fun p _ ih args e K=>List.rec (K e) (fun v vs _=>uL (some p) v e fun e'=>ih vs e' K) args) ps
theorem HE:∀ {ps:List Nat} {args:List AV} {env:Env} {e:Tre} {K:Tre->RR} {r:AV×SS},jF env e->Q4 ps args e K=some r->∃ e',jF (iH env ps args) e'/\K e'=some r
 |[],args,env,e,K,r,h,hr=>⟨e,h,hr⟩
 |p::ps,[],env,e,K,r,h,hr=>⟨e,h,hr⟩
 |p::ps,v::vs,env,e,K,r,h,hr=>by
  have hr':uL (some p) v e (fun e'=>Q4 ps vs e' K)=some r:=hr;obtain⟨e',he',h1⟩:=jV h hr';simp only[iH];exact HE he' h1
abbrev KJ2:=Option AJump->Tre->SS->RR
abbrev CF:=FuncId->List AV->SS->RR
abbrev s7:=CC->CF->Tre->SS->KJ2->RR
def aMH:s7:=fun _ _ e s K=>K none e s
def aPK(os:List AOper):s7:=fun C _ e s K=>WW C os e s (K none)
def aMX(ds:List ADOper):s7:=fun C _ e s K=>HH (cG ds) s fun s1=>FN C ds e s1 s.len [s1] [] (K none)
def P0(A B:KJ2):KJ2:=fun j e s=>Option.rec (A none e s) (fun j=>B (some j) e s) j
def aR0(iha ihb:s7):s7:=fun C F e s K=>iha C F e s (P0 (fun _ e s=>ihb C F e s K) K)
def aHI(c:AOpd)(iha ihb:s7):s7:=fun C F e s K=>xL (odv c e) (fun t=>cond t (iha C F e s K) (ihb C F e s K)) none
def aLN(id:Nat)(K:KJ2):KJ2:=fun j e s=>Option.rec (K none e s) (fun q=>AJump.rec (K (some .ret) e s) (fun i=>cond (Nat.beq i id) (K none e s) (K (some (.exit i)) e s)) q) j
def aFV(id:Nat)(ihb:s7):s7:=fun C F e s K=>ihb C F e s (aLN id K)
def MB(B:Tre->SS->KJ2->RR)(K:KJ2)(n:Nat):Tre->SS->RR:=Nat.rec (motive:=fun _=>Tre->SS->RR) (fun _ _=>none) (fun _ ih e s=>B e s (P0 (fun _ e s=>ih e s) K)) n
def aLW(ihb:s7):s7:=fun C F e s K=>MB (ihb C F) K 1000000 e s
def lsK(s:LS)(A:RR):RR:=LS.rec A none A s
def H1(f:AOpd)(ps:List Nat)(a b:ACode):s7:=fun _ F e s K =>
 L4 (odv f e) (fun g first cap=>lY s.len fun n=>AY none s (.loop .ready none (K9 e) ps a b) fun s0=>bnd (F g (J0 (J0 first [.yield n]) cap) s0) fun _ s1 =>
  dY none (s1.get n) fun blk=>B2 blk (fun st pend _ _ _ _=>lsK st (K pend e (s1.set n .dead))) none) none
def aLG(j:AJump):s7:=fun _ _ e s K=>K (some j) e s
def zZ(c:ACode):s7:=ACode.rec (motive:=fun _=>s7) aMH aPK aMX (fun _ _ iha ihb=>aR0 iha ihb) (fun c _ _ iha ihb=>aHI c iha ihb) (fun id _ ihb=>aFV id ihb) (fun _ ihb=>aLW ihb) (fun f ps a b _ _=>H1 f ps a b) aLG (fun _ ihb=>ihb) c
def FOk(T:FuncId->Option AFunc)(F:CF):Prop:=∀ f args σ s v s',cL σ s->F f args s=some (v,s')->∃ σ',cL σ' s'/\KeepS σ σ' 0/\Run T (.call f args σ) fun r=>r.v=v/\r.σ=σ'
def aF8(T:FuncId->Option AFunc)(c:ACode)(env:Env)(σ:St)(K:KJ2)(r:AV×SS):Prop :=
 ∃ j env' e' σ' s',KeepS σ σ' 0/\Run T (.code c env σ) (fun o=>o=⟨j,env',σ',.undef⟩)/\jF env' e'/\cL σ' s'/\K j e' s'=some r
theorem RU{C:CC}{F:CF}(hC:uB T C)(hF:FOk T F):∀ (c:ACode) {env:Env} {e:Tre} {σ:St} {s:SS} {K:KJ2} {r:AV×SS},jF env e->cL σ s->zZ c C F e s K=some r->aF8 T c env σ K r:=by
 intro c
 induction c with
 |skip=>intro env e σ s K r h hs hr;exact⟨none,env,e,σ,s,.refl _ _,.skip rfl,h,hs,hr⟩
 |reg os =>
  intro env e σ s K r h hs hr;obtain⟨env2,e2,σ2,s2,k2,r2,l2,y2,x2⟩:=yL hC h hs hr;exact⟨none,env2,e2,σ2,s2,k2,.reg r2,l2,y2,x2⟩
 |dreg ds =>
  intro env e σ s K r h hs hr;have hr':HH (cG ds) s (fun s1=>FN C ds e s1 s.len [s1] [] (K none))=some r:=hr;obtain⟨s1,q1,q2⟩:=uY hs hr';rw[<-hs.1] at q2
  obtain⟨env2,e2,σ2,s2,k2,r2,l2,y2,x2⟩:=lH hC h q1 (hist:=[σ++cG ds]) ⟨rfl,fun j τ hj=>by
   cases j with
   |zero=>simp only[List.getElem?_cons_zero,Option.some.injEq] at hj;subst hj;exact⟨s1,rfl,q1⟩
   |succ j=>simp at hj⟩ (rds:=[]) (rs:=[]) trivial q2
  exact⟨none,env2,e2,σ2,s2,m5 (.app _ _ _) k2,.dreg r2,l2,y2,x2⟩
 |seq a b iha ihb =>
  intro env e σ s K r h hs hr;obtain⟨j,env1,e1,σ1,s1,k1,r1,l1,y1,x1⟩:=iha h hs hr;cases j with
  |none =>
   obtain⟨j,env2,e2,σ2,s2,k2,r2,l2,y2,x2⟩:=ihb l1 y1 x1;exact⟨j,env2,e2,σ2,s2,m5 k1 k2,.seq r1 (fun o ho _=>by subst ho;exact r2) fun o ho hj=>by subst ho;exact absurd rfl hj,l2,y2,x2⟩
  |some j=>exact⟨some j,env1,e1,σ1,s1,k1,.seq r1 (fun o ho hj=>by subst ho;cases hj) fun o ho hj=>ho,l1,y1,x1⟩
 |cond x a b iha ihb =>
  intro env e σ s K r h hs hr;have hr':xL (odv x e) (fun t=>cond t (zZ a C F e s K) (zZ b C F e s K)) none=some r:=hr;rw[qN,fJ h] at hr';split at hr'
  ·rename_i t hx;cases t with
   |true =>
    obtain⟨j,env2,e2,σ2,s2,k2,r2,l2,y2,x2⟩:=iha h hs hr';exact⟨j,env2,e2,σ2,s2,k2,.cond true hx r2,l2,y2,x2⟩
   |false =>
    obtain⟨j,env2,e2,σ2,s2,k2,r2,l2,y2,x2⟩:=ihb h hs hr';exact⟨j,env2,e2,σ2,s2,k2,.cond false hx r2,l2,y2,x2⟩
  ·cases hr'
 |block id b ihb =>
  intro env e σ s K r h hs hr;obtain⟨j,env',e',σ',s',k,r1,he',hs',h1⟩:=ihb h hs hr;cases j with
  |none=>exact⟨none,env',e',σ',s',k,.block r1 fun o ho=>by subst ho;simp,he',hs',h1⟩
  |some q =>
   cases q with
   |ret=>exact⟨some .ret,env',e',σ',s',k,.block r1 fun o ho=>by subst ho;simp,he',hs',h1⟩
   |exit i =>
    have h1':cond (Nat.beq i id) (K none e' s') (K (some (.exit i)) e' s')=some r:=h1;cases hi:Nat.beq i id with
    |true =>
     have:=Nat.eq_of_beq_eq_true hi;subst this;rw[hi] at h1';exact⟨none,env',e',σ',s',k,.block r1 fun o ho=>by subst ho;simp,he',hs',h1'⟩
    |false =>
     have:=Nat.ne_of_beq_eq_false hi;rw[hi] at h1';exact⟨some (.exit i),env',e',σ',s',k,.block r1 fun o ho=>by subst ho;simp[this],he',hs',h1'⟩
 |loop b ihb =>
  intro env e σ s K r h hs hr;have key:∀ n {env:Env} {e:Tre} {σ:St} {s:SS},jF env e->cL σ s->MB (zZ b C F) K n e s=some r->aF8 T (.loop b) env σ K r:=by
   intro n
   induction n with
   |zero=>intro env e σ s h hs hr;cases hr
   |succ n ih =>
    intro env e σ s h hs hr;obtain⟨j,env1,e1,σ1,s1,k1,r1,l1,y1,x1⟩:=ihb (K:=P0 (fun _ e s=>MB (zZ b C F) K n e s) K) h hs hr;cases j with
    |none =>
     obtain⟨j,env2,e2,σ2,s2,k2,r2,l2,y2,x2⟩:=ih l1 y1 x1;exact⟨j,env2,e2,σ2,s2,m5 k1 k2,.loop r1 (fun o ho _=>by subst ho;exact r2) fun o ho hj=>by subst ho;exact absurd rfl hj,l2,y2,x2⟩
    |some j=>exact⟨some j,env1,e1,σ1,s1,k1,.loop r1 (fun o ho hj=>by subst ho;cases hj) fun o ho hj=>ho,l1,y1,x1⟩
  exact key 1000000 h hs (show MB (zZ b C F) K 1000000 e s=some r from hr)
 |rangeFunc f ps a b _ _ =>
  intro env e σ s K r h hs hr;have hr':H1 f ps a b C F e s K=some r:=hr;unfold H1 at hr';rw[zX,fJ (tP e)] at hr';split at hr'
  ·rename_i g first cap hf
   rw[iR] at hr';obtain⟨s0,q0,hr'⟩:=pY hs hr';obtain⟨v,s1,h1,h2⟩:=IR hr';rw[oP,oP,<-hs.1] at h1;obtain⟨σ1,q1,k1,r1⟩:=hF _ _ _ _ _ _ q0 h1;simp only[<-hs.1,cC,EV,<-q1.2] at h2;split at h2
   ·rename_i blk hb;split at h2
    ·rename_i st pend env' ps' a' b';have hst:st≠.busy:=fun hst=>by subst hst;cases h2
     have h3:K pend e (s1.set σ.length .dead)=some r:=by cases st<;>first|exact h2|exact absurd rfl hst
     refine⟨pend,K9 e,e,σ1.set σ.length .dead,s1.set σ.length .dead,⟨?_,fun i hi=>absurd hi (Nat.not_lt_zero _),fun i st2 pe2 env2 ps2 x y hlt q=>?_⟩,.reenv (fun t=>by rw[h t,tP e t]) (.rangeFunc hf r1 fun o ho=>?_),tP e,q1.set hb _,h3⟩
     ·have:=k1.len;simp at this ⊢;omega
     ·rw[List.getElem?_set_ne (by omega)] at q;obtain⟨st',pe',q'⟩:=k1.loops i st2 pe2 env2 ps2 x y (by simp;omega) q;rw[List.getElem?_append_left hlt] at q';exact⟨st',pe',q'⟩
     ·obtain⟨rfl,hσ⟩:=ho;subst hσ;exact⟨st,pend,env',ps',a',b',hb,hst,rfl⟩
    ·cases h2
   ·cases h2
  ·cases hr'
 |jump j=>intro env e σ s K r h hs hr;exact⟨some j,env,e,σ,s,.refl _ _,.jump rfl,h,hs,hr⟩
 |scope b ihb =>
  intro env e σ s K r h hs hr;obtain⟨j,env2,e2,σ2,s2,k2,r2,l2,y2,x2⟩:=ihb h hs hr;exact⟨j,env2,e2,σ2,s2,k2,.scope r2,l2,y2,x2⟩
def VL:AV->Bool:=AV.rec (motive_1:=fun _=>Bool) (motive_2:=fun _=>Bool) true (fun _ _=>true) (fun _=>true) (fun _=>true) (fun _ _ _ x y=>cond x y false) true (fun _=>false) (fun _ _=>false) true (fun _ _ _ tk x=>Option.rec x (fun _=>false) tk) (fun _ _ tk x=>Option.rec x (fun _=>false) tk) (fun _ _ _ _=>false) (fun _=>false) true (fun _ x=>x) (fun _ x=>x) true (fun _ _ x y=>cond x y false)
def sS:List AV->Bool:=AV.rec_1 (motive_1:=fun _=>Bool) (motive_2:=fun _=>Bool) true (fun _ _=>true) (fun _=>true) (fun _=>true) (fun _ _ _ x y=>cond x y false) true (fun _=>false) (fun _ _=>false) true (fun _ _ _ tk x=>Option.rec x (fun _=>false) tk) (fun _ _ tk x=>Option.rec x (fun _=>false) tk) (fun _ _ _ _=>false) (fun _=>false) true (fun _ x=>x) (fun _ x=>x) true (fun _ _ x y=>cond x y false)
mutual
theorem datA_ok:∀ v:AV,VL v=true->okV 0 v
 |.undef,_|.int _ _,_|.bool _,_|.str _,_|.nilFunc,_|.nilPtr,_|.nilMap,_=>trivial
 |.func f a b,h=>by
  have h':cond (sS a) (sS b) false=true:=h;cases ha:sS a with
  |false=>rw[ha] at h';cases h'
  |true=>rw[ha] at h';exact⟨datAs_ok a ha,datAs_ok b h'⟩
 |.yield i,h|.ptr i _,h|.ref i _ _ _,h|.map i,h=>by cases h
 |.lptr xs i o tk,h=>by
  cases tk with
  |none=>exact⟨fun t e=>(by cases e),datAs_ok xs h⟩
  |some t=>cases h
 |.lit xs fl tk,h=>by
  cases tk with
  |none=>exact⟨fun t e=>(by cases e),datAs_ok xs h⟩
  |some t=>cases h
 |.agg cs,h=>datAs_ok cs h
 |.tuple cs,h=>datAs_ok cs h
theorem datAs_ok:∀ vs:List AV,sS vs=true->okVs 0 vs
 |[],_=>trivial
 |v::vs,h=>by
  have h':cond (VL v) (sS vs) false=true:=h;cases ha:VL v with
  |false=>rw[ha] at h';cases h'
  |true=>rw[ha] at h';exact⟨datA_ok v ha,datAs_ok vs h'⟩
end
def aAB(σ:St)(rf:List AV->Option (List AV))(id off len sz:Nat):Option AV :=
 dY none (kT σ (.ref id off len sz)) fun xs=>cond (decide (0<sz)&&aF sz xs) (dY none (rf xs) fun ys=>some (.lit ys false none)) none
def aG4(σ:St)(rf:List AV->Option (List AV)):AV->Option AV:=AV.rec (motive_1:=fun _=>Option AV) (motive_2:=fun _=>Option (List AV))
 (some .undef) (fun k n=>some (.int k n)) (fun b=>some (.bool b)) (fun s=>some (.str s)) (fun f _ _ x y=>dY none x fun x=>dY none y fun y=>some (.func f x y)) (some .nilFunc) (fun _=>none) (fun _ _=>none) (some .nilPtr)
 (fun _ i o _ x=>dY none x fun x=>some (.lptr x i o none)) (fun _ fl _ x=>dY none x fun x=>some (.lit x fl none)) (fun id off len sz=>aAB σ rf id off len sz) (fun _=>none) (some .nilMap) (fun _ x=>dY none x fun x=>some (.agg x)) (fun _ x=>dY none x fun x=>some (.tuple x)) (some []) (fun _ _ x y=>dY none x fun x=>dY none y fun y=>some (x::y))
def vB(σ:St)(rf:List AV->Option (List AV)):List AV->Option (List AV):=AV.rec_1 (motive_1:=fun _=>Option AV) (motive_2:=fun _=>Option (List AV))
 (some .undef) (fun k n=>some (.int k n)) (fun b=>some (.bool b)) (fun s=>some (.str s)) (fun f _ _ x y=>dY none x fun x=>dY none y fun y=>some (.func f x y)) (some .nilFunc) (fun _=>none) (fun _ _=>none) (some .nilPtr)
 (fun _ i o _ x=>dY none x fun x=>some (.lptr x i o none)) (fun _ fl _ x=>dY none x fun x=>some (.lit x fl none)) (fun id off len sz=>aAB σ rf id off len sz) (fun _=>none) (some .nilMap) (fun _ x=>dY none x fun x=>some (.agg x)) (fun _ x=>dY none x fun x=>some (.tuple x)) (some []) (fun _ _ x y=>dY none x fun x=>dY none y fun y=>some (x::y))
def WX(σ:St)(d:Nat):List AV->Option (List AV):=Nat.rec (fun _=>none) (fun _ ih=>vB σ ih) d
def snp(σ:St)(d:Nat):AV->Option AV:=aG4 σ (WX σ d)
mutual
theorem snpV_ok (σ:St) (d:Nat) (rf:List AV->Option (List AV)) (hrf:∀ xs ys,rf xs=some ys->∃ d',d=d'+1/\snaps σ 0 d' xs=some ys):∀ v v':AV,aG4 σ rf v=some v'->snap σ 0 d v=some v'
 |.undef,v',h=>by simp only[snap];exact h
 |.int _ _,v',h=>by simp only[snap];exact h
 |.bool _,v',h=>by simp only[snap];exact h
 |.str _,v',h=>by simp only[snap];exact h
 |.nilFunc,v',h=>by simp only[snap];exact h
 |.nilPtr,v',h=>by simp only[snap];exact h
 |.nilMap,v',h=>by simp only[snap];exact h
 |.func f a b,v',h=>by
  have h':(dY none (vB σ rf a) fun x=>dY none (vB σ rf b) fun y=>some (AV.func f x y))=some v':=h;rw[cC] at h';split at h'
  ·rename_i x hx;rw[cC] at h';split at h'
   ·rename_i y hy;simp only[snap,snpVs_ok σ d rf hrf a _ hx,snpVs_ok σ d rf hrf b _ hy];exact h'
   ·cases h'
  ·cases h'
 |.yield _,v',h=>by cases h
 |.ptr _ _,v',h=>by cases h
 |.map _,v',h=>by cases h
 |.lptr xs i o tk,v',h=>by
  have h':(dY none (vB σ rf xs) fun x=>some (AV.lptr x i o none))=some v':=h;rw[cC] at h';split at h'
  ·rename_i x hx;simp only[snap,snpVs_ok σ d rf hrf xs _ hx];cases tk<;>exact h'
  ·cases h'
 |.lit xs fl tk,v',h=>by
  have h':(dY none (vB σ rf xs) fun x=>some (AV.lit x fl none))=some v':=h;rw[cC] at h';split at h'
  ·rename_i x hx;simp only[snap,snpVs_ok σ d rf hrf xs _ hx];cases tk<;>exact h'
  ·cases h'
 |.ref id off len sz,v',h=>by
  have h':aAB σ rf id off len sz=some v':=h;unfold aAB at h';rw[cC] at h';split at h'
  ·rename_i xs hv;cases hc:decide (0<sz)&&aF sz xs with
   |false=>rw[hc] at h';cases h'
   |true =>
    rw[hc,cond_true,cC] at h';split at h'
    ·rename_i ys hy;obtain⟨d',rfl,hs⟩:=hrf _ _ hy;simp only[snap];rw[if_neg (Nat.not_lt_zero _)];simp only[hv,hc,if_true,hs];exact h'
    ·cases h'
  ·cases h'
 |.agg cs,v',h=>by
  have h':(dY none (vB σ rf cs) fun x=>some (AV.agg x))=some v':=h;rw[cC] at h';split at h'
  ·rename_i x hx;simp only[snap,snpVs_ok σ d rf hrf cs _ hx];exact h'
  ·cases h'
 |.tuple cs,v',h=>by
  have h':(dY none (vB σ rf cs) fun x=>some (AV.tuple x))=some v':=h;rw[cC] at h';split at h'
  ·rename_i x hx;simp only[snap,snpVs_ok σ d rf hrf cs _ hx];exact h'
  ·cases h'
theorem snpVs_ok (σ:St) (d:Nat) (rf:List AV->Option (List AV)) (hrf:∀ xs ys,rf xs=some ys->∃ d',d=d'+1/\snaps σ 0 d' xs=some ys):∀ vs vs':List AV,vB σ rf vs=some vs'->snaps σ 0 d vs=some vs'
 |[],vs',h=>by simp only[snaps];exact h
 |v::vs,vs',h=>by
  have h':(dY none (aG4 σ rf v) fun x=>dY none (vB σ rf vs) fun y=>some (x::y))=some vs':=h;rw[cC] at h';split at h'
  ·rename_i x hx;rw[cC] at h';split at h'
   ·rename_i y hy;simp only[snaps,snpV_ok σ d rf hrf v _ hx,snpVs_ok σ d rf hrf vs _ hy];exact h'
   ·cases h'
  ·cases h'
end
theorem LZ(σ:St):∀ (d:Nat) (xs ys:List AV),WX σ d xs=some ys->∃ d',d=d'+1/\snaps σ 0 d' xs=some ys
 |0,xs,ys,h=>by cases h
 |d+1,xs,ys,h=>⟨d,rfl,snpVs_ok σ d (WX σ d) (LZ σ d) xs ys h⟩
theorem US{σ:St}{d:Nat}{v v':AV}(h:snp σ d v=some v'):snap σ 0 d v=some v':=snpV_ok σ d (WX σ d) (LZ σ d) v v' h
def LK(r:ARes):Nat:=ARes.rec (fun t=>t) (fun t _=>t) r
theorem pV{env env':Env}{σ:St}:∀ {rs:List ARes},(∀ t∈rs.map LK,Env.get env t=Env.get env' t)->gX env σ rs=gX env' σ rs
 |[],_=>rfl
 |.tmp t::rs,h=>by
  simp only[gX];rw[pV (rs:=rs) fun t ht=>h t (List.mem_cons_of_mem _ ht),h t (by simp[LK])]
 |.cell t sh::rs,h=>by
  simp only[gX];rw[pV (rs:=rs) fun t ht=>h t (List.mem_cons_of_mem _ ht),h t (by simp[LK])]
def ZQ(rs:List ARes)(e:Tre)(σ:St):Option AV:=eQ rs (GM e (aI6 LK rs)) σ
theorem DY{env:Env}{e:Tre}(h:jF env e)(rs:List ARes)(σ:St):ZQ rs e σ=eQ rs env σ:=by
 unfold ZQ eQ;rw[KY,pV fun t ht=>wH h _ t ht]
def aE1(j:Option AJump)(A:RR):RR:=Option.rec A (fun q=>AJump.rec A (fun _=>none) q) j
theorem DK{j:Option AJump}{A:RR}{r:AV×SS}(h:aE1 j A=some r):(j=none\/j=some .ret)/\A=some r:=by
 cases j with
 |none=>exact⟨.inl rfl,h⟩
 |some q =>
  cases q with
  |ret=>exact⟨.inr rfl,h⟩
  |exit i=>cases h
def X1(rs:List ARes):KJ2:=fun j e s=>aE1 j (dY none (ZQ rs e (OM s)) fun v=>dY (some (.undef,.mk 1 (.all (.all (.all none))))) (snp (OM s) 20 v) fun w=>some (w,SS.new))
def XD(rs:List ARes):KJ2:=fun j e s=>aE1 j (dY none (ZQ rs e (OM s)) fun v=>some (v,s))
def aKA(r:RR)(s:SS)(alt:Unit->RR):RR:=Option.rec none (fun p=>Prod.rec (fun v s1=>SS.rec (fun n _=>cond (Nat.beq n 0) (some (v,s)) (alt ())) s1) p) r
abbrev Bdy:=ACode->Tre->SS->KJ2->RR
def goF(q:Bool)(B:Bdy)(args:List AV)(s:SS)(n:Nat)(rs:List ARes)(b:ACode):RR :=
 cond (cond (Nat.ble (mG args) 255) (Nat.ble (mG args) n) false)
  (cond (cond q false (sS args)) (aKA (B b (lV args 0) SS.new (X1 rs)) s fun _=>B b (lV args 0) s (XD rs)) (B b (lV args 0) s (XD rs))) none
def LI(T:FuncId->Option AFunc)(N:FuncId->Bool)(B:Bdy):CF:=fun f args s=>dY none (T f) fun af=>AFunc.rec (fun n rs b=>goF (N f) B args s n rs b) af
def D8(s:LS)(p:Option AJump)(A:RR):RR:=LS.rec (Option.rec A (fun _=>none) p) none none s
def TM(s:LS)(p:Option AJump)(A:RR):RR:=LS.rec none (Option.rec A (fun _=>none) p) none s
def IV(B:Bdy)(id:Nat)(args:List AV)(s:SS):RR :=
 dY none (s.get id) fun blk=>B2 blk (fun st pe env ps a b=>D8 st pe (cond (Nat.beq (mG ps) (mG args)) (cond (DM env) (Q4 ps args (aBU env) fun e1 =>
  B a e1 s fun j e2 s1=>Option.rec (dY none (s1.get id) fun blk1=>B2 blk1 (fun st1 pe1 _ _ _ _=>D8 st1 pe1 (B b e2 (s1.set id (.loop .busy none env ps a b)) fun j2 _ s2 =>
   dY none (s2.get id) fun blk2=>B2 blk2 (fun st2 pe2 _ _ _ _=>TM st2 pe2 (Option.rec (some (.bool true,s2.set id (.loop .ready none env ps a b))) (fun q=>some (.bool false,s2.set id (.loop .done (some q) env ps a b))) j2)) none)) none) (fun _=>none) j) none) none)) none
def JC(T:FuncId->Option AFunc)(N:FuncId->Bool)(B:Bdy):CC:=fun f args s=>L4 f (fun g first cap=>LI T N B g (J0 (J0 first args) cap) s) (JV f (fun id=>IV B id args s) none)
def TY(T:FuncId->Option AFunc)(N:FuncId->Bool)(k:Nat):Bdy:=Nat.rec (fun _ _ _ _=>none) (fun _ ih c=>zZ c (JC T N ih) (LI T N ih)) k
def BOk(T:FuncId->Option AFunc)(B:Bdy):Prop:=∀ c {env:Env} {e:Tre} {σ:St} {s:SS} {K:KJ2} {r:AV×SS},jF env e->cL σ s->B c e s K=some r->aF8 T c env σ K r
theorem G4{N:FuncId->Bool}{B:Bdy}(hB:BOk T B):FOk T (LI T N B):=by
 intro f args σ s v s' hs h;unfold LI at h;rw[cC] at h;split at h
 ·rename_i af haf;obtain⟨n,rs,b⟩:=af;have h':goF (N f) B args s n rs b=some (v,s'):=h;unfold goF at h';rw[gA] at h';cases h1:Nat.ble args.length 255 with
  |false=>rw[h1] at h';cases h'
  |true =>
   rw[h1] at h';cases h2:Nat.ble args.length n with
   |false=>rw[h2] at h';cases h'
   |true =>
    rw[h2] at h';simp only[cond_true] at h';have hl:args.length<=n:=Nat.le_of_ble_eq_true h2;have hL:jF (dX 0 args) (lV args 0):=qE (by have:=Nat.le_of_ble_eq_true h1;omega);have opn:B b (lV args 0) s (XD rs)=some (v,s')->∃ σ',cL σ' s'/\KeepS σ σ' 0/\Run T (.call f args σ) fun r=>r.v=v/\r.σ=σ':=by
     intro hb;obtain⟨j,env2,e2,σ2,s2,k2,r2,l2,y2,x2⟩:=hB b hL hs hb;obtain⟨hj,h4⟩:=DK x2;rw[cC,DY l2,yI y2] at h4;split at h4
     ·rename_i w hw;cases h4;exact⟨σ2,y2,k2,.call haf hl r2 fun o ho=>by subst ho;exact⟨hj,v,hw,.inl ⟨rfl,rfl⟩⟩⟩
     ·cases h4
    cases hq:cond (N f) false (sS args) with
    |false=>rw[hq] at h';exact opn h'
    |true =>
     rw[hq] at h';have hd:sS args=true:=by
      cases hn:N f with
      |true=>rw[hn] at hq;cases hq
      |false=>rw[hn] at hq;exact hq
     simp only[cond_true] at h';cases hp:B b (lV args 0) SS.new (X1 rs) with
     |none=>rw[hp] at h';cases h'
     |some p =>
      obtain⟨w,s1⟩:=p;obtain⟨n1,t1⟩:=s1;rw[hp] at h';have h3:cond (Nat.beq n1 0) (some (w,s)) (B b (lV args 0) s (XD rs))=some (v,s'):=h';cases hn:Nat.beq n1 0 with
      |false=>rw[hn] at h3;exact opn h3
      |true =>
       rw[hn] at h3;simp only[cond_true,Option.some.injEq,Prod.mk.injEq] at h3;obtain⟨rfl,rfl⟩:=h3;have hn0:n1=0:=Nat.eq_of_beq_eq_true hn;obtain⟨j,env2,e2,σ2,s2,k2,r2,l2,y2,x2⟩:=hB b hL cL.new hp;obtain⟨hj,h4⟩:=DK x2;rw[cC,DY l2,yI y2] at h4;split at h4
       ·rename_i u hu;rw[cC] at h4;split at h4
        ·rename_i u' hu';simp only[Option.some.injEq,Prod.mk.injEq] at h4;obtain⟨rfl,_⟩:=h4;refine⟨σ,hs,.refl _ _,.frame (datAs_ok _ hd) (.inl rfl) (R:=fun o=>o.v=u'/\o.σ=[]) (.call haf hl r2 fun o ho=>?_) fun o ho=>⟨ho.2,ho.1,rfl⟩⟩;subst ho;exact⟨hj,u,hu,.inr ⟨20,u',u',US hu',.inl rfl,fun i hi=>absurd hi (Nat.not_lt_zero _),Nat.zero_le _,rfl,rfl⟩⟩
        ·simp only[Option.some.injEq,Prod.mk.injEq,SS.mk.injEq] at h4;omega
       ·cases h4
 ·cases h
theorem zK{s:LS}{p:Option AJump}{A:RR}{r:AV×SS}(h:D8 s p A=some r):s = .ready/\p=none/\A=some r:=by
 cases s<;>cases p<;>first|exact⟨rfl,rfl,h⟩|(cases h;done)
theorem NZ{s:LS}{p:Option AJump}{A:RR}{r:AV×SS}(h:TM s p A=some r):s = .busy/\p=none/\A=some r:=by
 cases s<;>cases p<;>first|exact⟨rfl,rfl,h⟩|(cases h;done)
theorem IJ{σ:St}{s:SS}(hs:cL σ s){id:Nat}{r:AV×SS}{K:LS->Option AJump->Env->List Nat->ACode->ACode->RR}(h:(dY none (s.get id) fun blk=>B2 blk K none)=some r):
  ∃ st pe env ps a b,σ[id]? = some (.loop st pe env ps a b)/\K st pe env ps a b=some r:=by
 rw[cC,<-hs.2] at h;split at h
 ·rename_i blk hb;rw[EV] at h;split at h
  ·rename_i st pe env ps a b;exact⟨st,pe,env,ps,a,b,hb,h⟩
  ·cases h
 ·cases h
theorem O1{B:Bdy}(hB:BOk T B){id:Nat}{args:List AV}{σ:St}{s:SS}{v:AV}{s':SS}(hs:cL σ s)(h:IV B id args s=some (v,s')):∃ σ',cL σ' s'/\KeepS σ σ' 0/\Run T (.callv (.yield id) args σ) fun r=>r.v=v/\r.σ=σ':=by
 unfold IV at h;obtain⟨st,pe,env,ps,a,b,hl,h⟩:=IJ hs h;obtain⟨rfl,rfl,h⟩:=zK h;rw[gA,gA] at h;cases hn:Nat.beq ps.length args.length with
 |false=>rw[hn] at h;cases h
 |true =>
  rw[hn,cond_true] at h;have hn':ps.length=args.length:=Nat.eq_of_beq_eq_true hn;cases hk:DM env with
  |false=>rw[hk] at h;cases h
  |true =>
   rw[hk,cond_true] at h;obtain⟨e1,he1,h⟩:=HE (y8 hk) h;obtain⟨j1,env1,e1',σ1,s1,k1,r1,l1,y1,x1⟩:=hB a he1 hs h;cases j1 with
   |some q=>cases x1
   |none =>
    obtain⟨st1,pe1,env1',ps1,a1,b1,hl1,x1⟩:=IJ y1 x1;obtain⟨rfl,rfl,x1⟩:=zK x1;have hid:id<σ.length:=(List.getElem?_eq_some_iff.1 hl).1;obtain⟨st0,pe0,q0⟩:=k1.loops id _ _ _ _ _ _ hid hl1;rw[hl] at q0;cases q0;obtain⟨j2,env2,e2,σ2,s2,k2,r2,l2,y2,x2⟩:=hB b l1 (y1.set hl1 _) x1;obtain⟨st2,pe2,env2',ps2,a2,b2,hl2,x2⟩:=IJ y2 x2;obtain⟨rfl,rfl,x2⟩:=NZ x2;have kb:KeepS σ1 (σ1.set id (.loop .busy none env ps a b)) id:=.setLoop hl1;have hid1:id<σ1.length:=(List.getElem?_eq_some_iff.1 hl1).1;obtain⟨st1,pe1,q1⟩:=k2.loops id _ _ _ _ _ _ (by simpa using hid1) hl2;rw[List.getElem?_set_self hid1] at q1;cases q1;have kk:∀ st pe,KeepS σ (σ2.set id (.loop st pe env ps a b)) 0:=fun st pe=>m5 (m5 (m5 k1 (GH kb)) k2) (GH (KeepS.setLoop (st:=st) (pe:=pe) hl2))
    have fin:∀ Q:Out->Prop,Q ⟨none,[],σ2.set id (.loop (if j2=none then .ready else .done) j2 env ps a b),.bool (decide (j2=none))⟩->Run T (.callv (.yield id) args σ) Q:=fun Q hq =>
     .round hl hn' r1 (fun o ho=>by subst ho;exact⟨rfl,hl1⟩) (fun o ho=>by subst ho;exact r2) fun o ho=>by subst ho;exact⟨hl2,hq⟩
    cases j2 with
    |none =>
     have x3:some (AV.bool true,s2.set id (.loop .ready none env ps a b))=some (v,s'):=x2;cases x3;exact⟨_,y2.set hl2 _,kk _ _,fin _ ⟨rfl,rfl⟩⟩
    |some q =>
     have x3:some (AV.bool false,s2.set id (.loop .done (some q) env ps a b))=some (v,s'):=x2;cases x3;exact⟨_,y2.set hl2 _,kk _ _,fin _ ⟨rfl,rfl⟩⟩
theorem OG{N:FuncId->Bool}{B:Bdy}(hB:BOk T B):uB T (JC T N B):=by
 intro f args σ s v s' hs h;unfold JC at h;rw[zX] at h;split at h
 ·rename_i g first cap
  rw[oP,oP] at h;obtain⟨σ',q,k,r⟩:=G4 hB _ _ _ _ _ _ hs h;exact⟨σ',q,k,.callf r⟩
 ·rw[CK] at h;split at h
  ·exact O1 hB hs h
  ·cases h
theorem y0{N:FuncId->Bool}:∀ k,BOk T (TY T N k)
 |0=>fun c env e σ s K r h hs hr=>by cases hr
 |k+1=>fun c env e σ s K r h hs hr=>RU (OG (y0 k)) (G4 (y0 k)) c h hs hr
def VY(r:Option AV):Bool:=Option.rec false (fun v=>xL v (fun b=>b) false) r
end Go.Am.Ex
noncomputable section
namespace Go.Am
mutual
theorem clr_clr:∀ v:AV,clr (clr v)=clr v
 |.func f a b=>by simp only[clr,clrs_clrs a,clrs_clrs b]
 |.lptr xs i o tk=>by simp only[clr,clrs_clrs xs]
 |.lit xs fl tk=>by simp only[clr,clrs_clrs xs];cases fl<;>cases tk<;>rfl
 |.agg cs=>by simp only[clr,clrs_clrs cs]
 |.tuple vs=>by simp only[clr,clrs_clrs vs]
 |.undef|.int _ _|.bool _|.str _|.nilFunc|.yield _|.ptr _ _|.nilPtr|.ref _ _ _ _|.map _|.nilMap=>by simp only[clr]
theorem clrs_clrs:∀ vs:List AV,clrs (clrs vs)=clrs vs
 |[]=>by simp only[clrs]
 |v::vs=>by simp only[clrs,clr_clr v,clrs_clrs vs]
end
end Go.Am
namespace Go.Am.Ex
variable {T:FuncId->Option AFunc} {N:FuncId->Bool}
def S8(r:RR):Option AV:=Option.rec none (fun p=>Prod.rec (fun v s=>SS.rec (fun n _=>cond (Nat.beq n 0) (some v) none) s) p) r
theorem VC{r:RR}{v:AV}(h:S8 r=some v):∃ t,r=some (v,.mk 0 t):=by
 cases r with
 |none=>cases h
 |some p =>
  obtain⟨w,n,t⟩:=p;have h':cond (Nat.beq n 0) (some w) none=some v:=h;cases hn:Nat.beq n 0 with
  |false=>rw[hn] at h';cases h'
  |true =>
   rw[hn] at h';cases h';have:=Nat.eq_of_beq_eq_true hn;subst this;exact⟨t,rfl⟩
def FO(T:FuncId->Option AFunc)(N:FuncId->Bool)(k:Nat)(f:FuncId)(args:List AV):Option AV :=
 cond (sS args) (dY none (T f) fun af=>AFunc.rec (fun n rs b=>cond (cond (Nat.ble (mG args) 255) (Nat.ble (mG args) n) false) (S8 (TY T N k b (lV args 0) SS.new (X1 rs))) none) af) none
theorem aAO{k:Nat}{f:FuncId}{args:List AV}{v w:AV}(h:FO T N k f args=some v)(hw:w=v\/w=clr v)(σ:St):Run T (.call f args σ) fun o=>o.v=w/\o.σ=σ:=by
 unfold FO at h;cases hd:sS args with
 |false=>rw[hd] at h;cases h
 |true =>
  rw[hd,cond_true,cC] at h;split at h
  ·rename_i af haf;obtain⟨n,rs,b⟩:=af;have h:cond (cond (Nat.ble (mG args) 255) (Nat.ble (mG args) n) false) (S8 (TY T N k b (lV args 0) SS.new (X1 rs))) none=some v:=h;rw[gA] at h;cases h1:Nat.ble args.length 255 with
   |false=>rw[h1] at h;cases h
   |true =>
    cases h2:Nat.ble args.length n with
    |false=>rw[h1,h2] at h;cases h
    |true =>
     rw[h1,h2] at h;simp only[cond_true] at h;have hl:args.length<=n:=Nat.le_of_ble_eq_true h2;have hL:jF (dX 0 args) (lV args 0):=qE (by have:=Nat.le_of_ble_eq_true h1;omega);obtain⟨t,hr⟩:=VC h;obtain⟨j,env2,e2,σ2,s2,k2,r2,l2,y2,x2⟩:=y0 k b hL cL.new hr;obtain⟨hj,h4⟩:=DK x2;rw[cC,DY l2,yI y2] at h4;split at h4
     ·rename_i u hu;rw[cC] at h4;split at h4
      ·rename_i u' hu';simp only[Option.some.injEq,Prod.mk.injEq] at h4;obtain⟨rfl,_⟩:=h4;refine .frame (datAs_ok _ hd) (.inl rfl) (R:=fun o=>o.v=w/\o.σ=[]) (.call haf hl r2 fun o ho=>?_) fun o ho=>⟨ho.2,ho.1,rfl⟩
       subst ho;exact⟨hj,u,hu,.inr ⟨20,u',w,US hu',hw,fun i hi=>absurd hi (Nat.not_lt_zero _),Nat.zero_le _,rfl,rfl⟩⟩
      ·simp only[Option.some.injEq,Prod.mk.injEq,SS.mk.injEq] at h4;omega
     ·cases h4
  ·cases h
theorem CE{k:Nat}{f:FuncId}{args:List AV}{v:AV}(h:FO T N k f args=some v):aV T f args (clr v):=fun σ=>aAO h (.inr rfl) σ
theorem aN{k:Nat}{f:FuncId}{args:List AV}(h:VY (FO T N k f args)=true):aV T f args (.bool true):=by
 cases hr:FO T N k f args with
 |none=>rw[hr] at h;cases h
 |some v =>
  rw[hr] at h;have h':xL v (fun b=>b) false=true:=h;rw[qN] at h';split at h'
  ·rename_i b;rw[h'] at hr;exact CE hr
  ·cases h'
end Go.Am.Ex
set_option maxRecDepth 100000
namespace Go.Am.Room.Do
open Ex
def np(f:FuncId):Bool:=cond (Nat.beq f 333) true (cond (Nat.beq f 334) true (cond (Nat.beq f 342) true (Nat.beq f 459)))
noncomputable def bV(m lo hi:Nat):AV:=clr ((FO T np 60 66 [.int .i64 m,.agg [.int .i64 lo,.int .i64 hi]]).getD .undef)
noncomputable def gJ(m lo hi:Nat):Bool:=cond (FO T np 60 66 [.int .i64 m,.agg [.int .i64 lo,.int .i64 hi]]).isSome (VL (bV m lo hi)) false
theorem LU{m lo hi:Nat}(h:gJ m lo hi=true):gV (bV m lo hi)/\aV T 66 [.int .i64 m,.agg [.int .i64 lo,.int .i64 hi]] (bV m lo hi):=by
 unfold gJ at h;cases hr:FO T np 60 66 [.int .i64 m,.agg [.int .i64 lo,.int .i64 hi]] with
 |none=>rw[hr] at h;cases h
 |some v =>
  rw[hr] at h;have e:bV m lo hi=clr v:=by rw[bV,hr];rfl
  have hd:VL (bV m lo hi)=true:=h;refine⟨⟨datA_ok _ hd,by rw[e,clr_clr]⟩,?_⟩;rw[e];exact CE hr
theorem ID:aV T 62 [] (.bool true):=aN (T:=T) (N:=np) (k:=60) (by kernel_rfl)
theorem aSE:gJ 1 0 0=true:=by kernel_rfl
theorem aRJ:gJ 2 0 0=true:=by kernel_rfl
theorem aNY:gJ 2 0 1=true:=by kernel_rfl
theorem f211:gJ 2 1 1=true:=by kernel_rfl
theorem f300:gJ 3 0 0=true:=by kernel_rfl
theorem f301:gJ 3 0 1=true:=by kernel_rfl
theorem aSZ:gJ 3 1 1=true:=by kernel_rfl
theorem f302:gJ 3 0 2=true:=by kernel_rfl
theorem aLU:gJ 3 1 2=true:=by kernel_rfl
theorem aRX:gJ 3 2 2=true:=by kernel_rfl
theorem aR9:gJ 4 0 0=true:=by kernel_rfl
theorem aNR:gJ 4 0 1=true:=by kernel_rfl
theorem f411:gJ 4 1 1=true:=by kernel_rfl
theorem aF5:gJ 4 0 2=true:=by kernel_rfl
theorem f412:gJ 4 1 2=true:=by kernel_rfl
theorem aQE:gJ 4 2 2=true:=by kernel_rfl
theorem Z6:gJ 4 0 3=true:=by kernel_rfl
theorem f413:gJ 4 1 3=true:=by kernel_rfl
theorem aHN:gJ 4 2 3=true:=by kernel_rfl
theorem aTH:gJ 4 3 3=true:=by kernel_rfl
theorem aOH:aV T 65 [bV 1 0 0,.int .i64 ((0:Nat):Int)] (.bool true):=aN (T:=T) (N:=np) (k:=60) (by kernel_rfl)
theorem aH8:aV T 65 [bV 2 0 0,.int .i64 ((0:Nat):Int)] (.bool true):=aN (T:=T) (N:=np) (k:=60) (by kernel_rfl)
theorem aIA:aV T 65 [bV 2 0 1,.int .i64 ((0:Nat):Int)] (.bool true):=aN (T:=T) (N:=np) (k:=60) (by kernel_rfl)
theorem aOI:aV T 65 [bV 2 0 1,.int .i64 ((1:Nat):Int)] (.bool true):=aN (T:=T) (N:=np) (k:=60) (by kernel_rfl)
theorem aLD:aV T 65 [bV 2 1 1,.int .i64 ((1:Nat):Int)] (.bool true):=aN (T:=T) (N:=np) (k:=60) (by kernel_rfl)
theorem aKZ:aV T 65 [bV 3 0 0,.int .i64 ((0:Nat):Int)] (.bool true):=aN (T:=T) (N:=np) (k:=60) (by kernel_rfl)
theorem aKE:aV T 65 [bV 3 0 1,.int .i64 ((0:Nat):Int)] (.bool true):=aN (T:=T) (N:=np) (k:=60) (by kernel_rfl)
theorem aLQ:aV T 65 [bV 3 0 1,.int .i64 ((1:Nat):Int)] (.bool true):=aN (T:=T) (N:=np) (k:=60) (by kernel_rfl)
theorem aNN:aV T 65 [bV 3 1 1,.int .i64 ((1:Nat):Int)] (.bool true):=aN (T:=T) (N:=np) (k:=60) (by kernel_rfl)
theorem aKT:aV T 65 [bV 3 0 2,.int .i64 ((0:Nat):Int)] (.bool true):=aN (T:=T) (N:=np) (k:=60) (by kernel_rfl)
theorem aMM:aV T 65 [bV 3 0 2,.int .i64 ((1:Nat):Int)] (.bool true):=aN (T:=T) (N:=np) (k:=60) (by kernel_rfl)
theorem aNP:aV T 65 [bV 3 0 2,.int .i64 ((2:Nat):Int)] (.bool true):=aN (T:=T) (N:=np) (k:=60) (by kernel_rfl)
theorem aL4:aV T 65 [bV 3 1 2,.int .i64 ((1:Nat):Int)] (.bool true):=aN (T:=T) (N:=np) (k:=60) (by kernel_rfl)
theorem aL6:aV T 65 [bV 3 1 2,.int .i64 ((2:Nat):Int)] (.bool true):=aN (T:=T) (N:=np) (k:=60) (by kernel_rfl)
theorem aIR:aV T 65 [bV 3 2 2,.int .i64 ((2:Nat):Int)] (.bool true):=aN (T:=T) (N:=np) (k:=60) (by kernel_rfl)
theorem aKU:aV T 65 [bV 4 0 0,.int .i64 ((0:Nat):Int)] (.bool true):=aN (T:=T) (N:=np) (k:=60) (by kernel_rfl)
theorem aM5:aV T 65 [bV 4 0 1,.int .i64 ((0:Nat):Int)] (.bool true):=aN (T:=T) (N:=np) (k:=60) (by kernel_rfl)
theorem aI2:aV T 65 [bV 4 0 1,.int .i64 ((1:Nat):Int)] (.bool true):=aN (T:=T) (N:=np) (k:=60) (by kernel_rfl)
theorem aH4:aV T 65 [bV 4 1 1,.int .i64 ((1:Nat):Int)] (.bool true):=aN (T:=T) (N:=np) (k:=60) (by kernel_rfl)
theorem aKP:aV T 65 [bV 4 0 2,.int .i64 ((0:Nat):Int)] (.bool true):=aN (T:=T) (N:=np) (k:=60) (by kernel_rfl)
theorem aM6:aV T 65 [bV 4 0 2,.int .i64 ((1:Nat):Int)] (.bool true):=aN (T:=T) (N:=np) (k:=60) (by kernel_rfl)
theorem aKW:aV T 65 [bV 4 0 2,.int .i64 ((2:Nat):Int)] (.bool true):=aN (T:=T) (N:=np) (k:=60) (by kernel_rfl)
theorem aNW:aV T 65 [bV 4 1 2,.int .i64 ((1:Nat):Int)] (.bool true):=aN (T:=T) (N:=np) (k:=60) (by kernel_rfl)
theorem aJD:aV T 65 [bV 4 1 2,.int .i64 ((2:Nat):Int)] (.bool true):=aN (T:=T) (N:=np) (k:=60) (by kernel_rfl)
theorem aH7:aV T 65 [bV 4 2 2,.int .i64 ((2:Nat):Int)] (.bool true):=aN (T:=T) (N:=np) (k:=60) (by kernel_rfl)
theorem aMT:aV T 65 [bV 4 0 3,.int .i64 ((0:Nat):Int)] (.bool true):=aN (T:=T) (N:=np) (k:=60) (by kernel_rfl)
theorem aNF:aV T 65 [bV 4 0 3,.int .i64 ((1:Nat):Int)] (.bool true):=aN (T:=T) (N:=np) (k:=60) (by kernel_rfl)
theorem aMA:aV T 65 [bV 4 0 3,.int .i64 ((2:Nat):Int)] (.bool true):=aN (T:=T) (N:=np) (k:=60) (by kernel_rfl)
theorem aI3:aV T 65 [bV 4 0 3,.int .i64 ((3:Nat):Int)] (.bool true):=aN (T:=T) (N:=np) (k:=60) (by kernel_rfl)
theorem aLM:aV T 65 [bV 4 1 3,.int .i64 ((1:Nat):Int)] (.bool true):=aN (T:=T) (N:=np) (k:=60) (by kernel_rfl)
theorem aNT:aV T 65 [bV 4 1 3,.int .i64 ((2:Nat):Int)] (.bool true):=aN (T:=T) (N:=np) (k:=60) (by kernel_rfl)
theorem aIC:aV T 65 [bV 4 1 3,.int .i64 ((3:Nat):Int)] (.bool true):=aN (T:=T) (N:=np) (k:=60) (by kernel_rfl)
theorem aOK:aV T 65 [bV 4 2 3,.int .i64 ((2:Nat):Int)] (.bool true):=aN (T:=T) (N:=np) (k:=60) (by kernel_rfl)
theorem aJS:aV T 65 [bV 4 2 3,.int .i64 ((3:Nat):Int)] (.bool true):=aN (T:=T) (N:=np) (k:=60) (by kernel_rfl)
theorem aOQ:aV T 65 [bV 4 3 3,.int .i64 ((3:Nat):Int)] (.bool true):=aN (T:=T) (N:=np) (k:=60) (by kernel_rfl)
theorem YO:∀ (m lo hi k:Nat),m<=4->lo<=k->k<=hi->hi<m->∃ F,gV F/\aV T 66 [.int .i64 m,.agg [.int .i64 lo,.int .i64 hi]] F/\aV T 65 [F,.int .i64 k] (.bool true):=by
 intro m lo hi k h1 h2 h3 h4;have key:∀ {m lo hi k:Nat},gJ m lo hi=true->aV T 65 [bV m lo hi,.int .i64 k] (.bool true)->∃ F,gV F/\aV T 66 [.int .i64 m,.agg [.int .i64 lo,.int .i64 hi]] F/\aV T 65 [F,.int .i64 k] (.bool true):=fun a b=>⟨_,(LU a).1,(LU a).2,b⟩
 have hm:m=1\/m=2\/m=3\/m=4:=by omega
 rcases hm with rfl|rfl|rfl|rfl
 ·obtain rfl:hi=0:=by omega
  obtain rfl:lo=0:=by omega
  obtain rfl:k=0:=by omega
  exact key aSE aOH
 ·have hh:hi=0\/hi=1:=by omega
  rcases hh with rfl|rfl
  ·obtain rfl:lo=0:=by omega
   obtain rfl:k=0:=by omega
   exact key aRJ aH8
  ·have hl:lo=0\/lo=1:=by omega
   rcases hl with rfl|rfl
   ·have hq:k=0\/k=1:=by omega
    rcases hq with rfl|rfl
    ·exact key aNY aIA
    ·exact key aNY aOI
   ·obtain rfl:k=1:=by omega
    exact key f211 aLD
 ·have hh:hi=0\/hi=1\/hi=2:=by omega
  rcases hh with rfl|rfl|rfl
  ·obtain rfl:lo=0:=by omega
   obtain rfl:k=0:=by omega
   exact key f300 aKZ
  ·have hl:lo=0\/lo=1:=by omega
   rcases hl with rfl|rfl
   ·have hq:k=0\/k=1:=by omega
    rcases hq with rfl|rfl
    ·exact key f301 aKE
    ·exact key f301 aLQ
   ·obtain rfl:k=1:=by omega
    exact key aSZ aNN
  ·have hl:lo=0\/lo=1\/lo=2:=by omega
   rcases hl with rfl|rfl|rfl
   ·have hq:k=0\/k=1\/k=2:=by omega
    rcases hq with rfl|rfl|rfl
    ·exact key f302 aKT
    ·exact key f302 aMM
    ·exact key f302 aNP
   ·have hq:k=1\/k=2:=by omega
    rcases hq with rfl|rfl
    ·exact key aLU aL4
    ·exact key aLU aL6
   ·obtain rfl:k=2:=by omega
    exact key aRX aIR
 ·have hh:hi=0\/hi=1\/hi=2\/hi=3:=by omega
  rcases hh with rfl|rfl|rfl|rfl
  ·obtain rfl:lo=0:=by omega
   obtain rfl:k=0:=by omega
   exact key aR9 aKU
  ·have hl:lo=0\/lo=1:=by omega
   rcases hl with rfl|rfl
   ·have hq:k=0\/k=1:=by omega
    rcases hq with rfl|rfl
    ·exact key aNR aM5
    ·exact key aNR aI2
   ·obtain rfl:k=1:=by omega
    exact key f411 aH4
  ·have hl:lo=0\/lo=1\/lo=2:=by omega
   rcases hl with rfl|rfl|rfl
   ·have hq:k=0\/k=1\/k=2:=by omega
    rcases hq with rfl|rfl|rfl
    ·exact key aF5 aKP
    ·exact key aF5 aM6
    ·exact key aF5 aKW
   ·have hq:k=1\/k=2:=by omega
    rcases hq with rfl|rfl
    ·exact key f412 aNW
    ·exact key f412 aJD
   ·obtain rfl:k=2:=by omega
    exact key aQE aH7
  ·have hl:lo=0\/lo=1\/lo=2\/lo=3:=by omega
   rcases hl with rfl|rfl|rfl|rfl
   ·have hq:k=0\/k=1\/k=2\/k=3:=by omega
    rcases hq with rfl|rfl|rfl|rfl
    ·exact key Z6 aMT
    ·exact key Z6 aNF
    ·exact key Z6 aMA
    ·exact key Z6 aI3
   ·have hq:k=1\/k=2\/k=3:=by omega
    rcases hq with rfl|rfl|rfl
    ·exact key f413 aLM
    ·exact key f413 aNT
    ·exact key f413 aIC
   ·have hq:k=2\/k=3:=by omega
    rcases hq with rfl|rfl
    ·exact key aHN aOK
    ·exact key aHN aJS
   ·obtain rfl:k=3:=by omega
    exact key aTH aOQ
theorem paid_facts:Paid:=⟨ID,YO⟩
end Go.Am.Room.Do
