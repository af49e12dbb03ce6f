/- A part of the proofs: an abstract machine, or what functions come to on it. -/
import Derived.Test.YtnjlkiflililkaaCmqQ3
import Derived.Lib.Strings
import Derived.Laws.RangeAny
set_option linter.unusedVariables false
set_option linter.unusedSimpArgs false
set_option linter.defProp false
namespace Go.Am
variable {T:FuncId→Option AFunc}
class HP (α:Type) where
 out:α
def bO (r:Option (AV×St)) [K:HP (AV→St→Prop)]:Prop:=nO r K.out
theorem aCM (v:AV) (σ:St) (K:AV→St→Prop):bO (K:=⟨K⟩) (some (v,σ))=K v σ:=by simp only [bO,nO]
def cK (T:FuncId→Option AFunc) (f:AV) (args:List AV) (σ:St) [K:HP (AV→St→Prop)]:Prop:=MD T f args σ K.out
def cD (T:FuncId→Option AFunc) (f:AV) (args:List AV) (σ:St) [K:HP (AV→St→Prop)]:Prop:=EG T f args σ K.out
def rK (T:FuncId→Option AFunc) (c:ACode) (e:Env) (σ:St) [K:HP KJ]:Prop:=N5 T c e σ K.out
def zX (b:Bool) [A:HP Prop] [B:HP Prop]:Prop:=if b=true then A.out else B.out
theorem j5 (A:Prop) (B:HP Prop):zX (A:=⟨A⟩) true=A:=by simp [zX]
theorem jO (A:HP Prop) (B:Prop):zX (B:=⟨B⟩) false=B:=by simp [zX]
theorem aG {b:Bool} {A B:Prop} (h1:b=true→A) (h2:b=false→B):zX (A:=⟨A⟩) (B:=⟨B⟩) b:=by cases b<;>simp [zX]<;>first|exact h1 rfl|exact h2 rfl
def bB (v:AV) [A:HP Prop] [B:HP Prop]:Prop:=CQ v (fun _=>A.out) (fun _=>B.out)
def bG (v:AV) (want:Bool) [A:HP Prop] [B:HP Prop]:Prop:=oG v want (fun _=>A.out) (fun _=>B.out)
theorem aBE (b:ACode) (e:Env) (σ:St) (K:KJ):wp T (.loop b) e σ K=rK (K:=⟨K⟩) T (.loop b) e σ:=by simp only [wp,rK]
theorem W8 (f:AOpd) (ps:List Nat) (a b:ACode) (e:Env) (σ:St) (K:KJ):wp T (.rangeFunc f ps a b) e σ K=rK (K:=⟨K⟩) T (.rangeFunc f ps a b) e σ:=by simp only [wp,rK]
theorem aC5 (c:AOpd) (a b:ACode) (e:Env) (σ:St) (K:KJ):wp T (.cond c a b) e σ K=bB (A:=⟨wp T a e σ K⟩) (B:=⟨wp T b e σ K⟩) (c.ev e):=by simp only [wp,bB]
def evs (e:Env):List AOpd→List AV
 |[]=>[]
 |x::xs=>x.ev e::evs e xs
theorem nY (e:Env):∀ xs:List AOpd,xs.map (·.ev e)=evs e xs
 |[]=>rfl
 |x::xs=>by simp [evs,nY e xs]
def ovs (e:Env):Option AOpd→Option AV
 |none=>none
 |some x=>some (x.ev e)
def EF:AV→AV→AV→Option AV
 |.bool true,x,_=>some x
 |.bool false,_,y=>some y
 |_,_,_=>none
def OC (n:Nat) (xs:List AV):Option AV:=if aL n xs=true then some (.lit xs true none) else none
def HM:AV→Option AV
 |.ptr i o=>some (.ptr i o)
 |.lptr xs i o t=>some (.lptr xs i o t)
 |.func f a b=>some (.func f a b)
 |.yield i=>some (.yield i)
 |_=>none
def T4:AV→Option AV
 |.int k n=>some (.int k (k.wrap (0-n)))
 |_=>none
def LG (k:IntKind):AV→Option AV
 |.int _ n=>some (.int k (k.wrap n))
 |_=>none
def W7:AV→Option ByteArray
 |.str s=>some s
 |_=>none
def yL (σ:St):AV→Option (AV×St)
 |.ptr id 0 =>
  match σ[id]? with
  |some (.siter s pos) =>
   if pos<s.size then some (.tuple [.bool true,.int .i64 pos,.int .i32 (Utf8.decode s pos).1],σ.set id (.siter s (pos+(Utf8.decode s pos).2)))
   else some (.tuple [.bool false],σ)
  |_=>none
 |_=>none
def m7 (bytes:Nat) (l c:AV):Option Nat :=
 match l,c with
 |.int _ n,.int _ m=>if 0≤n∧n=m∧n*bytes≤room∧n≤room then some n.toNat else none
 |_,_=>none
def pU (d:Nat):Option AV→Option Int
 |none=>some d
 |some x=>gM x
def AL (sz:Nat) (σ:St) (x:AV) (lo hi mx:Option AV):Option AV :=
 match kD 1 σ x with
 |none=>none
 |some n =>
  match pU 0 lo,pU n hi,mx.map gM with
  |some l,some h,none=>nZ sz x l h false
  |some l,some h,some (some m)=>if m=h∧hi.isSome=true then nZ sz x l h true else none
  |_,_,_=>none
def LH (n sz:Nat) (x:AV) (lo hi:Option AV):Option AV :=
 match x,pU 0 lo,pU n hi with
 |.ptr id off,some l,some h=>if 0≤l∧l≤h∧h≤n then some (.ref id (off+l.toNat*sz) (h.toNat-l.toNat) sz) else none
 |_,_,_=>none
def F6 (off:Nat) (sh:Option Nat):AV→Option AV
 |.agg cs=>gJ sh cs off
 |_=>none
def pX (arr:Option Nat) (sz:Nat) (x i:AV):Option AV :=
 match gM i,arr,x with
 |some j,some n,.ptr id off=>if 0≤j∧j<n then some (.ptr id (off+j.toNat*sz)) else none
 |some j,some n,.lptr xs q off t=>if 0≤j∧j<n then some (.lptr xs q (off+j.toNat*sz) t) else none
 |some j,none,.lit xs _ t =>
  match xs[j.toNat]? with
  |some y=>if 0≤j∧y.cells.length=sz then some (.lptr xs j.toNat 0 t) else none
  |none=>none
 |some j,none,.ref id off len sz'=>if 0≤j∧j<len∧sz'=sz then some (.ptr id (off+j.toNat*sz)) else none
 |_,_,_=>none
def SM (n sz:Nat) (sh:Option Nat) (x i:AV):Option AV :=
 match gM i,x with
 |some j,.agg cs=>if 0≤j∧j<n then gJ sh cs (j.toNat*sz) else none
 |_,_=>none
def AM (x i:AV):Option AV :=
 match gM i,x with
 |some j,.str s=>if 0≤j then (s[j.toNat]?).map fun b=>.int .u8 b.toNat else none
 |_,_=>none
def LJ (ok:Bool) (zero:AV):Option (Option AV)→Option AV
 |some (some v)=>some (if ok then .tuple [v,.bool true] else v)
 |some none=>some (if ok then .tuple [zero,.bool false] else zero)
 |none=>none
def AC (sh:EqTy) (σ:St) (m k v:AV):Option St :=
 match m with
 |.map id =>
  if (kR sh k k).isSome=false then none else
  match σ[id]? with
  |some (.map es)=>(oK sh k v es).map fun es'=>σ.set id (.map es')
  |_=>none
 |_=>none
theorem aE2 (x:AOpd) (e:Env) (σ:St):aop (.mov x) e σ=some (x.ev e,σ):=by
 simp only [aop]
theorem WA (z:List AV) (e:Env) (σ:St):aop (.alloc z) e σ=some (.ptr σ.length 0,σ++[.cells z]):=by
 simp only [aop]
theorem aC3 (c x y:AOpd) (e:Env) (σ:St):aop (.pick c x y) e σ=(EF (c.ev e) (x.ev e) (y.ev e)).map (·,σ):=by
 simp only [aop,EF];repeat' split
 all_goals simp_all
theorem aF6 (n:Nat) (x:AOpd) (e:Env) (σ:St):aop (.box n x) e σ=(rX n (x.ev e)).map fun cs=>(.ptr σ.length 0,σ++[.cells cs]):=by
 simp only [aop,rX];split<;>simp_all
theorem U5 (z:List AV) (ps:List (Nat×Nat×AOpd)) (e:Env) (σ:St):aop (.build z ps) e σ=(cY e z ps).map fun cs=>(.agg cs,σ):=by
 simp only [aop];cases cY e z ps<;>simp
theorem UE (n:Nat) (xs:List AOpd) (e:Env) (σ:St):aop (.mklit n xs) e σ=(OC n (evs e xs)).map (·,σ):=by
 simp only [aop,OC,nY];split<;>simp_all
theorem VA (n:Nat) (xs:List AOpd) (e:Env) (σ:St):aop (.mkref n xs) e σ=(OC n (evs e xs)).map fun _=>(.ref σ.length 0 (evs e xs).length n,σ++[.cells ((evs e xs).flatMap AV.cells)]):=by
 simp only [aop,OC,nY];have:=congrArg List.length (nY e xs);split<;>simp_all
theorem Z7 (sh:Option Nat) (x:AOpd) (e:Env) (σ:St):aop (.load sh x) e σ=(mC sh σ (x.ev e)).map (·,σ):=by
 simp only [aop];cases mC sh σ (x.ev e)<;>simp
theorem UZ (n:Nat) (x y:AOpd) (e:Env) (σ:St):aop (.store n x y) e σ=(o9 n σ (x.ev e) (y.ev e)).map (.tuple [],·):=by
 simp only [aop];cases o9 n σ (x.ev e) (y.ev e)<;>simp
theorem KI (x:AOpd) (e:Env) (σ:St):aop (.nilCheck x) e σ=(HM (x.ev e)).map (·,σ):=by
 simp only [aop,HM];cases x.ev e<;>simp
theorem aDZ (op:BinOp) (x y:AOpd) (e:Env) (σ:St):aop (.bin op x y) e σ=(gU op (x.ev e) (y.ev e)).map (·,σ):=by
 simp only [aop];cases gU op (x.ev e) (y.ev e)<;>simp
theorem aDX (sh:EqTy) (n:Bool) (x y:AOpd) (e:Env) (σ:St):aop (.eql sh n x y) e σ=(C5 sh n (x.ev e) (y.ev e)).map (·,σ):=by
 simp only [aop,C5];cases kR sh (x.ev e) (y.ev e)<;>simp
theorem aD0 (x:AOpd) (e:Env) (σ:St):aop (.not x) e σ=(WF (x.ev e)).map (·,σ):=by
 simp only [aop,WF];cases x.ev e<;>simp
theorem aGG (x:AOpd) (e:Env) (σ:St):aop (.neg x) e σ=(T4 (x.ev e)).map (·,σ):=by
 simp only [aop,T4];cases x.ev e<;>simp
theorem aB5 (k:IntKind) (x:AOpd) (e:Env) (σ:St):aop (.conv k x) e σ=(LG k (x.ev e)).map (·,σ):=by
 simp only [aop,LG];cases x.ev e<;>simp
theorem WC (f:FuncId) (xs ys:List AOpd) (e:Env) (σ:St):aop (.mkfun f xs ys) e σ=some (.func f (evs e xs) (evs e ys),σ):=by
 simp only [aop,nY]
theorem WV  (e:Env) (σ:St):aop (.mkmap) e σ=some (.map σ.length,σ++[.map []]):=by
 simp only [aop]
theorem M7 (z:List AV) (b:Nat) (x y:AOpd) (e:Env) (σ:St):aop (.mkslice z b x y) e σ=(m7 b (x.ev e) (y.ev e)).map fun n=>(.ref σ.length 0 n z.length,σ++[.cells (List.replicate n z).flatten]):=by
 simp only [aop,m7];generalize x.ev e=u;generalize y.ev e=v;cases u<;>cases v<;>first|rfl|(dsimp only;split<;>first|rfl|simp_all|(split<;>simp_all))
theorem PJ (n:Nat) (x:AOpd) (lo hi mx:Option AOpd) (e:Env) (σ:St):aop (.slicev n x lo hi mx) e σ=(AL n σ (x.ev e) (ovs e lo) (ovs e hi) (ovs e mx)).map (·,σ):=by
 simp only [aop,AL];cases kD 1 σ (x.ev e)<;>cases lo<;>cases hi<;>cases mx<;>simp only [cP,pU,ovs,Option.map_none,Option.map_some]<;>repeat' split
 all_goals simp_all
theorem O4 (n s:Nat) (x:AOpd) (lo hi:Option AOpd) (e:Env) (σ:St):aop (.slicea n s x lo hi) e σ=(LH n s (x.ev e) (ovs e lo) (ovs e hi)).map (·,σ):=by
 simp only [aop,LH];generalize x.ev e=u;cases lo with
 |none=>cases hi with
  |none=>simp only [cP,pU,ovs];cases u<;>first|rfl|(dsimp only;split<;>first|rfl|simp_all|(split<;>simp_all))
  |some h=>simp only [cP,pU,ovs];generalize gM (h.ev e)=p;cases u<;>cases p<;>first|rfl|(dsimp only;split<;>first|rfl|simp_all|(split<;>simp_all))
 |some l=>cases hi with
  |none=>simp only [cP,pU,ovs];generalize gM (l.ev e)=p;cases u<;>cases p<;>first|rfl|(dsimp only;split<;>first|rfl|simp_all|(split<;>simp_all))
  |some h=>simp only [cP,pU,ovs];generalize gM (l.ev e)=p;generalize gM (h.ev e)=q;cases u<;>cases p<;>cases q<;>first|rfl|(dsimp only;split<;>first|rfl|simp_all|(split<;>simp_all))
theorem UH (x:AOpd) (o:Nat) (e:Env) (σ:St):aop (.faddr x o) e σ=(yN o (x.ev e)).map (·,σ):=by
 simp only [aop,yN];cases x.ev e<;>simp
theorem VJ (x:AOpd) (o:Nat) (sh:Option Nat) (e:Env) (σ:St):aop (.field x o sh) e σ=(F6 o sh (x.ev e)).map (·,σ):=by
 simp only [aop,F6];cases x.ev e<;>simp<;>(rename_i cs;cases gJ sh cs o<;>simp)
theorem WE (a:Option Nat) (s:Nat) (x i:AOpd) (e:Env) (σ:St):aop (.iaddr a s x i) e σ=(pX a s (x.ev e) (i.ev e)).map (·,σ):=by
 simp only [aop,pX];generalize gM (i.ev e)=q;generalize x.ev e=u;cases q<;>cases a<;>cases u<;>first|rfl|(dsimp only;split<;>first|rfl|simp_all|(split<;>simp_all))
theorem UU (n s:Nat) (sh:Option Nat) (x i:AOpd) (e:Env) (σ:St):aop (.index n s sh x i) e σ=(SM n s sh (x.ev e) (i.ev e)).map (·,σ):=by
 simp only [aop,SM];generalize gM (i.ev e)=q;generalize x.ev e=u;cases q<;>cases u<;>first|rfl|(dsimp only;split<;>first|rfl|simp_all|(split<;>simp_all))
theorem PI (x i:AOpd) (e:Env) (σ:St):aop (.sindex x i) e σ=(AM (x.ev e) (i.ev e)).map (·,σ):=by
 simp only [aop,AM];generalize gM (i.ev e)=q;generalize x.ev e=u;cases q<;>cases u<;>first|rfl|(dsimp only;split<;>first|rfl|(rename_i k b h;cases b[k.toNat]?<;>rfl))
theorem SG (sh:EqTy) (ok:Bool) (z:AV) (m k:AOpd) (e:Env) (σ:St):aop (.lookup sh ok z m k) e σ=(LJ ok z (vC sh σ (m.ev e) (k.ev e))).map (·,σ):=by
 simp only [aop,LJ];cases vC sh σ (m.ev e) (k.ev e) with
 |none=>rfl
 |some o=>cases o<;>rfl
theorem S3 (sh:EqTy) (m k v:AOpd) (e:Env) (σ:St):aop (.mapset sh m k v) e σ=(AC sh σ (m.ev e) (k.ev e) (v.ev e)).map (.tuple [],·):=by
 simp only [aop,AC];repeat' split
 all_goals simp_all
theorem aD8 (x:AOpd) (i:Nat) (e:Env) (σ:St):aop (.ext x i) e σ=(TR i (x.ev e)).map (·,σ):=by
 simp only [aop,TR];cases x.ev e<;>simp<;>(rename_i vs;cases vs[i]?<;>simp)
theorem aEF (k:Nat) (x:AOpd) (e:Env) (σ:St):aop (.len k x) e σ=(kD k σ (x.ev e)).map fun n=>(.int .i64 n,σ):=by
 simp only [aop];cases kD k σ (x.ev e)<;>simp
theorem TM (n b:Nat) (x y:AOpd) (e:Env) (σ:St):aop (.append n b x y) e σ=cO n b σ (x.ev e) (y.ev e):=by
 simp only [aop]
theorem VI (n b:Nat) (x y:AOpd) (e:Env) (σ:St):aop (.apref n b x y) e σ=uQ n b σ (x.ev e) (y.ev e):=by
 simp only [aop]
theorem aCD (n:Nat) (x y:AOpd) (e:Env) (σ:St):aop (.copy n x y) e σ=s8 n σ (x.ev e) (y.ev e):=by
 simp only [aop]
theorem aF9 (xs:List AOpd) (e:Env) (σ:St):aop (.min xs) e σ=(zF (evs e xs)).map (·,σ):=by
 simp only [aop,nY];cases zF (evs e xs)<;>simp
theorem aF5 (xs:List AOpd) (e:Env) (σ:St):aop (.max xs) e σ=(zB (evs e xs)).map (·,σ):=by
 simp only [aop,nY];cases zB (evs e xs)<;>simp
theorem Q9 (x:AOpd) (e:Env) (σ:St):aop (.srange x) e σ=(W7 (x.ev e)).map fun s=>(.ptr σ.length 0,σ++[.siter s 0]):=by
 simp only [aop,W7];cases x.ev e<;>simp
theorem V4 (x:AOpd) (e:Env) (σ:St):aop (.snext x) e σ=yL σ (x.ev e):=by
 simp only [aop,yL];cases x.ev e<;>rfl
theorem aFM (x:AOpd) (d:Option Nat) (os:List AOper) (e:Env) (σ:St) (K:Env→St→Prop):aQ T (⟨d,.mov x,none⟩::os) e σ K=bO (K:=⟨fun v σ'=>aQ T os (Env.put e d v) σ' K⟩) (aop (.mov x) e σ):=by simp only [aQ,g9,bO]
theorem US (z:List AV) (d:Option Nat) (os:List AOper) (e:Env) (σ:St) (K:Env→St→Prop):aQ T (⟨d,.alloc z,none⟩::os) e σ K=bO (K:=⟨fun v σ'=>aQ T os (Env.put e d v) σ' K⟩) (aop (.alloc z) e σ):=by simp only [aQ,g9,bO]
theorem aC8 (c x y:AOpd) (d:Option Nat) (os:List AOper) (e:Env) (σ:St) (K:Env→St→Prop):aQ T (⟨d,.pick c x y,none⟩::os) e σ K=bO (K:=⟨fun v σ'=>aQ T os (Env.put e d v) σ' K⟩) (aop (.pick c x y) e σ):=by simp only [aQ,g9,bO]
theorem aEH (n:Nat) (x:AOpd) (d:Option Nat) (os:List AOper) (e:Env) (σ:St) (K:Env→St→Prop):aQ T (⟨d,.box n x,none⟩::os) e σ K=bO (K:=⟨fun v σ'=>aQ T os (Env.put e d v) σ' K⟩) (aop (.box n x) e σ):=by simp only [aQ,g9,bO]
theorem VM (z:List AV) (ps:List (Nat×Nat×AOpd)) (d:Option Nat) (os:List AOper) (e:Env) (σ:St) (K:Env→St→Prop):aQ T (⟨d,.build z ps,none⟩::os) e σ K=bO (K:=⟨fun v σ'=>aQ T os (Env.put e d v) σ' K⟩) (aop (.build z ps) e σ):=by simp only [aQ,g9,bO]
theorem WW (n:Nat) (xs:List AOpd) (d:Option Nat) (os:List AOper) (e:Env) (σ:St) (K:Env→St→Prop):aQ T (⟨d,.mklit n xs,none⟩::os) e σ K=bO (K:=⟨fun v σ'=>aQ T os (Env.put e d v) σ' K⟩) (aop (.mklit n xs) e σ):=by simp only [aQ,g9,bO]
theorem U9 (n:Nat) (xs:List AOpd) (d:Option Nat) (os:List AOper) (e:Env) (σ:St) (K:Env→St→Prop):aQ T (⟨d,.mkref n xs,none⟩::os) e σ K=bO (K:=⟨fun v σ'=>aQ T os (Env.put e d v) σ' K⟩) (aop (.mkref n xs) e σ):=by simp only [aQ,g9,bO]
theorem aCK (sh:Option Nat) (x:AOpd) (d:Option Nat) (os:List AOper) (e:Env) (σ:St) (K:Env→St→Prop):aQ T (⟨d,.load sh x,none⟩::os) e σ K=bO (K:=⟨fun v σ'=>aQ T os (Env.put e d v) σ' K⟩) (aop (.load sh x) e σ):=by simp only [aQ,g9,bO]
theorem XD (n:Nat) (x y:AOpd) (d:Option Nat) (os:List AOper) (e:Env) (σ:St) (K:Env→St→Prop):aQ T (⟨d,.store n x y,none⟩::os) e σ K=bO (K:=⟨fun v σ'=>aQ T os (Env.put e d v) σ' K⟩) (aop (.store n x y) e σ):=by simp only [aQ,g9,bO]
theorem JX (x:AOpd) (d:Option Nat) (os:List AOper) (e:Env) (σ:St) (K:Env→St→Prop):aQ T (⟨d,.nilCheck x,none⟩::os) e σ K=bO (K:=⟨fun v σ'=>aQ T os (Env.put e d v) σ' K⟩) (aop (.nilCheck x) e σ):=by simp only [aQ,g9,bO]
theorem aFH (op:BinOp) (x y:AOpd) (d:Option Nat) (os:List AOper) (e:Env) (σ:St) (K:Env→St→Prop):aQ T (⟨d,.bin op x y,none⟩::os) e σ K=bO (K:=⟨fun v σ'=>aQ T os (Env.put e d v) σ' K⟩) (aop (.bin op x y) e σ):=by simp only [aQ,g9,bO]
theorem aFO (sh:EqTy) (n:Bool) (x y:AOpd) (d:Option Nat) (os:List AOper) (e:Env) (σ:St) (K:Env→St→Prop):aQ T (⟨d,.eql sh n x y,none⟩::os) e σ K=bO (K:=⟨fun v σ'=>aQ T os (Env.put e d v) σ' K⟩) (aop (.eql sh n x y) e σ):=by simp only [aQ,g9,bO]
theorem aDD (x:AOpd) (d:Option Nat) (os:List AOper) (e:Env) (σ:St) (K:Env→St→Prop):aQ T (⟨d,.not x,none⟩::os) e σ K=bO (K:=⟨fun v σ'=>aQ T os (Env.put e d v) σ' K⟩) (aop (.not x) e σ):=by simp only [aQ,g9,bO]
theorem aD2 (x:AOpd) (d:Option Nat) (os:List AOper) (e:Env) (σ:St) (K:Env→St→Prop):aQ T (⟨d,.neg x,none⟩::os) e σ K=bO (K:=⟨fun v σ'=>aQ T os (Env.put e d v) σ' K⟩) (aop (.neg x) e σ):=by simp only [aQ,g9,bO]
theorem aAE (k:IntKind) (x:AOpd) (d:Option Nat) (os:List AOper) (e:Env) (σ:St) (K:Env→St→Prop):aQ T (⟨d,.conv k x,none⟩::os) e σ K=bO (K:=⟨fun v σ'=>aQ T os (Env.put e d v) σ' K⟩) (aop (.conv k x) e σ):=by simp only [aQ,g9,bO]
theorem V1 (f:FuncId) (xs ys:List AOpd) (d:Option Nat) (os:List AOper) (e:Env) (σ:St) (K:Env→St→Prop):aQ T (⟨d,.mkfun f xs ys,none⟩::os) e σ K=bO (K:=⟨fun v σ'=>aQ T os (Env.put e d v) σ' K⟩) (aop (.mkfun f xs ys) e σ):=by simp only [aQ,g9,bO]
theorem UL  (d:Option Nat) (os:List AOper) (e:Env) (σ:St) (K:Env→St→Prop):aQ T (⟨d,.mkmap,none⟩::os) e σ K=bO (K:=⟨fun v σ'=>aQ T os (Env.put e d v) σ' K⟩) (aop (.mkmap) e σ):=by simp only [aQ,g9,bO]
theorem NQ (z:List AV) (b:Nat) (x y:AOpd) (d:Option Nat) (os:List AOper) (e:Env) (σ:St) (K:Env→St→Prop):aQ T (⟨d,.mkslice z b x y,none⟩::os) e σ K=bO (K:=⟨fun v σ'=>aQ T os (Env.put e d v) σ' K⟩) (aop (.mkslice z b x y) e σ):=by simp only [aQ,g9,bO]
theorem RE (n:Nat) (x:AOpd) (lo hi mx:Option AOpd) (d:Option Nat) (os:List AOper) (e:Env) (σ:St) (K:Env→St→Prop):aQ T (⟨d,.slicev n x lo hi mx,none⟩::os) e σ K=bO (K:=⟨fun v σ'=>aQ T os (Env.put e d v) σ' K⟩) (aop (.slicev n x lo hi mx) e σ):=by simp only [aQ,g9,bO]
theorem RY (n s:Nat) (x:AOpd) (lo hi:Option AOpd) (d:Option Nat) (os:List AOper) (e:Env) (σ:St) (K:Env→St→Prop):aQ T (⟨d,.slicea n s x lo hi,none⟩::os) e σ K=bO (K:=⟨fun v σ'=>aQ T os (Env.put e d v) σ' K⟩) (aop (.slicea n s x lo hi) e σ):=by simp only [aQ,g9,bO]
theorem V3 (x:AOpd) (o:Nat) (d:Option Nat) (os:List AOper) (e:Env) (σ:St) (K:Env→St→Prop):aQ T (⟨d,.faddr x o,none⟩::os) e σ K=bO (K:=⟨fun v σ'=>aQ T os (Env.put e d v) σ' K⟩) (aop (.faddr x o) e σ):=by simp only [aQ,g9,bO]
theorem T8 (x:AOpd) (o:Nat) (sh:Option Nat) (d:Option Nat) (os:List AOper) (e:Env) (σ:St) (K:Env→St→Prop):aQ T (⟨d,.field x o sh,none⟩::os) e σ K=bO (K:=⟨fun v σ'=>aQ T os (Env.put e d v) σ' K⟩) (aop (.field x o sh) e σ):=by simp only [aQ,g9,bO]
theorem U0 (a:Option Nat) (s:Nat) (x i:AOpd) (d:Option Nat) (os:List AOper) (e:Env) (σ:St) (K:Env→St→Prop):aQ T (⟨d,.iaddr a s x i,none⟩::os) e σ K=bO (K:=⟨fun v σ'=>aQ T os (Env.put e d v) σ' K⟩) (aop (.iaddr a s x i) e σ):=by simp only [aQ,g9,bO]
theorem VX (n s:Nat) (sh:Option Nat) (x i:AOpd) (d:Option Nat) (os:List AOper) (e:Env) (σ:St) (K:Env→St→Prop):aQ T (⟨d,.index n s sh x i,none⟩::os) e σ K=bO (K:=⟨fun v σ'=>aQ T os (Env.put e d v) σ' K⟩) (aop (.index n s sh x i) e σ):=by simp only [aQ,g9,bO]
theorem RI (x i:AOpd) (d:Option Nat) (os:List AOper) (e:Env) (σ:St) (K:Env→St→Prop):aQ T (⟨d,.sindex x i,none⟩::os) e σ K=bO (K:=⟨fun v σ'=>aQ T os (Env.put e d v) σ' K⟩) (aop (.sindex x i) e σ):=by simp only [aQ,g9,bO]
theorem SQ (sh:EqTy) (ok:Bool) (z:AV) (m k:AOpd) (d:Option Nat) (os:List AOper) (e:Env) (σ:St) (K:Env→St→Prop):aQ T (⟨d,.lookup sh ok z m k,none⟩::os) e σ K=bO (K:=⟨fun v σ'=>aQ T os (Env.put e d v) σ' K⟩) (aop (.lookup sh ok z m k) e σ):=by simp only [aQ,g9,bO]
theorem O2 (sh:EqTy) (m k v:AOpd) (d:Option Nat) (os:List AOper) (e:Env) (σ:St) (K:Env→St→Prop):aQ T (⟨d,.mapset sh m k v,none⟩::os) e σ K=bO (K:=⟨fun v σ'=>aQ T os (Env.put e d v) σ' K⟩) (aop (.mapset sh m k v) e σ):=by simp only [aQ,g9,bO]
theorem aGA (x:AOpd) (i:Nat) (d:Option Nat) (os:List AOper) (e:Env) (σ:St) (K:Env→St→Prop):aQ T (⟨d,.ext x i,none⟩::os) e σ K=bO (K:=⟨fun v σ'=>aQ T os (Env.put e d v) σ' K⟩) (aop (.ext x i) e σ):=by simp only [aQ,g9,bO]
theorem aDM (k:Nat) (x:AOpd) (d:Option Nat) (os:List AOper) (e:Env) (σ:St) (K:Env→St→Prop):aQ T (⟨d,.len k x,none⟩::os) e σ K=bO (K:=⟨fun v σ'=>aQ T os (Env.put e d v) σ' K⟩) (aop (.len k x) e σ):=by simp only [aQ,g9,bO]
theorem O3 (n b:Nat) (x y:AOpd) (d:Option Nat) (os:List AOper) (e:Env) (σ:St) (K:Env→St→Prop):aQ T (⟨d,.append n b x y,none⟩::os) e σ K=bO (K:=⟨fun v σ'=>aQ T os (Env.put e d v) σ' K⟩) (aop (.append n b x y) e σ):=by simp only [aQ,g9,bO]
theorem UK (n b:Nat) (x y:AOpd) (d:Option Nat) (os:List AOper) (e:Env) (σ:St) (K:Env→St→Prop):aQ T (⟨d,.apref n b x y,none⟩::os) e σ K=bO (K:=⟨fun v σ'=>aQ T os (Env.put e d v) σ' K⟩) (aop (.apref n b x y) e σ):=by simp only [aQ,g9,bO]
theorem aA7 (n:Nat) (x y:AOpd) (d:Option Nat) (os:List AOper) (e:Env) (σ:St) (K:Env→St→Prop):aQ T (⟨d,.copy n x y,none⟩::os) e σ K=bO (K:=⟨fun v σ'=>aQ T os (Env.put e d v) σ' K⟩) (aop (.copy n x y) e σ):=by simp only [aQ,g9,bO]
theorem aF1 (xs:List AOpd) (d:Option Nat) (os:List AOper) (e:Env) (σ:St) (K:Env→St→Prop):aQ T (⟨d,.min xs,none⟩::os) e σ K=bO (K:=⟨fun v σ'=>aQ T os (Env.put e d v) σ' K⟩) (aop (.min xs) e σ):=by simp only [aQ,g9,bO]
theorem aDP (xs:List AOpd) (d:Option Nat) (os:List AOper) (e:Env) (σ:St) (K:Env→St→Prop):aQ T (⟨d,.max xs,none⟩::os) e σ K=bO (K:=⟨fun v σ'=>aQ T os (Env.put e d v) σ' K⟩) (aop (.max xs) e σ):=by simp only [aQ,g9,bO]
theorem PW (x:AOpd) (d:Option Nat) (os:List AOper) (e:Env) (σ:St) (K:Env→St→Prop):aQ T (⟨d,.srange x,none⟩::os) e σ K=bO (K:=⟨fun v σ'=>aQ T os (Env.put e d v) σ' K⟩) (aop (.srange x) e σ):=by simp only [aQ,g9,bO]
theorem VO (x:AOpd) (d:Option Nat) (os:List AOper) (e:Env) (σ:St) (K:Env→St→Prop):aQ T (⟨d,.snext x,none⟩::os) e σ K=bO (K:=⟨fun v σ'=>aQ T os (Env.put e d v) σ' K⟩) (aop (.snext x) e σ):=by simp only [aQ,g9,bO]
theorem aB0 (f:AOpd) (xs:List AOpd) (d:Option Nat) (os:List AOper) (e:Env) (σ:St) (K:Env→St→Prop):aQ T (⟨d,.call f xs,none⟩::os) e σ K=cK (K:=⟨fun v σ'=>aQ T os (Env.put e d v) σ' K⟩) T (f.ev e) (evs e xs) σ:=by simp only [aQ,g9,nY,cK]
theorem VP (b:Bool) (A B:HP Prop):bB (.bool b) (A:=A) (B:=B)=zX (A:=A) (B:=B) b:=by cases b<;>simp [bB,CQ,zX]
theorem TJ (b:Bool) (A B:HP Prop):bG (.bool b) true (A:=A) (B:=B)=zX (A:=A) (B:=B) b:=by cases b<;>simp [bG,oG,zX]
theorem RF (b:Bool) (A B:HP Prop):bG (.bool b) false (A:=A) (B:=B)=zX (A:=B) (B:=A) b:=by cases b<;>simp [bG,oG,zX]
theorem TF (w:Bool) (A:HP Prop) (B:Prop):bG (.tuple []) w (A:=A) (B:=⟨B⟩)=B:=by simp [bG,oG]
theorem TT (d:Option Nat) (q:AOp) (t:Nat) (want:Bool) (os:List AOper) (e:Env) (σ:St) (K:Env→St→Prop):aQ T (⟨d,q,some (t,want)⟩::os) e σ K =
  bG (A:=⟨aQ T (⟨d,q,none⟩::os) e σ K⟩) (B:=⟨aQ T os (Env.put e d (.tuple [])) σ K⟩) (Env.get e t) want:=by simp only [aQ,bG]
theorem aEL (ds:List ADOper) (e:Env) (σ:St) (K:KJ):wp T (.dreg ds) e σ K=rK (K:=⟨K⟩) T (.dreg ds) e σ:=by simp only [wp,rK]
theorem K4 {ds:List ADOper} {e:Env} {σ:St} {K:KJ} (h:wpD T ds e (σ++eJ ds) σ.length [σ++eJ ds] [] fun e σ=>K none e σ):rK (K:=⟨K⟩) T (.dreg ds) e σ:=.dreg (lV h fun e σ hk=>hk)
theorem aEA (e:Env) (σ:St) (next:Nat) (hist:List St) (reads:List ARead) (K:Env→St→Prop):wpD T [] e σ next hist reads K=(qZ reads hist∧K e σ):=by simp only [wpD]
theorem aAR (f:AOpd) (xs:List AOpd) (d:Option Nat) (lo hi:Nat) (ds:List ADOper) (e:Env) (σ:St) (next:Nat) (hist:List St) (reads:List ARead) (K:Env→St→Prop) :
  wpD T (⟨⟨d,.call f xs,none⟩,lo,hi⟩::ds) e σ next hist reads K=cD (K:=⟨fun v σ'=>wpD T ds (Env.put e d v) σ' next (hist++[σ']) reads K⟩) T (f.ev e) (evs e xs) σ:=by simp only [wpD,nY,cD]
theorem UF (z:List AV) (d:Option Nat) (lo hi:Nat) (ds:List ADOper) (e:Env) (σ:St) (next:Nat) (hist:List St) (reads:List ARead) (K:Env→St→Prop) :
  wpD T (⟨⟨d,.alloc z,none⟩,lo,hi⟩::ds) e σ next hist reads K=wpD T ds (Env.put e d (.ptr next 0)) σ (next+1) hist reads K:=by simp only [wpD]
def vA (lo hi:Nat) (q:AOp) (e:Env) (v:AV):List St→Nat→Prop
 |[],_=>True
 |s::ss,j=>(if lo≤j∧j≤hi then aop q e s=some (v,s) else True)∧vA lo hi q e v ss (j+1)
theorem HL (r:ARead):∀ (ss:List St) (j:Nat),vA r.lo r.hi r.op r.env r.v ss j=ER r ss j
 |[],j=>by simp only [vA,ER]
 |s::ss,j=>by simp only [vA,ER,HL r ss (j+1)]
theorem O7 (hist:List St):qZ [] hist=True:=by simp only [qZ]
theorem QZ (lo hi:Nat) (q:AOp) (e:Env) (v:AV) (rs:List ARead) (hist:List St):qZ (⟨lo,hi,q,e,v⟩::rs) hist=(vA lo hi q e v hist 0∧qZ rs hist):=by
 simp only [qZ];rw [←HL]
theorem W3 (lo hi:Nat) (q:AOp) (e:Env) (v:AV) (j:Nat):vA lo hi q e v [] j=True:=by simp only [vA]
theorem VZ (lo hi:Nat) (q:AOp) (e:Env) (v:AV) (s:St) (ss:List St) (j:Nat):vA lo hi q e v (s::ss) j=((if lo≤j∧j≤hi then aop q e s=some (v,s) else True)∧vA lo hi q e v ss (j+1)):=by simp only [vA]
theorem aFP (x:AOpd) (d:Option Nat) (wl wh:Nat) (ds:List ADOper) (e:Env) (σ:St) (next:Nat) (hist:List St) (reads:List ARead) (K:Env→St→Prop):wpD T (⟨⟨d,.mov x,none⟩,wl,wh⟩::ds) e σ next hist reads K=bO (K:=⟨fun v σ'=>σ'=σ∧wpD T ds (Env.put e d v) σ next hist reads K⟩) (aop (.mov x) e σ):=by
 simp only [wpD,bO,AOp.acts,AOp.reads,if_true,Bool.false_eq_true,if_false]
theorem Z9 (c x y:AOpd) (d:Option Nat) (wl wh:Nat) (ds:List ADOper) (e:Env) (σ:St) (next:Nat) (hist:List St) (reads:List ARead) (K:Env→St→Prop):wpD T (⟨⟨d,.pick c x y,none⟩,wl,wh⟩::ds) e σ next hist reads K=bO (K:=⟨fun v σ'=>σ'=σ∧wpD T ds (Env.put e d v) σ next hist reads K⟩) (aop (.pick c x y) e σ):=by
 simp only [wpD,bO,AOp.acts,AOp.reads,if_true,Bool.false_eq_true,if_false]
theorem aD5 (n:Nat) (x:AOpd) (d:Option Nat) (wl wh:Nat) (ds:List ADOper) (e:Env) (σ:St) (next:Nat) (hist:List St) (reads:List ARead) (K:Env→St→Prop):wpD T (⟨⟨d,.box n x,none⟩,wl,wh⟩::ds) e σ next hist reads K=bO (K:=⟨fun v σ'=>wpD T ds (Env.put e d v) σ' next (hist++[σ']) reads K⟩) (aop (.box n x) e σ):=by
 simp only [wpD,bO,AOp.acts,AOp.reads,if_true,Bool.false_eq_true,if_false]
theorem WR (z:List AV) (ps:List (Nat×Nat×AOpd)) (d:Option Nat) (wl wh:Nat) (ds:List ADOper) (e:Env) (σ:St) (next:Nat) (hist:List St) (reads:List ARead) (K:Env→St→Prop):wpD T (⟨⟨d,.build z ps,none⟩,wl,wh⟩::ds) e σ next hist reads K=bO (K:=⟨fun v σ'=>σ'=σ∧wpD T ds (Env.put e d v) σ next hist reads K⟩) (aop (.build z ps) e σ):=by
 simp only [wpD,bO,AOp.acts,AOp.reads,if_true,Bool.false_eq_true,if_false]
theorem VW (n:Nat) (xs:List AOpd) (d:Option Nat) (wl wh:Nat) (ds:List ADOper) (e:Env) (σ:St) (next:Nat) (hist:List St) (reads:List ARead) (K:Env→St→Prop):wpD T (⟨⟨d,.mklit n xs,none⟩,wl,wh⟩::ds) e σ next hist reads K=bO (K:=⟨fun v σ'=>σ'=σ∧wpD T ds (Env.put e d v) σ next hist reads K⟩) (aop (.mklit n xs) e σ):=by
 simp only [wpD,bO,AOp.acts,AOp.reads,if_true,Bool.false_eq_true,if_false]
theorem WG (n:Nat) (xs:List AOpd) (d:Option Nat) (wl wh:Nat) (ds:List ADOper) (e:Env) (σ:St) (next:Nat) (hist:List St) (reads:List ARead) (K:Env→St→Prop):wpD T (⟨⟨d,.mkref n xs,none⟩,wl,wh⟩::ds) e σ next hist reads K=bO (K:=⟨fun v σ'=>wpD T ds (Env.put e d v) σ' next (hist++[σ']) reads K⟩) (aop (.mkref n xs) e σ):=by
 simp only [wpD,bO,AOp.acts,AOp.reads,if_true,Bool.false_eq_true,if_false]
theorem aBI (sh:Option Nat) (x:AOpd) (d:Option Nat) (wl wh:Nat) (ds:List ADOper) (e:Env) (σ:St) (next:Nat) (hist:List St) (reads:List ARead) (K:Env→St→Prop):wpD T (⟨⟨d,.load sh x,none⟩,wl,wh⟩::ds) e σ next hist reads K=bO (K:=⟨fun v σ'=>σ'=σ∧wpD T ds (Env.put e d v) σ next hist (⟨wl,wh,.load sh x,e,v⟩::reads) K⟩) (aop (.load sh x) e σ):=by
 simp only [wpD,bO,AOp.acts,AOp.reads,if_true,Bool.false_eq_true,if_false]
theorem UW (n:Nat) (x y:AOpd) (d:Option Nat) (wl wh:Nat) (ds:List ADOper) (e:Env) (σ:St) (next:Nat) (hist:List St) (reads:List ARead) (K:Env→St→Prop):wpD T (⟨⟨d,.store n x y,none⟩,wl,wh⟩::ds) e σ next hist reads K=bO (K:=⟨fun v σ'=>wpD T ds (Env.put e d v) σ' next (hist++[σ']) reads K⟩) (aop (.store n x y) e σ):=by
 simp only [wpD,bO,AOp.acts,AOp.reads,if_true,Bool.false_eq_true,if_false]
theorem J3 (x:AOpd) (d:Option Nat) (wl wh:Nat) (ds:List ADOper) (e:Env) (σ:St) (next:Nat) (hist:List St) (reads:List ARead) (K:Env→St→Prop):wpD T (⟨⟨d,.nilCheck x,none⟩,wl,wh⟩::ds) e σ next hist reads K=bO (K:=⟨fun v σ'=>σ'=σ∧wpD T ds (Env.put e d v) σ next hist reads K⟩) (aop (.nilCheck x) e σ):=by
 simp only [wpD,bO,AOp.acts,AOp.reads,if_true,Bool.false_eq_true,if_false]
theorem aEG (op:BinOp) (x y:AOpd) (d:Option Nat) (wl wh:Nat) (ds:List ADOper) (e:Env) (σ:St) (next:Nat) (hist:List St) (reads:List ARead) (K:Env→St→Prop):wpD T (⟨⟨d,.bin op x y,none⟩,wl,wh⟩::ds) e σ next hist reads K=bO (K:=⟨fun v σ'=>σ'=σ∧wpD T ds (Env.put e d v) σ next hist reads K⟩) (aop (.bin op x y) e σ):=by
 simp only [wpD,bO,AOp.acts,AOp.reads,if_true,Bool.false_eq_true,if_false]
theorem aFA (sh:EqTy) (n:Bool) (x y:AOpd) (d:Option Nat) (wl wh:Nat) (ds:List ADOper) (e:Env) (σ:St) (next:Nat) (hist:List St) (reads:List ARead) (K:Env→St→Prop):wpD T (⟨⟨d,.eql sh n x y,none⟩,wl,wh⟩::ds) e σ next hist reads K=bO (K:=⟨fun v σ'=>σ'=σ∧wpD T ds (Env.put e d v) σ next hist reads K⟩) (aop (.eql sh n x y) e σ):=by
 simp only [wpD,bO,AOp.acts,AOp.reads,if_true,Bool.false_eq_true,if_false]
theorem aDT (x:AOpd) (d:Option Nat) (wl wh:Nat) (ds:List ADOper) (e:Env) (σ:St) (next:Nat) (hist:List St) (reads:List ARead) (K:Env→St→Prop):wpD T (⟨⟨d,.not x,none⟩,wl,wh⟩::ds) e σ next hist reads K=bO (K:=⟨fun v σ'=>σ'=σ∧wpD T ds (Env.put e d v) σ next hist reads K⟩) (aop (.not x) e σ):=by
 simp only [wpD,bO,AOp.acts,AOp.reads,if_true,Bool.false_eq_true,if_false]
theorem aGH (x:AOpd) (d:Option Nat) (wl wh:Nat) (ds:List ADOper) (e:Env) (σ:St) (next:Nat) (hist:List St) (reads:List ARead) (K:Env→St→Prop):wpD T (⟨⟨d,.neg x,none⟩,wl,wh⟩::ds) e σ next hist reads K=bO (K:=⟨fun v σ'=>σ'=σ∧wpD T ds (Env.put e d v) σ next hist reads K⟩) (aop (.neg x) e σ):=by
 simp only [wpD,bO,AOp.acts,AOp.reads,if_true,Bool.false_eq_true,if_false]
theorem aCI (k:IntKind) (x:AOpd) (d:Option Nat) (wl wh:Nat) (ds:List ADOper) (e:Env) (σ:St) (next:Nat) (hist:List St) (reads:List ARead) (K:Env→St→Prop):wpD T (⟨⟨d,.conv k x,none⟩,wl,wh⟩::ds) e σ next hist reads K=bO (K:=⟨fun v σ'=>σ'=σ∧wpD T ds (Env.put e d v) σ next hist reads K⟩) (aop (.conv k x) e σ):=by
 simp only [wpD,bO,AOp.acts,AOp.reads,if_true,Bool.false_eq_true,if_false]
theorem T0 (f:FuncId) (xs ys:List AOpd) (d:Option Nat) (wl wh:Nat) (ds:List ADOper) (e:Env) (σ:St) (next:Nat) (hist:List St) (reads:List ARead) (K:Env→St→Prop):wpD T (⟨⟨d,.mkfun f xs ys,none⟩,wl,wh⟩::ds) e σ next hist reads K=bO (K:=⟨fun v σ'=>σ'=σ∧wpD T ds (Env.put e d v) σ next hist reads K⟩) (aop (.mkfun f xs ys) e σ):=by
 simp only [wpD,bO,AOp.acts,AOp.reads,if_true,Bool.false_eq_true,if_false]
theorem U8  (d:Option Nat) (wl wh:Nat) (ds:List ADOper) (e:Env) (σ:St) (next:Nat) (hist:List St) (reads:List ARead) (K:Env→St→Prop):wpD T (⟨⟨d,.mkmap,none⟩,wl,wh⟩::ds) e σ next hist reads K=bO (K:=⟨fun v σ'=>wpD T ds (Env.put e d v) σ' next (hist++[σ']) reads K⟩) (aop (.mkmap) e σ):=by
 simp only [wpD,bO,AOp.acts,AOp.reads,if_true,Bool.false_eq_true,if_false]
theorem NA (z:List AV) (b:Nat) (x y:AOpd) (d:Option Nat) (wl wh:Nat) (ds:List ADOper) (e:Env) (σ:St) (next:Nat) (hist:List St) (reads:List ARead) (K:Env→St→Prop):wpD T (⟨⟨d,.mkslice z b x y,none⟩,wl,wh⟩::ds) e σ next hist reads K=bO (K:=⟨fun v σ'=>wpD T ds (Env.put e d v) σ' next (hist++[σ']) reads K⟩) (aop (.mkslice z b x y) e σ):=by
 simp only [wpD,bO,AOp.acts,AOp.reads,if_true,Bool.false_eq_true,if_false]
theorem RM (n:Nat) (x:AOpd) (lo hi mx:Option AOpd) (d:Option Nat) (wl wh:Nat) (ds:List ADOper) (e:Env) (σ:St) (next:Nat) (hist:List St) (reads:List ARead) (K:Env→St→Prop):wpD T (⟨⟨d,.slicev n x lo hi mx,none⟩,wl,wh⟩::ds) e σ next hist reads K=bO (K:=⟨fun v σ'=>σ'=σ∧wpD T ds (Env.put e d v) σ next hist (⟨wl,wh,.slicev n x lo hi mx,e,v⟩::reads) K⟩) (aop (.slicev n x lo hi mx) e σ):=by
 simp only [wpD,bO,AOp.acts,AOp.reads,if_true,Bool.false_eq_true,if_false]
theorem QM (n s:Nat) (x:AOpd) (lo hi:Option AOpd) (d:Option Nat) (wl wh:Nat) (ds:List ADOper) (e:Env) (σ:St) (next:Nat) (hist:List St) (reads:List ARead) (K:Env→St→Prop):wpD T (⟨⟨d,.slicea n s x lo hi,none⟩,wl,wh⟩::ds) e σ next hist reads K=bO (K:=⟨fun v σ'=>σ'=σ∧wpD T ds (Env.put e d v) σ next hist reads K⟩) (aop (.slicea n s x lo hi) e σ):=by
 simp only [wpD,bO,AOp.acts,AOp.reads,if_true,Bool.false_eq_true,if_false]
theorem XE (x:AOpd) (o:Nat) (d:Option Nat) (wl wh:Nat) (ds:List ADOper) (e:Env) (σ:St) (next:Nat) (hist:List St) (reads:List ARead) (K:Env→St→Prop):wpD T (⟨⟨d,.faddr x o,none⟩,wl,wh⟩::ds) e σ next hist reads K=bO (K:=⟨fun v σ'=>σ'=σ∧wpD T ds (Env.put e d v) σ next hist reads K⟩) (aop (.faddr x o) e σ):=by
 simp only [wpD,bO,AOp.acts,AOp.reads,if_true,Bool.false_eq_true,if_false]
theorem VC (x:AOpd) (o:Nat) (sh:Option Nat) (d:Option Nat) (wl wh:Nat) (ds:List ADOper) (e:Env) (σ:St) (next:Nat) (hist:List St) (reads:List ARead) (K:Env→St→Prop):wpD T (⟨⟨d,.field x o sh,none⟩,wl,wh⟩::ds) e σ next hist reads K=bO (K:=⟨fun v σ'=>σ'=σ∧wpD T ds (Env.put e d v) σ next hist reads K⟩) (aop (.field x o sh) e σ):=by
 simp only [wpD,bO,AOp.acts,AOp.reads,if_true,Bool.false_eq_true,if_false]
theorem WH (a:Option Nat) (s:Nat) (x i:AOpd) (d:Option Nat) (wl wh:Nat) (ds:List ADOper) (e:Env) (σ:St) (next:Nat) (hist:List St) (reads:List ARead) (K:Env→St→Prop):wpD T (⟨⟨d,.iaddr a s x i,none⟩,wl,wh⟩::ds) e σ next hist reads K=bO (K:=⟨fun v σ'=>σ'=σ∧wpD T ds (Env.put e d v) σ next hist reads K⟩) (aop (.iaddr a s x i) e σ):=by
 simp only [wpD,bO,AOp.acts,AOp.reads,if_true,Bool.false_eq_true,if_false]
theorem VU (n s:Nat) (sh:Option Nat) (x i:AOpd) (d:Option Nat) (wl wh:Nat) (ds:List ADOper) (e:Env) (σ:St) (next:Nat) (hist:List St) (reads:List ARead) (K:Env→St→Prop):wpD T (⟨⟨d,.index n s sh x i,none⟩,wl,wh⟩::ds) e σ next hist reads K=bO (K:=⟨fun v σ'=>σ'=σ∧wpD T ds (Env.put e d v) σ next hist reads K⟩) (aop (.index n s sh x i) e σ):=by
 simp only [wpD,bO,AOp.acts,AOp.reads,if_true,Bool.false_eq_true,if_false]
theorem Q0 (x i:AOpd) (d:Option Nat) (wl wh:Nat) (ds:List ADOper) (e:Env) (σ:St) (next:Nat) (hist:List St) (reads:List ARead) (K:Env→St→Prop):wpD T (⟨⟨d,.sindex x i,none⟩,wl,wh⟩::ds) e σ next hist reads K=bO (K:=⟨fun v σ'=>σ'=σ∧wpD T ds (Env.put e d v) σ next hist reads K⟩) (aop (.sindex x i) e σ):=by
 simp only [wpD,bO,AOp.acts,AOp.reads,if_true,Bool.false_eq_true,if_false]
theorem OY (sh:EqTy) (ok:Bool) (z:AV) (m k:AOpd) (d:Option Nat) (wl wh:Nat) (ds:List ADOper) (e:Env) (σ:St) (next:Nat) (hist:List St) (reads:List ARead) (K:Env→St→Prop):wpD T (⟨⟨d,.lookup sh ok z m k,none⟩,wl,wh⟩::ds) e σ next hist reads K=bO (K:=⟨fun v σ'=>σ'=σ∧wpD T ds (Env.put e d v) σ next hist (⟨wl,wh,.lookup sh ok z m k,e,v⟩::reads) K⟩) (aop (.lookup sh ok z m k) e σ):=by
 simp only [wpD,bO,AOp.acts,AOp.reads,if_true,Bool.false_eq_true,if_false]
theorem SI (sh:EqTy) (m k v:AOpd) (d:Option Nat) (wl wh:Nat) (ds:List ADOper) (e:Env) (σ:St) (next:Nat) (hist:List St) (reads:List ARead) (K:Env→St→Prop):wpD T (⟨⟨d,.mapset sh m k v,none⟩,wl,wh⟩::ds) e σ next hist reads K=bO (K:=⟨fun v σ'=>wpD T ds (Env.put e d v) σ' next (hist++[σ']) reads K⟩) (aop (.mapset sh m k v) e σ):=by
 simp only [wpD,bO,AOp.acts,AOp.reads,if_true,Bool.false_eq_true,if_false]
theorem aGB (x:AOpd) (i:Nat) (d:Option Nat) (wl wh:Nat) (ds:List ADOper) (e:Env) (σ:St) (next:Nat) (hist:List St) (reads:List ARead) (K:Env→St→Prop):wpD T (⟨⟨d,.ext x i,none⟩,wl,wh⟩::ds) e σ next hist reads K=bO (K:=⟨fun v σ'=>σ'=σ∧wpD T ds (Env.put e d v) σ next hist reads K⟩) (aop (.ext x i) e σ):=by
 simp only [wpD,bO,AOp.acts,AOp.reads,if_true,Bool.false_eq_true,if_false]
theorem aDC (k:Nat) (x:AOpd) (d:Option Nat) (wl wh:Nat) (ds:List ADOper) (e:Env) (σ:St) (next:Nat) (hist:List St) (reads:List ARead) (K:Env→St→Prop):wpD T (⟨⟨d,.len k x,none⟩,wl,wh⟩::ds) e σ next hist reads K=bO (K:=⟨fun v σ'=>σ'=σ∧wpD T ds (Env.put e d v) σ next hist (⟨wl,wh,.len k x,e,v⟩::reads) K⟩) (aop (.len k x) e σ):=by
 simp only [wpD,bO,AOp.acts,AOp.reads,if_true,Bool.false_eq_true,if_false]
theorem P3 (n b:Nat) (x y:AOpd) (d:Option Nat) (wl wh:Nat) (ds:List ADOper) (e:Env) (σ:St) (next:Nat) (hist:List St) (reads:List ARead) (K:Env→St→Prop):wpD T (⟨⟨d,.append n b x y,none⟩,wl,wh⟩::ds) e σ next hist reads K=bO (K:=⟨fun v σ'=>wpD T ds (Env.put e d v) σ' next (hist++[σ']) reads K⟩) (aop (.append n b x y) e σ):=by
 simp only [wpD,bO,AOp.acts,AOp.reads,if_true,Bool.false_eq_true,if_false]
theorem W4 (n b:Nat) (x y:AOpd) (d:Option Nat) (wl wh:Nat) (ds:List ADOper) (e:Env) (σ:St) (next:Nat) (hist:List St) (reads:List ARead) (K:Env→St→Prop):wpD T (⟨⟨d,.apref n b x y,none⟩,wl,wh⟩::ds) e σ next hist reads K=bO (K:=⟨fun v σ'=>wpD T ds (Env.put e d v) σ' next (hist++[σ']) reads K⟩) (aop (.apref n b x y) e σ):=by
 simp only [wpD,bO,AOp.acts,AOp.reads,if_true,Bool.false_eq_true,if_false]
theorem aBB (n:Nat) (x y:AOpd) (d:Option Nat) (wl wh:Nat) (ds:List ADOper) (e:Env) (σ:St) (next:Nat) (hist:List St) (reads:List ARead) (K:Env→St→Prop):wpD T (⟨⟨d,.copy n x y,none⟩,wl,wh⟩::ds) e σ next hist reads K=bO (K:=⟨fun v σ'=>wpD T ds (Env.put e d v) σ' next (hist++[σ']) reads K⟩) (aop (.copy n x y) e σ):=by
 simp only [wpD,bO,AOp.acts,AOp.reads,if_true,Bool.false_eq_true,if_false]
theorem aEC (xs:List AOpd) (d:Option Nat) (wl wh:Nat) (ds:List ADOper) (e:Env) (σ:St) (next:Nat) (hist:List St) (reads:List ARead) (K:Env→St→Prop):wpD T (⟨⟨d,.min xs,none⟩,wl,wh⟩::ds) e σ next hist reads K=bO (K:=⟨fun v σ'=>σ'=σ∧wpD T ds (Env.put e d v) σ next hist reads K⟩) (aop (.min xs) e σ):=by
 simp only [wpD,bO,AOp.acts,AOp.reads,if_true,Bool.false_eq_true,if_false]
theorem aEZ (xs:List AOpd) (d:Option Nat) (wl wh:Nat) (ds:List ADOper) (e:Env) (σ:St) (next:Nat) (hist:List St) (reads:List ARead) (K:Env→St→Prop):wpD T (⟨⟨d,.max xs,none⟩,wl,wh⟩::ds) e σ next hist reads K=bO (K:=⟨fun v σ'=>σ'=σ∧wpD T ds (Env.put e d v) σ next hist reads K⟩) (aop (.max xs) e σ):=by
 simp only [wpD,bO,AOp.acts,AOp.reads,if_true,Bool.false_eq_true,if_false]
theorem TE (x:AOpd) (d:Option Nat) (wl wh:Nat) (ds:List ADOper) (e:Env) (σ:St) (next:Nat) (hist:List St) (reads:List ARead) (K:Env→St→Prop):wpD T (⟨⟨d,.srange x,none⟩,wl,wh⟩::ds) e σ next hist reads K=bO (K:=⟨fun v σ'=>wpD T ds (Env.put e d v) σ' next (hist++[σ']) reads K⟩) (aop (.srange x) e σ):=by
 simp only [wpD,bO,AOp.acts,AOp.reads,if_true,Bool.false_eq_true,if_false]
theorem XG (x:AOpd) (d:Option Nat) (wl wh:Nat) (ds:List ADOper) (e:Env) (σ:St) (next:Nat) (hist:List St) (reads:List ARead) (K:Env→St→Prop):wpD T (⟨⟨d,.snext x,none⟩,wl,wh⟩::ds) e σ next hist reads K=bO (K:=⟨fun v σ'=>wpD T ds (Env.put e d v) σ' next (hist++[σ']) reads K⟩) (aop (.snext x) e σ):=by
 simp only [wpD,bO,AOp.acts,AOp.reads,if_true,Bool.false_eq_true,if_false]
theorem TH (f:AOpd) (xs:List AOpd) (t:Nat) (want:Bool) (d:Option Nat) (wl wh:Nat) (ds:List ADOper) (e:Env) (σ:St) (next:Nat) (hist:List St) (reads:List ARead) (K:Env→St→Prop):wpD T (⟨⟨d,.call f xs,some (t,want)⟩,wl,wh⟩::ds) e σ next hist reads K =
  bG (A:=⟨wpD T (⟨⟨d,.call f xs,none⟩,wl,wh⟩::ds) e σ next hist reads K⟩) (B:=⟨wpD T ds (Env.put e d (.tuple [])) σ next (hist++[σ]) reads K⟩) (Env.get e t) want:=by simp only [wpD,bG]
theorem aEX (x:AOpd) (t:Nat) (want:Bool) (d:Option Nat) (wl wh:Nat) (ds:List ADOper) (e:Env) (σ:St) (next:Nat) (hist:List St) (reads:List ARead) (K:Env→St→Prop):wpD T (⟨⟨d,.mov x,some (t,want)⟩,wl,wh⟩::ds) e σ next hist reads K =
  bG (A:=⟨wpD T (⟨⟨d,.mov x,none⟩,wl,wh⟩::ds) e σ next hist reads K⟩) (B:=⟨wpD T ds (Env.put e d (.tuple [])) σ next hist reads K⟩) (Env.get e t) want:=by
 simp only [wpD,bG,AOp.allocs,AOp.acts,true_and,if_true,Bool.false_eq_true,if_false]
theorem aCV (c x y:AOpd) (t:Nat) (want:Bool) (d:Option Nat) (wl wh:Nat) (ds:List ADOper) (e:Env) (σ:St) (next:Nat) (hist:List St) (reads:List ARead) (K:Env→St→Prop):wpD T (⟨⟨d,.pick c x y,some (t,want)⟩,wl,wh⟩::ds) e σ next hist reads K =
  bG (A:=⟨wpD T (⟨⟨d,.pick c x y,none⟩,wl,wh⟩::ds) e σ next hist reads K⟩) (B:=⟨wpD T ds (Env.put e d (.tuple [])) σ next hist reads K⟩) (Env.get e t) want:=by
 simp only [wpD,bG,AOp.allocs,AOp.acts,true_and,if_true,Bool.false_eq_true,if_false]
theorem aD6 (n:Nat) (x:AOpd) (t:Nat) (want:Bool) (d:Option Nat) (wl wh:Nat) (ds:List ADOper) (e:Env) (σ:St) (next:Nat) (hist:List St) (reads:List ARead) (K:Env→St→Prop):wpD T (⟨⟨d,.box n x,some (t,want)⟩,wl,wh⟩::ds) e σ next hist reads K =
  bG (A:=⟨wpD T (⟨⟨d,.box n x,none⟩,wl,wh⟩::ds) e σ next hist reads K⟩) (B:=⟨wpD T ds (Env.put e d (.tuple [])) σ next (hist++[σ]) reads K⟩) (Env.get e t) want:=by
 simp only [wpD,bG,AOp.allocs,AOp.acts,true_and,if_true,Bool.false_eq_true,if_false]
theorem T6 (z:List AV) (ps:List (Nat×Nat×AOpd)) (t:Nat) (want:Bool) (d:Option Nat) (wl wh:Nat) (ds:List ADOper) (e:Env) (σ:St) (next:Nat) (hist:List St) (reads:List ARead) (K:Env→St→Prop):wpD T (⟨⟨d,.build z ps,some (t,want)⟩,wl,wh⟩::ds) e σ next hist reads K =
  bG (A:=⟨wpD T (⟨⟨d,.build z ps,none⟩,wl,wh⟩::ds) e σ next hist reads K⟩) (B:=⟨wpD T ds (Env.put e d (.tuple [])) σ next hist reads K⟩) (Env.get e t) want:=by
 simp only [wpD,bG,AOp.allocs,AOp.acts,true_and,if_true,Bool.false_eq_true,if_false]
theorem WI (n:Nat) (xs:List AOpd) (t:Nat) (want:Bool) (d:Option Nat) (wl wh:Nat) (ds:List ADOper) (e:Env) (σ:St) (next:Nat) (hist:List St) (reads:List ARead) (K:Env→St→Prop):wpD T (⟨⟨d,.mklit n xs,some (t,want)⟩,wl,wh⟩::ds) e σ next hist reads K =
  bG (A:=⟨wpD T (⟨⟨d,.mklit n xs,none⟩,wl,wh⟩::ds) e σ next hist reads K⟩) (B:=⟨wpD T ds (Env.put e d (.tuple [])) σ next hist reads K⟩) (Env.get e t) want:=by
 simp only [wpD,bG,AOp.allocs,AOp.acts,true_and,if_true,Bool.false_eq_true,if_false]
theorem VG (n:Nat) (xs:List AOpd) (t:Nat) (want:Bool) (d:Option Nat) (wl wh:Nat) (ds:List ADOper) (e:Env) (σ:St) (next:Nat) (hist:List St) (reads:List ARead) (K:Env→St→Prop):wpD T (⟨⟨d,.mkref n xs,some (t,want)⟩,wl,wh⟩::ds) e σ next hist reads K =
  bG (A:=⟨wpD T (⟨⟨d,.mkref n xs,none⟩,wl,wh⟩::ds) e σ next hist reads K⟩) (B:=⟨wpD T ds (Env.put e d (.tuple [])) σ next (hist++[σ]) reads K⟩) (Env.get e t) want:=by
 simp only [wpD,bG,AOp.allocs,AOp.acts,true_and,if_true,Bool.false_eq_true,if_false]
theorem aA1 (sh:Option Nat) (x:AOpd) (t:Nat) (want:Bool) (d:Option Nat) (wl wh:Nat) (ds:List ADOper) (e:Env) (σ:St) (next:Nat) (hist:List St) (reads:List ARead) (K:Env→St→Prop):wpD T (⟨⟨d,.load sh x,some (t,want)⟩,wl,wh⟩::ds) e σ next hist reads K =
  bG (A:=⟨wpD T (⟨⟨d,.load sh x,none⟩,wl,wh⟩::ds) e σ next hist reads K⟩) (B:=⟨wpD T ds (Env.put e d (.tuple [])) σ next hist reads K⟩) (Env.get e t) want:=by
 simp only [wpD,bG,AOp.allocs,AOp.acts,true_and,if_true,Bool.false_eq_true,if_false]
theorem UC (n:Nat) (x y:AOpd) (t:Nat) (want:Bool) (d:Option Nat) (wl wh:Nat) (ds:List ADOper) (e:Env) (σ:St) (next:Nat) (hist:List St) (reads:List ARead) (K:Env→St→Prop):wpD T (⟨⟨d,.store n x y,some (t,want)⟩,wl,wh⟩::ds) e σ next hist reads K =
  bG (A:=⟨wpD T (⟨⟨d,.store n x y,none⟩,wl,wh⟩::ds) e σ next hist reads K⟩) (B:=⟨wpD T ds (Env.put e d (.tuple [])) σ next (hist++[σ]) reads K⟩) (Env.get e t) want:=by
 simp only [wpD,bG,AOp.allocs,AOp.acts,true_and,if_true,Bool.false_eq_true,if_false]
theorem JW (x:AOpd) (t:Nat) (want:Bool) (d:Option Nat) (wl wh:Nat) (ds:List ADOper) (e:Env) (σ:St) (next:Nat) (hist:List St) (reads:List ARead) (K:Env→St→Prop):wpD T (⟨⟨d,.nilCheck x,some (t,want)⟩,wl,wh⟩::ds) e σ next hist reads K =
  bG (A:=⟨wpD T (⟨⟨d,.nilCheck x,none⟩,wl,wh⟩::ds) e σ next hist reads K⟩) (B:=⟨wpD T ds (Env.put e d (.tuple [])) σ next hist reads K⟩) (Env.get e t) want:=by
 simp only [wpD,bG,AOp.allocs,AOp.acts,true_and,if_true,Bool.false_eq_true,if_false]
theorem aGL (op:BinOp) (x y:AOpd) (t:Nat) (want:Bool) (d:Option Nat) (wl wh:Nat) (ds:List ADOper) (e:Env) (σ:St) (next:Nat) (hist:List St) (reads:List ARead) (K:Env→St→Prop):wpD T (⟨⟨d,.bin op x y,some (t,want)⟩,wl,wh⟩::ds) e σ next hist reads K =
  bG (A:=⟨wpD T (⟨⟨d,.bin op x y,none⟩,wl,wh⟩::ds) e σ next hist reads K⟩) (B:=⟨wpD T ds (Env.put e d (.tuple [])) σ next hist reads K⟩) (Env.get e t) want:=by
 simp only [wpD,bG,AOp.allocs,AOp.acts,true_and,if_true,Bool.false_eq_true,if_false]
theorem aFT (sh:EqTy) (n:Bool) (x y:AOpd) (t:Nat) (want:Bool) (d:Option Nat) (wl wh:Nat) (ds:List ADOper) (e:Env) (σ:St) (next:Nat) (hist:List St) (reads:List ARead) (K:Env→St→Prop):wpD T (⟨⟨d,.eql sh n x y,some (t,want)⟩,wl,wh⟩::ds) e σ next hist reads K =
  bG (A:=⟨wpD T (⟨⟨d,.eql sh n x y,none⟩,wl,wh⟩::ds) e σ next hist reads K⟩) (B:=⟨wpD T ds (Env.put e d (.tuple [])) σ next hist reads K⟩) (Env.get e t) want:=by
 simp only [wpD,bG,AOp.allocs,AOp.acts,true_and,if_true,Bool.false_eq_true,if_false]
theorem aGK (x:AOpd) (t:Nat) (want:Bool) (d:Option Nat) (wl wh:Nat) (ds:List ADOper) (e:Env) (σ:St) (next:Nat) (hist:List St) (reads:List ARead) (K:Env→St→Prop):wpD T (⟨⟨d,.not x,some (t,want)⟩,wl,wh⟩::ds) e σ next hist reads K =
  bG (A:=⟨wpD T (⟨⟨d,.not x,none⟩,wl,wh⟩::ds) e σ next hist reads K⟩) (B:=⟨wpD T ds (Env.put e d (.tuple [])) σ next hist reads K⟩) (Env.get e t) want:=by
 simp only [wpD,bG,AOp.allocs,AOp.acts,true_and,if_true,Bool.false_eq_true,if_false]
theorem aE5 (x:AOpd) (t:Nat) (want:Bool) (d:Option Nat) (wl wh:Nat) (ds:List ADOper) (e:Env) (σ:St) (next:Nat) (hist:List St) (reads:List ARead) (K:Env→St→Prop):wpD T (⟨⟨d,.neg x,some (t,want)⟩,wl,wh⟩::ds) e σ next hist reads K =
  bG (A:=⟨wpD T (⟨⟨d,.neg x,none⟩,wl,wh⟩::ds) e σ next hist reads K⟩) (B:=⟨wpD T ds (Env.put e d (.tuple [])) σ next hist reads K⟩) (Env.get e t) want:=by
 simp only [wpD,bG,AOp.allocs,AOp.acts,true_and,if_true,Bool.false_eq_true,if_false]
theorem aCP (k:IntKind) (x:AOpd) (t:Nat) (want:Bool) (d:Option Nat) (wl wh:Nat) (ds:List ADOper) (e:Env) (σ:St) (next:Nat) (hist:List St) (reads:List ARead) (K:Env→St→Prop):wpD T (⟨⟨d,.conv k x,some (t,want)⟩,wl,wh⟩::ds) e σ next hist reads K =
  bG (A:=⟨wpD T (⟨⟨d,.conv k x,none⟩,wl,wh⟩::ds) e σ next hist reads K⟩) (B:=⟨wpD T ds (Env.put e d (.tuple [])) σ next hist reads K⟩) (Env.get e t) want:=by
 simp only [wpD,bG,AOp.allocs,AOp.acts,true_and,if_true,Bool.false_eq_true,if_false]
theorem WY (f:FuncId) (xs ys:List AOpd) (t:Nat) (want:Bool) (d:Option Nat) (wl wh:Nat) (ds:List ADOper) (e:Env) (σ:St) (next:Nat) (hist:List St) (reads:List ARead) (K:Env→St→Prop):wpD T (⟨⟨d,.mkfun f xs ys,some (t,want)⟩,wl,wh⟩::ds) e σ next hist reads K =
  bG (A:=⟨wpD T (⟨⟨d,.mkfun f xs ys,none⟩,wl,wh⟩::ds) e σ next hist reads K⟩) (B:=⟨wpD T ds (Env.put e d (.tuple [])) σ next hist reads K⟩) (Env.get e t) want:=by
 simp only [wpD,bG,AOp.allocs,AOp.acts,true_and,if_true,Bool.false_eq_true,if_false]
theorem UY  (t:Nat) (want:Bool) (d:Option Nat) (wl wh:Nat) (ds:List ADOper) (e:Env) (σ:St) (next:Nat) (hist:List St) (reads:List ARead) (K:Env→St→Prop):wpD T (⟨⟨d,.mkmap,some (t,want)⟩,wl,wh⟩::ds) e σ next hist reads K =
  bG (A:=⟨wpD T (⟨⟨d,.mkmap,none⟩,wl,wh⟩::ds) e σ next hist reads K⟩) (B:=⟨wpD T ds (Env.put e d (.tuple [])) σ next (hist++[σ]) reads K⟩) (Env.get e t) want:=by
 simp only [wpD,bG,AOp.allocs,AOp.acts,true_and,if_true,Bool.false_eq_true,if_false]
theorem MX (z:List AV) (b:Nat) (x y:AOpd) (t:Nat) (want:Bool) (d:Option Nat) (wl wh:Nat) (ds:List ADOper) (e:Env) (σ:St) (next:Nat) (hist:List St) (reads:List ARead) (K:Env→St→Prop):wpD T (⟨⟨d,.mkslice z b x y,some (t,want)⟩,wl,wh⟩::ds) e σ next hist reads K =
  bG (A:=⟨wpD T (⟨⟨d,.mkslice z b x y,none⟩,wl,wh⟩::ds) e σ next hist reads K⟩) (B:=⟨wpD T ds (Env.put e d (.tuple [])) σ next (hist++[σ]) reads K⟩) (Env.get e t) want:=by
 simp only [wpD,bG,AOp.allocs,AOp.acts,true_and,if_true,Bool.false_eq_true,if_false]
theorem PH (n:Nat) (x:AOpd) (lo hi mx:Option AOpd) (t:Nat) (want:Bool) (d:Option Nat) (wl wh:Nat) (ds:List ADOper) (e:Env) (σ:St) (next:Nat) (hist:List St) (reads:List ARead) (K:Env→St→Prop):wpD T (⟨⟨d,.slicev n x lo hi mx,some (t,want)⟩,wl,wh⟩::ds) e σ next hist reads K =
  bG (A:=⟨wpD T (⟨⟨d,.slicev n x lo hi mx,none⟩,wl,wh⟩::ds) e σ next hist reads K⟩) (B:=⟨wpD T ds (Env.put e d (.tuple [])) σ next hist reads K⟩) (Env.get e t) want:=by
 simp only [wpD,bG,AOp.allocs,AOp.acts,true_and,if_true,Bool.false_eq_true,if_false]
theorem O0 (n s:Nat) (x:AOpd) (lo hi:Option AOpd) (t:Nat) (want:Bool) (d:Option Nat) (wl wh:Nat) (ds:List ADOper) (e:Env) (σ:St) (next:Nat) (hist:List St) (reads:List ARead) (K:Env→St→Prop):wpD T (⟨⟨d,.slicea n s x lo hi,some (t,want)⟩,wl,wh⟩::ds) e σ next hist reads K =
  bG (A:=⟨wpD T (⟨⟨d,.slicea n s x lo hi,none⟩,wl,wh⟩::ds) e σ next hist reads K⟩) (B:=⟨wpD T ds (Env.put e d (.tuple [])) σ next hist reads K⟩) (Env.get e t) want:=by
 simp only [wpD,bG,AOp.allocs,AOp.acts,true_and,if_true,Bool.false_eq_true,if_false]
theorem VL (x:AOpd) (o:Nat) (t:Nat) (want:Bool) (d:Option Nat) (wl wh:Nat) (ds:List ADOper) (e:Env) (σ:St) (next:Nat) (hist:List St) (reads:List ARead) (K:Env→St→Prop):wpD T (⟨⟨d,.faddr x o,some (t,want)⟩,wl,wh⟩::ds) e σ next hist reads K =
  bG (A:=⟨wpD T (⟨⟨d,.faddr x o,none⟩,wl,wh⟩::ds) e σ next hist reads K⟩) (B:=⟨wpD T ds (Env.put e d (.tuple [])) σ next hist reads K⟩) (Env.get e t) want:=by
 simp only [wpD,bG,AOp.allocs,AOp.acts,true_and,if_true,Bool.false_eq_true,if_false]
theorem WO (x:AOpd) (o:Nat) (sh:Option Nat) (t:Nat) (want:Bool) (d:Option Nat) (wl wh:Nat) (ds:List ADOper) (e:Env) (σ:St) (next:Nat) (hist:List St) (reads:List ARead) (K:Env→St→Prop):wpD T (⟨⟨d,.field x o sh,some (t,want)⟩,wl,wh⟩::ds) e σ next hist reads K =
  bG (A:=⟨wpD T (⟨⟨d,.field x o sh,none⟩,wl,wh⟩::ds) e σ next hist reads K⟩) (B:=⟨wpD T ds (Env.put e d (.tuple [])) σ next hist reads K⟩) (Env.get e t) want:=by
 simp only [wpD,bG,AOp.allocs,AOp.acts,true_and,if_true,Bool.false_eq_true,if_false]
theorem WD (a:Option Nat) (s:Nat) (x i:AOpd) (t:Nat) (want:Bool) (d:Option Nat) (wl wh:Nat) (ds:List ADOper) (e:Env) (σ:St) (next:Nat) (hist:List St) (reads:List ARead) (K:Env→St→Prop):wpD T (⟨⟨d,.iaddr a s x i,some (t,want)⟩,wl,wh⟩::ds) e σ next hist reads K =
  bG (A:=⟨wpD T (⟨⟨d,.iaddr a s x i,none⟩,wl,wh⟩::ds) e σ next hist reads K⟩) (B:=⟨wpD T ds (Env.put e d (.tuple [])) σ next hist reads K⟩) (Env.get e t) want:=by
 simp only [wpD,bG,AOp.allocs,AOp.acts,true_and,if_true,Bool.false_eq_true,if_false]
theorem WZ (n s:Nat) (sh:Option Nat) (x i:AOpd) (t:Nat) (want:Bool) (d:Option Nat) (wl wh:Nat) (ds:List ADOper) (e:Env) (σ:St) (next:Nat) (hist:List St) (reads:List ARead) (K:Env→St→Prop):wpD T (⟨⟨d,.index n s sh x i,some (t,want)⟩,wl,wh⟩::ds) e σ next hist reads K =
  bG (A:=⟨wpD T (⟨⟨d,.index n s sh x i,none⟩,wl,wh⟩::ds) e σ next hist reads K⟩) (B:=⟨wpD T ds (Env.put e d (.tuple [])) σ next hist reads K⟩) (Env.get e t) want:=by
 simp only [wpD,bG,AOp.allocs,AOp.acts,true_and,if_true,Bool.false_eq_true,if_false]
theorem PX (x i:AOpd) (t:Nat) (want:Bool) (d:Option Nat) (wl wh:Nat) (ds:List ADOper) (e:Env) (σ:St) (next:Nat) (hist:List St) (reads:List ARead) (K:Env→St→Prop):wpD T (⟨⟨d,.sindex x i,some (t,want)⟩,wl,wh⟩::ds) e σ next hist reads K =
  bG (A:=⟨wpD T (⟨⟨d,.sindex x i,none⟩,wl,wh⟩::ds) e σ next hist reads K⟩) (B:=⟨wpD T ds (Env.put e d (.tuple [])) σ next hist reads K⟩) (Env.get e t) want:=by
 simp only [wpD,bG,AOp.allocs,AOp.acts,true_and,if_true,Bool.false_eq_true,if_false]
theorem Q5 (sh:EqTy) (ok:Bool) (z:AV) (m k:AOpd) (t:Nat) (want:Bool) (d:Option Nat) (wl wh:Nat) (ds:List ADOper) (e:Env) (σ:St) (next:Nat) (hist:List St) (reads:List ARead) (K:Env→St→Prop):wpD T (⟨⟨d,.lookup sh ok z m k,some (t,want)⟩,wl,wh⟩::ds) e σ next hist reads K =
  bG (A:=⟨wpD T (⟨⟨d,.lookup sh ok z m k,none⟩,wl,wh⟩::ds) e σ next hist reads K⟩) (B:=⟨wpD T ds (Env.put e d (.tuple [])) σ next hist reads K⟩) (Env.get e t) want:=by
 simp only [wpD,bG,AOp.allocs,AOp.acts,true_and,if_true,Bool.false_eq_true,if_false]
theorem R0 (sh:EqTy) (m k v:AOpd) (t:Nat) (want:Bool) (d:Option Nat) (wl wh:Nat) (ds:List ADOper) (e:Env) (σ:St) (next:Nat) (hist:List St) (reads:List ARead) (K:Env→St→Prop):wpD T (⟨⟨d,.mapset sh m k v,some (t,want)⟩,wl,wh⟩::ds) e σ next hist reads K =
  bG (A:=⟨wpD T (⟨⟨d,.mapset sh m k v,none⟩,wl,wh⟩::ds) e σ next hist reads K⟩) (B:=⟨wpD T ds (Env.put e d (.tuple [])) σ next (hist++[σ]) reads K⟩) (Env.get e t) want:=by
 simp only [wpD,bG,AOp.allocs,AOp.acts,true_and,if_true,Bool.false_eq_true,if_false]
theorem aFF (x:AOpd) (i:Nat) (t:Nat) (want:Bool) (d:Option Nat) (wl wh:Nat) (ds:List ADOper) (e:Env) (σ:St) (next:Nat) (hist:List St) (reads:List ARead) (K:Env→St→Prop):wpD T (⟨⟨d,.ext x i,some (t,want)⟩,wl,wh⟩::ds) e σ next hist reads K =
  bG (A:=⟨wpD T (⟨⟨d,.ext x i,none⟩,wl,wh⟩::ds) e σ next hist reads K⟩) (B:=⟨wpD T ds (Env.put e d (.tuple [])) σ next hist reads K⟩) (Env.get e t) want:=by
 simp only [wpD,bG,AOp.allocs,AOp.acts,true_and,if_true,Bool.false_eq_true,if_false]
theorem aE6 (k:Nat) (x:AOpd) (t:Nat) (want:Bool) (d:Option Nat) (wl wh:Nat) (ds:List ADOper) (e:Env) (σ:St) (next:Nat) (hist:List St) (reads:List ARead) (K:Env→St→Prop):wpD T (⟨⟨d,.len k x,some (t,want)⟩,wl,wh⟩::ds) e σ next hist reads K =
  bG (A:=⟨wpD T (⟨⟨d,.len k x,none⟩,wl,wh⟩::ds) e σ next hist reads K⟩) (B:=⟨wpD T ds (Env.put e d (.tuple [])) σ next hist reads K⟩) (Env.get e t) want:=by
 simp only [wpD,bG,AOp.allocs,AOp.acts,true_and,if_true,Bool.false_eq_true,if_false]
theorem PP (n b:Nat) (x y:AOpd) (t:Nat) (want:Bool) (d:Option Nat) (wl wh:Nat) (ds:List ADOper) (e:Env) (σ:St) (next:Nat) (hist:List St) (reads:List ARead) (K:Env→St→Prop):wpD T (⟨⟨d,.append n b x y,some (t,want)⟩,wl,wh⟩::ds) e σ next hist reads K =
  bG (A:=⟨wpD T (⟨⟨d,.append n b x y,none⟩,wl,wh⟩::ds) e σ next hist reads K⟩) (B:=⟨wpD T ds (Env.put e d (.tuple [])) σ next (hist++[σ]) reads K⟩) (Env.get e t) want:=by
 simp only [wpD,bG,AOp.allocs,AOp.acts,true_and,if_true,Bool.false_eq_true,if_false]
theorem UR (n b:Nat) (x y:AOpd) (t:Nat) (want:Bool) (d:Option Nat) (wl wh:Nat) (ds:List ADOper) (e:Env) (σ:St) (next:Nat) (hist:List St) (reads:List ARead) (K:Env→St→Prop):wpD T (⟨⟨d,.apref n b x y,some (t,want)⟩,wl,wh⟩::ds) e σ next hist reads K =
  bG (A:=⟨wpD T (⟨⟨d,.apref n b x y,none⟩,wl,wh⟩::ds) e σ next hist reads K⟩) (B:=⟨wpD T ds (Env.put e d (.tuple [])) σ next (hist++[σ]) reads K⟩) (Env.get e t) want:=by
 simp only [wpD,bG,AOp.allocs,AOp.acts,true_and,if_true,Bool.false_eq_true,if_false]
theorem aAX (n:Nat) (x y:AOpd) (t:Nat) (want:Bool) (d:Option Nat) (wl wh:Nat) (ds:List ADOper) (e:Env) (σ:St) (next:Nat) (hist:List St) (reads:List ARead) (K:Env→St→Prop):wpD T (⟨⟨d,.copy n x y,some (t,want)⟩,wl,wh⟩::ds) e σ next hist reads K =
  bG (A:=⟨wpD T (⟨⟨d,.copy n x y,none⟩,wl,wh⟩::ds) e σ next hist reads K⟩) (B:=⟨wpD T ds (Env.put e d (.tuple [])) σ next (hist++[σ]) reads K⟩) (Env.get e t) want:=by
 simp only [wpD,bG,AOp.allocs,AOp.acts,true_and,if_true,Bool.false_eq_true,if_false]
theorem aEI (xs:List AOpd) (t:Nat) (want:Bool) (d:Option Nat) (wl wh:Nat) (ds:List ADOper) (e:Env) (σ:St) (next:Nat) (hist:List St) (reads:List ARead) (K:Env→St→Prop):wpD T (⟨⟨d,.min xs,some (t,want)⟩,wl,wh⟩::ds) e σ next hist reads K =
  bG (A:=⟨wpD T (⟨⟨d,.min xs,none⟩,wl,wh⟩::ds) e σ next hist reads K⟩) (B:=⟨wpD T ds (Env.put e d (.tuple [])) σ next hist reads K⟩) (Env.get e t) want:=by
 simp only [wpD,bG,AOp.allocs,AOp.acts,true_and,if_true,Bool.false_eq_true,if_false]
theorem aEB (xs:List AOpd) (t:Nat) (want:Bool) (d:Option Nat) (wl wh:Nat) (ds:List ADOper) (e:Env) (σ:St) (next:Nat) (hist:List St) (reads:List ARead) (K:Env→St→Prop):wpD T (⟨⟨d,.max xs,some (t,want)⟩,wl,wh⟩::ds) e σ next hist reads K =
  bG (A:=⟨wpD T (⟨⟨d,.max xs,none⟩,wl,wh⟩::ds) e σ next hist reads K⟩) (B:=⟨wpD T ds (Env.put e d (.tuple [])) σ next hist reads K⟩) (Env.get e t) want:=by
 simp only [wpD,bG,AOp.allocs,AOp.acts,true_and,if_true,Bool.false_eq_true,if_false]
theorem OS (x:AOpd) (t:Nat) (want:Bool) (d:Option Nat) (wl wh:Nat) (ds:List ADOper) (e:Env) (σ:St) (next:Nat) (hist:List St) (reads:List ARead) (K:Env→St→Prop):wpD T (⟨⟨d,.srange x,some (t,want)⟩,wl,wh⟩::ds) e σ next hist reads K =
  bG (A:=⟨wpD T (⟨⟨d,.srange x,none⟩,wl,wh⟩::ds) e σ next hist reads K⟩) (B:=⟨wpD T ds (Env.put e d (.tuple [])) σ next (hist++[σ]) reads K⟩) (Env.get e t) want:=by
 simp only [wpD,bG,AOp.allocs,AOp.acts,true_and,if_true,Bool.false_eq_true,if_false]
theorem W6 (x:AOpd) (t:Nat) (want:Bool) (d:Option Nat) (wl wh:Nat) (ds:List ADOper) (e:Env) (σ:St) (next:Nat) (hist:List St) (reads:List ARead) (K:Env→St→Prop):wpD T (⟨⟨d,.snext x,some (t,want)⟩,wl,wh⟩::ds) e σ next hist reads K =
  bG (A:=⟨wpD T (⟨⟨d,.snext x,none⟩,wl,wh⟩::ds) e σ next hist reads K⟩) (B:=⟨wpD T ds (Env.put e d (.tuple [])) σ next (hist++[σ]) reads K⟩) (Env.get e t) want:=by
 simp only [wpD,bG,AOp.allocs,AOp.acts,true_and,if_true,Bool.false_eq_true,if_false]
end Go.Am
namespace Go.Am
variable {T:FuncId→Option AFunc}
structure KeepS (σ σ':St) (lo:Nat):Prop where
 len:σ.length≤σ'.length
 low:∀ i,i<lo→i<σ.length→σ'[i]? = σ[i]?
 loops:∀ (i:Nat) (st:LS) (pe:Option AJump) (env:Env) (ps:List Nat) (a b:ACode),i<σ.length→σ'[i]? = some (.loop st pe env ps a b)→∃ st' pe',σ[i]? = some (.loop st' pe' env ps a b)
theorem KeepS.refl (σ:St) (lo:Nat):KeepS σ σ lo:=⟨Nat.le_refl _,fun _ _ _=>rfl,fun i st pe env ps a b _ h=>⟨st,pe,h⟩⟩
theorem KeepS.weak {σ σ':St} {lo l:Nat} (h:KeepS σ σ' lo) (hl:l≤lo):KeepS σ σ' l:=⟨h.len,fun i hi=>h.low i (by omega),h.loops⟩
theorem KeepS.trans {σ σ1 σ2:St} {l1 l2:Nat} (h:KeepS σ σ1 l1) (k:KeepS σ1 σ2 l2):KeepS σ σ2 (Nat.min l1 l2) where
 len:=Nat.le_trans h.len k.len
 low i hi hlt:=by
  have h1:i<l1:=Nat.lt_of_lt_of_le hi (Nat.min_le_left _ _)
  have h2:i<l2:=Nat.lt_of_lt_of_le hi (Nat.min_le_right _ _)
  rw [k.low i h2 (Nat.lt_of_lt_of_le hlt h.len),h.low i h1 hlt]
 loops i st pe env ps a b hlt e:=by
  obtain ⟨st1,pe1,e1⟩:=k.loops i st pe env ps a b (Nat.lt_of_lt_of_le hlt h.len) e
  exact h.loops i st1 pe1 env ps a b hlt e1
theorem KeepS.app (σ:St) (τ:St) (lo:Nat):KeepS σ (σ++τ) lo :=
 ⟨by simp,fun i _ hi=>List.getElem?_append_left hi,fun i st pe env ps a b hi e=>⟨st,pe,by rw [←List.getElem?_append_left (l₂:=τ) hi];exact e⟩⟩
theorem KeepS.set {σ:St} {i:Nat} {x:ABlk} (hx:∀ st pe env ps a b,x≠.loop st pe env ps a b):KeepS σ (σ.set i x) i where
 len:=by simp
 low j hj _:=List.getElem?_set_ne (by omega)
 loops j st pe env ps a b hj e:=by
  by_cases h:i=j
  ·subst h
   rw [List.getElem?_set_self hj] at e
   cases e
   exact absurd rfl (hx _ _ _ _ _ _)
  ·rw [List.getElem?_set_ne h] at e
   exact ⟨st,pe,e⟩
end Go.Am
namespace Go.Am
variable {T:FuncId→Option AFunc}
theorem KeepS.step {σ σ1 σ2:St} {l lo lo':Nat} (h:KeepS σ σ1 l) (k:lo'≤Nat.min lo l∧KeepS σ1 σ2 lo'):lo'≤lo∧KeepS σ σ2 lo':=by
 have h1:lo'≤l:=Nat.le_trans k.1 (Nat.min_le_right _ _)
 refine ⟨Nat.le_trans k.1 (Nat.min_le_left _ _),(h.trans k.2).weak ?_⟩
 exact Nat.le_min.2 ⟨h1,Nat.le_refl _⟩
end Go.Am
namespace Go.Am
variable {T:FuncId→Option AFunc}
theorem aCH (e:Env):evs e []=[]:=by simp only [evs]
theorem P5 (e:Env) (x:AOpd) (xs:List AOpd):evs e (x::xs)=x.ev e::evs e xs:=by simp only [evs]
theorem aB3 (e:Env):ovs e none=none:=by simp only [ovs]
theorem aA4 (e:Env) (x:AOpd):ovs e (some x)=some (x.ev e):=by simp only [ovs]
theorem XM {α β:Type} (f:α→β) (a:α):Option.map f (some a)=some (f a):=by simp
theorem QJ {α β:Type} (f:α→Option β) (a:α):(some a).bind f=f a:=by simp
theorem aAC (i o:Nat):HM (.ptr i o)=some (.ptr i o):=by simp only [HM]
theorem aBN (xs:List AV) (i o:Nat) (t:Option Nat):HM (.lptr xs i o t)=some (.lptr xs i o t):=by simp only [HM]
theorem aBU (f:FuncId) (a b:List AV):HM (.func f a b)=some (.func f a b):=by simp only [HM]
theorem UB (o:Nat) (sh:Option Nat) (cs:List AV):F6 o sh (.agg cs)=gJ sh cs o:=by simp only [F6]
theorem aA3 (k k':IntKind) (n:Int):LG k (.int k' n)=some (.int k (k.wrap n)):=by simp only [LG]
theorem aGD (k:IntKind) (n:Int):T4 (.int k n)=some (.int k (k.wrap (0-n))):=by simp only [T4]
theorem UV (x y:AV):EF (.bool true) x y=some x:=by simp only [EF]
theorem V5 (x y:AV):EF (.bool false) x y=some y:=by simp only [EF]
theorem aGI (s:ByteArray):W7 (.str s)=some s:=by simp only [W7]
theorem Y7 (k:IntKind) (a b:Int):iB .i (.int k a) (.int k b)=some (a==b):=by simp [iB]
theorem aD7 (a b:Bool):iB .b (.bool a) (.bool b)=some (a==b):=by simp [iB]
theorem aE4 (a b:ByteArray):iB .s (.str a) (.str b)=some (a.toList==b.toList):=by simp [iB]
def WQ:Option Bool→Option Bool→Option Bool
 |some p,some q=>some (p&&q)
 |_,_=>none
theorem OZ (p q:Bool):WQ (some p) (some q)=some (p&&q):=by simp only [WQ]
theorem aCE:cB [] [] []=some true:=by simp [cB]
theorem PL (k:SK) (ks:List SK) (a b:AV) (x y:List AV):cB (k::ks) (a::x) (b::y)=WQ (iB k a b) (cB ks x y):=by
 simp only [cB,WQ];cases iB k a b<;>cases cB ks x y<;>rfl
theorem aEU (k:SK) (x y:AV):C5 (.one k) false x y=(iB k x y).map .bool:=by
 simp only [C5,kR];cases iB k x y<;>simp
theorem aF7 (k:SK) (x y:AV):C5 (.one k) true x y=(iB k x y).map fun b=>.bool !b:=by
 simp only [C5,kR];cases iB k x y<;>simp
theorem aFC (ks:List SK) (x y:List AV):C5 (.agg ks) false (.agg x) (.agg y)=(cB ks x y).map .bool:=by
 simp only [C5,kR];cases cB ks x y<;>simp
theorem aFD (ks:List SK) (x y:List AV):C5 (.agg ks) true (.agg x) (.agg y)=(cB ks x y).map fun b=>.bool !b:=by
 simp only [C5,kR];cases cB ks x y<;>simp
theorem aES (k:IntKind) (a b:Int):gU .add (.int k a) (.int k b)=some (.int k (k.wrap (a+b))):=by simp [gU,nN]
theorem aF0 (k:IntKind) (a b:Int):gU .sub (.int k a) (.int k b)=some (.int k (k.wrap (a-b))):=by simp [gU,nN]
theorem aFY (k:IntKind) (a b:Int):gU .mul (.int k a) (.int k b)=some (.int k (k.wrap (a*b))):=by simp [gU,nN]
theorem aDE (k:IntKind) (a b:Int):gU .lss (.int k a) (.int k b)=some (.bool (decide (a<b))):=by simp [gU,nN]
theorem aDJ (k:IntKind) (a b:Int):gU .leq (.int k a) (.int k b)=some (.bool (decide (a≤b))):=by simp [gU,nN]
theorem aF8 (k:IntKind) (a b:Int):gU .gtr (.int k a) (.int k b)=some (.bool (decide (b<a))):=by simp [gU,nN]
theorem aDF (k:IntKind) (a b:Int):gU .geq (.int k a) (.int k b)=some (.bool (decide (b≤a))):=by simp [gU,nN]
theorem eA {x:Int} (h:-9223372036854775808≤x∧x≤9223372036854775807):IntKind.i64.wrap x=x:=by
 simp only [IntKind.wrap,IntKind.signed,IntKind.bits]
 first
  |(rw [Int.bmod_eq_of_le]<;>omega)
  |(simp;omega)
theorem aEV (σ:St) (xs:List AV) (f:Bool) (t:Option Nat):kD 1 σ (.lit xs f t)=some xs.length:=by simp only [kD]
theorem aCX (σ:St) (s:ByteArray):kD 0 σ (.str s)=some s.size:=by simp only [kD]
theorem aBP (σ:St) (id off len sz:Nat):kD 1 σ (.ref id off len sz)=some len:=by simp only [kD]
theorem aF3 (sh:Option Nat) (σ:St) (id off:Nat):mC sh σ (.ptr id off)=(aM σ id).bind fun cs=>gJ sh cs off:=by
 simp only [mC];cases aM σ id<;>simp
theorem aCA (sh:Option Nat) (σ:St) (xs:List AV) (i off:Nat) (t:Option Nat):mC sh σ (.lptr xs i off t)=(xs[i]?).bind fun x=>gJ sh x.cells off:=by
 simp only [mC];cases xs[i]?<;>simp
theorem SU (b:List AV) (τ:St):aM (.cells b::τ) 0=some b:=by simp [aM]
theorem sJ (b:ABlk) (τ:St) (k:Nat):aM (b::τ) (k+1)=aM τ k:=by simp [aM]
theorem tB (σ τ:St) (k:Nat):aM (σ++τ) (σ.length+k)=aM τ k:=by simp only [aM,sS]
theorem jZ (σ τ:St):aM (σ++τ) σ.length=aM τ 0:=tB σ τ 0
theorem aFR (cs:List AV) (off:Nat):gJ none cs off=cs[off]?:=by simp [gJ]
theorem aER (n:Nat) (cs:List AV) (off:Nat):gJ (some n) cs off=if off+n≤cs.length then some (.agg ((cs.drop off).take n)) else none:=by simp [gJ]
theorem WP (n:Nat) (σ:St) (id off:Nat) (v:AV):o9 n σ (.ptr id off) v=(rX n v).bind fun us=>(aM σ id).bind fun cs=>(gY cs off us).map fun cs'=>σ.set id (.cells cs'):=by
 simp only [o9,rX]
 split
 ·simp only [Option.bind_some]
  cases aM σ id with
  |none=>simp
  |some cs=>simp only [Option.bind_some];cases gY cs off v.cells<;>simp
 ·simp
theorem aDU (cs us:List AV) (off:Nat):gY cs off us=if off+us.length≤cs.length then some (cs.take off++us++cs.drop (off+us.length)) else none:=by simp only [gY]
def cR (n:Nat) (v:AV):Bool:=v.cells.length==n&&v.cells.all (·.cell)
theorem UX (n:Nat) (v:AV):rX n v=if cR n v=true then some v.cells else none:=by unfold rX cR;rfl
theorem O1 (k:IntKind) (n:Int):cR 1 (.int k n)=true:=by simp [cR,AV.cells,AV.cell]
theorem SN (b:Bool):cR 1 (.bool b)=true:=by simp [cR,AV.cells,AV.cell]
theorem Z0 (b:ByteArray):cR 1 (.str b)=true:=by simp [cR,AV.cells,AV.cell]
theorem Q4 (xs:List AV) (f:Bool) (t:Option Nat):cR 1 (.lit xs f t)=true:=by simp [cR,AV.cells,AV.cell]
theorem aFV (a b c d:Nat):cR 1 (.ref a b c d)=true:=by simp [cR,AV.cells,AV.cell]
theorem aDL (a b:Nat):cR 1 (.ptr a b)=true:=by simp [cR,AV.cells,AV.cell]
theorem aAU (f:FuncId) (a b:List AV):cR 1 (.func f a b)=true:=by simp [cR,AV.cells,AV.cell]
theorem aET (i:Nat):cR 1 (.map i)=true:=by simp [cR,AV.cells,AV.cell]
theorem SJ:cR 1 .nilPtr=true:=by simp [cR,AV.cells,AV.cell]
theorem NV:cR 1 .nilFunc=true:=by simp [cR,AV.cells,AV.cell]
def cJ:List AV→Bool
 |[]=>true
 |v::vs=>v.cell&&cJ vs
theorem aDR (n:Nat) (cs:List AV):cR n (.agg cs)=(cs.length==n&&cJ cs):=by
 simp only [cR,AV.cells]
 congr 1
 induction cs with
 |nil=>rfl
 |cons c cs ih=>simp only [List.all_cons,cJ,ih]
theorem C_0:cJ []=true:=by simp only [cJ]
theorem aB8 (k:IntKind) (n:Int) (cs:List AV):cJ (.int k n::cs)=cJ cs:=by simp [cJ,AV.cell]
theorem W1 (b:Bool) (cs:List AV):cJ (.bool b::cs)=cJ cs:=by simp [cJ,AV.cell]
theorem aC0 (b:ByteArray) (cs:List AV):cJ (.str b::cs)=cJ cs:=by simp [cJ,AV.cell]
theorem Z6 (xs:List AV) (f:Bool) (t:Option Nat) (cs:List AV):cJ (.lit xs f t::cs)=cJ cs:=by simp [cJ,AV.cell]
theorem aCF (a b c d:Nat) (cs:List AV):cJ (.ref a b c d::cs)=cJ cs:=by simp [cJ,AV.cell]
theorem Z8 (a b:Nat) (cs:List AV):cJ (.ptr a b::cs)=cJ cs:=by simp [cJ,AV.cell]
theorem VE (f:FuncId) (a b:List AV) (cs:List AV):cJ (.func f a b::cs)=cJ cs:=by simp [cJ,AV.cell]
theorem aAL (i:Nat) (cs:List AV):cJ (.map i::cs)=cJ cs:=by simp [cJ,AV.cell]
theorem NX  (cs:List AV):cJ (.nilPtr::cs)=cJ cs:=by simp [cJ,AV.cell]
theorem JR  (cs:List AV):cJ (.nilFunc::cs)=cJ cs:=by simp [cJ,AV.cell]
theorem aBM {α:Type} (enc:α→AV) (l:List α) (h:∀ x,(enc x).cell=true):cJ (l.map enc)=true:=by
 induction l with
 |nil=>rfl
 |cons x l ih=>simp [cJ,h,ih]
theorem aFI (k:IntKind) (n:Int):(AV.int k n).cells=[.int k n]:=by simp [AV.cells]
theorem aBO (b:Bool):(AV.bool b).cells=[.bool b]:=by simp [AV.cells]
theorem aDH (b:ByteArray):(AV.str b).cells=[.str b]:=by simp [AV.cells]
theorem aDY (xs:List AV) (f:Bool) (t:Option Nat):(AV.lit xs f t).cells=[.lit xs f t]:=by simp [AV.cells]
theorem aFG (a b c d:Nat):(AV.ref a b c d).cells=[.ref a b c d]:=by simp [AV.cells]
theorem aDW (a b:Nat):(AV.ptr a b).cells=[.ptr a b]:=by simp [AV.cells]
theorem aBD (f:FuncId) (a b:List AV):(AV.func f a b).cells=[.func f a b]:=by simp [AV.cells]
theorem aGE (i:Nat):(AV.map i).cells=[.map i]:=by simp [AV.cells]
theorem aGF (cs:List AV):(AV.agg cs).cells=cs:=by simp [AV.cells]
theorem S5:AV.nilPtr.cells=[.nilPtr]:=by simp [AV.cells]
theorem NO:AV.nilFunc.cells=[.nilFunc]:=by simp [AV.cells]
theorem aGC (e:Env) (cs:List AV):cY e cs []=some cs:=by simp only [cY]
theorem aFX (e:Env) (cs:List AV) (off n:Nat) (x:AOpd) (rest:List (Nat×Nat×AOpd)) :
  cY e cs ((off,n,x)::rest)=((rX n (x.ev e)).bind fun us=>gY cs off us).bind fun cs=>cY e cs rest:=aEE e cs off n x rest
theorem QH (n:Nat):aL n []=true:=by simp [aL]
theorem SZ (n:Nat) (x:AV) (xs:List AV):aL n (x::xs)=(cR n x&&aL n xs):=by simp [aL,cR]
theorem rJ {α:Type} (n:Nat) (enc:α→AV) (l:List α) (h:∀ x,cR n (enc x)=true):aL n (l.map enc)=true:=by
 induction l with
 |nil=>exact QH n
 |cons x l ih=>rw [List.map_cons,SZ,h,ih];rfl
theorem aEQ (n:Nat) (xs:List AV):OC n xs=if aL n xs=true then some (.lit xs true none) else none:=by simp only [OC]
def yI (sz:Nat) (xs:List AV) (j:Int) (t:Option Nat):Option AV:=(xs[j.toNat]?).bind fun y=>if 0≤j∧y.cells.length=sz then some (.lptr xs j.toNat 0 t) else none
theorem aDN (sz:Nat) (xs:List AV) (f:Bool) (t:Option Nat) (k:IntKind) (j:Int):pX none sz (.lit xs f t) (.int k j)=yI sz xs j t:=by
 simp only [pX,gM,yI];cases xs[j.toNat]?<;>simp
theorem aFB (n sz id off:Nat) (k:IntKind) (j:Int):pX (some n) sz (.ptr id off) (.int k j)=if 0≤j∧j<n then some (.ptr id (off+j.toNat*sz)) else none:=by simp only [pX,gM]
theorem aAQ (n sz q off:Nat) (xs:List AV) (t:Option Nat) (k:IntKind) (j:Int):pX (some n) sz (.lptr xs q off t) (.int k j)=if 0≤j∧j<n then some (.lptr xs q (off+j.toNat*sz) t) else none:=by simp only [pX,gM]
theorem aE7 (sz id off len sz':Nat) (k:IntKind) (j:Int):pX none sz (.ref id off len sz') (.int k j)=if 0≤j∧j<len∧sz'=sz then some (.ptr id (off+j.toNat*sz)) else none:=by simp only [pX,gM]
def DY (sz b:Nat) (xs ys:List AV):Prop:=aL sz xs=true∧aL sz ys=true∧(xs.length+ys.length)*b≤room∧xs.length+ys.length≤room
theorem wJ {sz b:Nat} {σ:St} {xs ys:List AV} {tk t:Option Nat} {f:Bool} (h:DY sz b xs ys) (h0:ys.length≠0) :
  cO sz b σ (.lit xs true tk) (.lit ys f t)=some (.lit (xs++ys) false (some σ.length),σ++[.tok sz (xs.length+ys.length) true]):=by
 obtain ⟨h1,h2,h3,h4⟩:=h
 simp [cO,lO,zE,h0,h1,h2,h3,h4]
theorem rW {sz b:Nat} {σ:St} {xs ys:List AV} {t:Nat} {tk:Option Nat} {f ex:Bool} (h:DY sz b xs ys) (h0:ys.length≠0) (ht:σ[t]? = some (.tok sz xs.length ex)) :
  cO sz b σ (.lit xs false (some t)) (.lit ys f tk)=some (.lit (xs++ys) false (some t),σ.set t (.tok sz (xs.length+ys.length) true)):=by
 obtain ⟨h1,h2,h3,h4⟩:=h
 simp [cO,lO,zE,h0,h1,h2,h3,h4,ht]
theorem K1 {sz b:Nat} {σ:St} {xs:List AV} {tk t:Option Nat} {f f':Bool}:cO sz b σ (.lit xs f' tk) (.lit [] f t)=some (.lit xs f' tk,σ):=by
 simp [cO,lO]
def cX (σ:St) (m d:Nat) (v:AV):Option AV:=(snap σ m d v).map clr
def dG (σ:St) (m d:Nat) (vs:List AV):Option (List AV):=(snaps σ m d vs).map clrs
theorem R2 (σ:St) (m d:Nat) (k:IntKind) (n:Int):cX σ m d (.int k n)=some (.int k n):=by simp [cX,snap,clr]
theorem F0 (σ:St) (m d:Nat) (b:Bool):cX σ m d (.bool b)=some (.bool b):=by simp [cX,snap,clr]
theorem OW (σ:St) (m d:Nat) (b:ByteArray):cX σ m d (.str b)=some (.str b):=by simp [cX,snap,clr]
theorem SV (σ:St) (m d:Nat):cX σ m d .nilPtr=some .nilPtr:=by simp [cX,snap,clr]
theorem NW (σ:St) (m d:Nat):cX σ m d .nilFunc=some .nilFunc:=by simp [cX,snap,clr]
theorem ZK (σ:St) (m d id off:Nat):cX σ m d (.ptr id off)=if id<m then some (.ptr id off) else none:=by
 simp only [cX,snap];split<;>simp [clr]
theorem aE9 (σ:St) (m d id:Nat):cX σ m d (.map id)=if id<m then some (.map id) else none:=by
 simp only [cX,snap];split<;>simp [clr]
theorem ME (σ:St) (m d:Nat):dG σ m d []=some []:=by simp [dG,snaps,clrs]
theorem BH (σ:St) (m d:Nat) (v:AV) (vs:List AV):dG σ m d (v::vs)=(cX σ m d v).bind fun a=>(dG σ m d vs).map (a::·):=by
 simp only [dG,cX,snaps];cases snap σ m d v<;>cases snaps σ m d vs<;>simp [clrs]
theorem WJ (σ:St) (m d:Nat) (vs:List AV):cX σ m d (.tuple vs)=(dG σ m d vs).map .tuple:=by
 simp only [dG,cX,snap];cases snaps σ m d vs<;>simp [clr]
theorem OT (σ:St) (m d:Nat) (vs:List AV):cX σ m d (.agg vs)=(dG σ m d vs).map .agg:=by
 simp only [dG,cX,snap];cases snaps σ m d vs<;>simp [clr]
theorem KF (σ:St) (m d:Nat) (vs:List AV) (f:Bool):cX σ m d (.lit vs f none)=(dG σ m d vs).map fun ys=>.lit ys false none:=by
 simp only [dG,cX,snap];cases snaps σ m d vs<;>simp [clr]
theorem aAZ (σ:St) (m d t:Nat) (vs:List AV) (f:Bool):cX σ m d (.lit vs f (some t))=(dG σ m d vs).map fun ys=>if t<m then .lit ys f (some t) else .lit ys false none:=by
 simp only [dG,cX,snap];cases snaps σ m d vs<;>by_cases h:t<m<;>simp [clr,h,Option.filter]
theorem FJ (σ:St) (m d:Nat) (f:FuncId) (a b:List AV):cX σ m d (.func f a b)=(dG σ m d a).bind fun x=>(dG σ m d b).map fun y=>.func f x y:=by
 simp only [dG,cX,snap];cases snaps σ m d a<;>cases snaps σ m d b<;>simp [clr]
theorem MC (σ:St) (m d id off len sz:Nat):cX σ m (d+1) (.ref id off len sz) =
  if id<m then some (.ref id off len sz) else (lO σ (.ref id off len sz)).bind fun xs=>if (decide (0<sz)&&aL sz xs)=true then (dG σ m d xs).map fun ys=>.lit ys false none else none:=by
 simp only [cX,snap]
 split
 ·simp [clr]
 ·cases lO σ (.ref id off len sz) with
  |none=>simp
  |some xs =>
   simp only [Option.bind_some]
   split
   ·simp only [dG];cases snaps σ m d xs<;>simp [clr]
   ·simp
def lX (v:AV):Prop:=okV 0 v∧clr v=v
def nS (vs:List AV):Prop:=okVs 0 vs∧clrs vs=vs
mutual
theorem snap_ok0 (σ:St) (m d:Nat):∀ (v:AV),okV 0 v→snap σ m d v=some v
 |.func f first cap,h=>by simp only [okV] at h;simp only [snap,snaps_ok0 σ m d first h.1,snaps_ok0 σ m d cap h.2]
 |.yield _,h|.ptr _ _,h|.ref _ _ _ _,h|.map _,h=>by simp [okV] at h
 |.lptr xs i o tk,h=>by
  simp only [okV] at h
  cases tk with
  |none=>simp [snap,snaps_ok0 σ m d xs h.2]
  |some t=>exact absurd (h.1 t rfl) (by omega)
 |.lit xs f tk,h=>by
  simp only [okV] at h
  cases tk with
  |none=>simp [snap,snaps_ok0 σ m d xs h.2]
  |some t=>exact absurd (h.1 t rfl) (by omega)
 |.agg cs,h=>by simp only [okV] at h;simp [snap,snaps_ok0 σ m d cs h]
 |.tuple cs,h=>by simp only [okV] at h;simp [snap,snaps_ok0 σ m d cs h]
 |.undef,_|.int _ _,_|.bool _,_|.str _,_|.nilFunc,_|.nilPtr,_|.nilMap,_=>by simp [snap]
theorem snaps_ok0 (σ:St) (m d:Nat):∀ (vs:List AV),okVs 0 vs→snaps σ m d vs=some vs
 |[],_=>by simp [snaps]
 |v::vs,h=>by simp only [okVs] at h;simp [snaps,snap_ok0 σ m d v h.1,snaps_ok0 σ m d vs h.2]
end
theorem aAS {v:AV} (h:lX v) (σ:St) (m d:Nat):cX σ m d v=some v:=by simp [cX,snap_ok0 σ m d v h.1,h.2]
theorem jX {vs:List AV} (h:nS vs) (σ:St) (m d:Nat):dG σ m d vs=some vs:=by simp [dG,snaps_ok0 σ m d vs h.1,h.2]
theorem dJ (k:IntKind) (n:Int):lX (.int k n):=⟨trivial,rfl⟩
theorem uG (b:Bool):lX (.bool b):=⟨trivial,rfl⟩
theorem v4 (b:ByteArray):lX (.str b):=⟨trivial,rfl⟩
theorem fC:nS []:=⟨trivial,rfl⟩
theorem bQ {v:AV} {vs:List AV} (h:lX v) (hs:nS vs):nS (v::vs):=⟨⟨h.1,hs.1⟩,by simp [clrs,h.2,hs.2]⟩
theorem jQ {vs:List AV} (h:nS vs):lX (.agg vs):=⟨h.1,by simp [clr,h.2]⟩
theorem KK {vs:List AV} (h:nS vs):lX (.tuple vs):=⟨h.1,by simp [clr,h.2]⟩
theorem I0q {vs:List AV} (h:nS vs):lX (.lit vs false none):=⟨⟨(fun t e=>by cases e),h.1⟩,by simp [clr,h.2]⟩
theorem cV {α:Type} {enc:α→AV} (h:∀ x,lX (enc x)) (l:List α):nS (l.map enc):=by
 induction l with
 |nil=>exact fC
 |cons x l ih=>exact bQ (h x) ih
theorem jE {α:Type} {enc:α→AV} (h:∀ x,lX (enc x)) (l:List α):lX (.lit (l.map enc) false none):=I0q (cV h l)
def I5 (o:Option AV) (σ:St) (v:AV):Prop:=∃ v0,o=some v0∧cX σ 0 20 v0=some v
@[congr] theorem aAA {o o':Option AV} {σ σ':St} {v:AV} (h:o=o') (h2:σ=σ'):I5 o σ v=I5 o' σ' v:=by rw [h,h2]
theorem aCS (v0:AV) (σ:St) (v:AV):I5 (some v0) σ v=(cX σ 0 20 v0=some v):=by simp [I5]
def RR (rs:List ARes) (v:AV):KJ:=fun j e σ=>(j=none∨j=some .ret)∧I5 (iH rs e σ) σ v
theorem aB4 (rs:List ARes) (v:AV) (e:Env) (σ:St):RR rs v none e σ=I5 (iH rs e σ) σ v:=by simp [RR]
theorem aDQ (rs:List ARes) (v:AV) (e:Env) (σ:St):RR rs v (some .ret) e σ=I5 (iH rs e σ) σ v:=by simp [RR]
theorem aU {f:FuncId} {args:List AV} {v:AV} {af:AFunc} (hf:T f=some af) (hn:args.length≤af.ntmps) (hk:nS args) (h:wp T af.body (gS 0 args) [] (RR af.results v)):dL T f args v:=by
 intro σ
 refine .frame hk.1 (.inl rfl) (R:=fun o=>o.v=v∧o.σ=[]) (.call hf hn (kE h fun o ho=>ho) fun o ho=>?_) fun o ho=>⟨ho.2,ho.1,rfl⟩
 obtain ⟨h1,v0,h2,h3⟩:=ho
 refine ⟨h1,v0,h2,?_⟩
 unfold cX at h3
 cases hs:snap o.σ 0 20 v0 with
 |none=>rw [hs] at h3;cases h3
 |some v1 =>
  rw [hs] at h3
  simp at h3
  exact .inr ⟨20,v1,v,hs,.inr h3.symm,fun i hi=>absurd hi (by simp),by simp,rfl,by simp⟩
theorem LL {f:FuncId} {args args0:List AV} {v:AV} (h:dL T f args0 v) (ha:clrs args=args0) (hk:okVs 0 args) (σ:St):Run T (.call f args σ) fun o=>o.v=v∧o.σ=σ :=
 .frame hk (.inr ha.symm) (h []) fun o ho=>⟨ho.2,ho.1,rfl⟩
theorem GJ {f:FuncId} {first cap args args0:List AV} {v:AV} {σ:St} {K:AV→St→Prop} (h:dL T f args0 v) (ha:clrs (first++args++cap)=args0) (hk:okVs 0 (first++args++cap)) (k:K v σ):cK (K:=⟨K⟩) T (.func f first cap) args σ :=
 .callf (.mono (LL h ha hk σ) fun o ho=>by rw [ho.1,ho.2];exact k)
theorem HG {f:FuncId} {first cap args args0:List AV} {v:AV} {σ:St} {K:AV→St→Prop} (h:dL T f args0 v) (ha:clrs (first++args++cap)=args0) (hk:okVs 0 (first++args++cap)) (k:K v σ):cD (K:=⟨K⟩) T (.func f first cap) args σ :=
 ⟨v,σ,.callf (LL h ha hk σ),k⟩
theorem aD {f:FuncId} {args args0:List AV} {v:AV} {σ:St} {K:AV→St→Prop} (h:dL T f args0 v) (ha:args=args0) (hk:nS args0) (k:K v σ):cK (K:=⟨K⟩) T (.func f [] []) args σ:=by
 subst ha;exact GJ h (by simpa using hk.2) (by simpa using hk.1) k
theorem aE {f:FuncId} {args args0:List AV} {v:AV} {σ:St} {K:AV→St→Prop} (h:dL T f args0 v) (ha:args=args0) (hk:nS args0) (k:K v σ):cD (K:=⟨K⟩) T (.func f [] []) args σ:=by
 subst ha;exact HG h (by simpa using hk.2) (by simpa using hk.1) k
theorem G7 {f:FuncId} {args args0:List AV} {v:AV} {σ:St} (h:dL T f args0 v) (ha:dG σ 0 20 args=some args0) (hv:Scal v):Run T (.call f args σ) fun o=>o.v=v∧o.σ=σ:=by
 unfold dG at ha
 cases hs:snaps σ 0 20 args with
 |none=>rw [hs] at ha;cases ha
 |some as1 =>
  rw [hs] at ha
  simp at ha
  exact .frameS hs (.inr ha.symm) (h []) fun o ho=>⟨ho.2,by rw [ho.1];exact hv,ho.1,rfl⟩
theorem uI {f:FuncId} {first cap args args0:List AV} {v:AV} {σ:St} {K:AV→St→Prop} (h:dL T f args0 v) (ha:dG σ 0 20 (first++args++cap)=some args0) (hv:Scal v) (k:K v σ):cK (K:=⟨K⟩) T (.func f first cap) args σ :=
 .callf (.mono (G7 h ha hv) fun o ho=>by rw [ho.1,ho.2];exact k)
theorem wU {f:FuncId} {first cap args args0:List AV} {v:AV} {σ:St} {K:AV→St→Prop} (h:dL T f args0 v) (ha:dG σ 0 20 (first++args++cap)=some args0) (hv:Scal v) (k:K v σ):cD (K:=⟨K⟩) T (.func f first cap) args σ :=
 ⟨v,σ,.callf (G7 h ha hv),k⟩
def InK (rs:List ARes) (K:AV→St→Prop):KJ:=fun j e σ=>(j=none∨j=some .ret)∧∃ v,iH rs e σ=some v∧K v σ
def InR (o:Option AV) (σ:St) (K:AV→St→Prop):Prop:=∃ v,o=some v∧K v σ
@[congr] theorem aDA {o o':Option AV} {σ σ':St} {K:AV→St→Prop} (h:o=o') (h2:σ=σ'):InR o σ K=InR o' σ' K:=by rw [h,h2]
theorem aBV (v:AV) (σ:St) (K:AV→St→Prop):InR (some v) σ K=K v σ:=by simp [InR]
theorem aB6 (rs:List ARes) (K:AV→St→Prop) (e:Env) (σ:St):InK rs K none e σ=InR (iH rs e σ) σ K:=by simp [InK,InR]
theorem aDG (rs:List ARes) (K:AV→St→Prop) (e:Env) (σ:St):InK rs K (some .ret) e σ=InR (iH rs e σ) σ K:=by simp [InK,InR]
theorem sP {f:FuncId} {first cap args:List AV} {af:AFunc} {σ:St} {K:AV→St→Prop} (hf:T f=some af) (hn:(first++args++cap).length≤af.ntmps) (h:wp T af.body (gS 0 (first++args++cap)) σ (InK af.results K)) :
  cK (K:=⟨K⟩) T (.func f first cap) args σ :=
 .callf (.call hf hn (kE h fun o ho=>ho) fun o ho=>⟨ho.1,ho.2.choose,ho.2.choose_spec.1,.inl ho.2.choose_spec.2⟩)
def EqE (σ:St) (m:Nat) (e:Env):Env→Prop
 |[]=>True
 |(t,v)::e'=>cX σ m 20 (Env.get e t)=some v∧EqE σ m e e'
theorem aG1 (σ:St) (m:Nat) (e:Env):EqE σ m e []=True:=by simp only [EqE]
theorem aHY (σ:St) (m:Nat) (e:Env) (t:Nat) (v:AV) (e':Env):EqE σ m e ((t,v)::e')=(cX σ m 20 (Env.get e t)=some v∧EqE σ m e e'):=by simp only [EqE]
theorem IK {σ:St} {m:Nat} {e:Env}:∀ {e':Env},EqE σ m e e'→LX σ m e e'
 |[],_=>trivial
 |(t,v)::e',h=>by
  refine ⟨.inr ?_,IK h.2⟩
  have h1:=h.1
  unfold cX at h1
  cases hs:snap σ m 20 (Env.get e t) with
  |none=>rw [hs] at h1;cases h1
  |some v1=>rw [hs] at h1;simp at h1;exact ⟨20,v1,hs,.inr h1.symm⟩
def EqS (m:Nat):St→St→St→Prop
 |_,_,[]=>True
 |s::ss,b::bs,c::cs=>(c=b∧(b=s∨aH m b))∧EqS m ss bs cs
 |[],b::bs,c::cs=>(c=b∧aH m b)∧EqS m [] bs cs
 |_,[],_::_=>False
theorem aHJ (m:Nat) (a b:St):EqS m a b []=True:=by cases a<;>cases b<;>simp only [EqS]
theorem aHX (m:Nat) (s b c:ABlk) (ss bs cs:St):EqS m (s::ss) (b::bs) (c::cs)=((c=b∧(b=s∨aH m b))∧EqS m ss bs cs):=by simp only [EqS]
theorem aGQ (m:Nat) (b c:ABlk) (bs cs:St):EqS m [] (b::bs) (c::cs)=((c=b∧aH m b)∧EqS m [] bs cs):=by simp only [EqS]
theorem CG {m:Nat}:∀ {σ σ' σ'':St},EqS m σ σ' σ''→∀ i c,σ''[i]? = some c→σ'[i]? = some c∧((i<σ.length∧σ'[i]? = σ[i]?)∨aH m c)
 |_,_,[],_,i,c,h=>by simp at h
 |s::ss,b::bs,x::cs,h,i,c,hc=>by
  obtain ⟨⟨h1,h2⟩,h3⟩:=h
  cases i with
  |zero =>
   simp at hc
   subst hc
   subst h1
   refine ⟨rfl,?_⟩
   rcases h2 with h2|h2
   ·left;simp [h2]
   ·right;exact h2
  |succ i =>
   obtain ⟨q1,q2⟩:=CG h3 i c (by simpa using hc)
   refine ⟨by simpa using q1,?_⟩
   rcases q2 with ⟨q2,q3⟩|q2
   ·left;exact ⟨by simp;omega,by simpa using q3⟩
   ·right;exact q2
 |[],b::bs,x::cs,h,i,c,hc=>by
  obtain ⟨⟨h1,h2⟩,h3⟩:=h
  cases i with
  |zero =>
   simp at hc
   subst hc
   subst h1
   exact ⟨rfl,.inr h2⟩
  |succ i =>
   obtain ⟨q1,q2⟩:=CG h3 i c (by simpa using hc)
   refine ⟨by simpa using q1,?_⟩
   rcases q2 with ⟨q2,q3⟩|q2
   ·simp at q2
   ·right;exact q2
def aC (σ:St) (e':Env) (σ':St) (e'':Env) (σ'':St):Prop:=σ.length≤σ''.length∧σ''.length≤σ'.length∧EqE σ' σ''.length e' e''∧EqS σ''.length σ σ' σ''
@[congr] theorem X1 {σ σ1:St} {e' e1:Env} {σ' σ1':St} {e'':Env} {σ'':St} (h1:σ=σ1) (h2:e'=e1) (h3:σ'=σ1'):aC σ e' σ' e'' σ''=aC σ1 e1 σ1' e'' σ'':=by rw [h1,h2,h3]
theorem S0 {σ:St} {e':Env} {σ':St} {e'':Env} {σ'':St} (h:aC σ e' σ' e'' σ''):CA σ e' σ' e'' σ'':=by
 obtain ⟨h1,h2,h3,h4⟩:=h
 refine ⟨h1,h2,IK h3,fun i hi=>?_⟩
 obtain ⟨c,hc⟩:∃ c,σ''[i]? = some c:=⟨_,List.getElem?_eq_getElem hi⟩
 obtain ⟨q1,q2⟩:=CG h4 i c hc
 refine ⟨c,hc,?_⟩
 rcases q2 with ⟨q2,q3⟩|q2
 ·left;exact ⟨q2,.inl q3,q1⟩
 ·right;left;exact ⟨q1,q2⟩
def DS {S:Type} (P:S→Prop) (μ:S→Nat) (IE:S→Env) (IS:S→St) (s:S) (K:KJ):KJ:=fun j e σ =>
 match j with
 |none=>∃ s',P s'∧μ s'<μ s∧aC (IS s) e σ (IE s') (IS s')
 |some j=>K (some j) e σ
theorem RL {S:Type} (P:S→Prop) (μ:S→Nat) (IE:S→Env) (IS:S→St) (s:S) (K:KJ) (e:Env) (σ:St):DS P μ IE IS s K none e σ = ∃ s',P s'∧μ s'<μ s∧aC (IS s) e σ (IE s') (IS s'):=by simp only [DS]
theorem ZX {S:Type} (P:S→Prop) (μ:S→Nat) (IE:S→Env) (IS:S→St) (s:S) (K:KJ) (j:AJump) (e:Env) (σ:St):DS P μ IE IS s K (some j) e σ=K (some j) e σ:=by simp only [DS]
def EqW (e:Env):Env→Prop
 |[]=>True
 |(t,v)::e'=>(Env.get e t=v∨clr (Env.get e t)=v)∧EqW e e'
theorem aHZ (e:Env):EqW e []=True:=by simp only [EqW]
theorem aHT (e:Env) (t:Nat) (v:AV) (e':Env):EqW e ((t,v)::e')=((Env.get e t=v∨clr (Env.get e t)=v)∧EqW e e'):=by simp only [EqW]
theorem IU {e:Env}:∀ {e':Env},EqW e e'→∀ t,Env.get e' t = .undef∨Env.get e' t=Env.get e t∨Env.get e' t=clr (Env.get e t)
 |[],_,t=>.inl rfl
 |(k,v)::e',h,t=>by
  by_cases hk:k=t
  ·subst hk
   right
   rcases h.1 with h|h
   ·left;simp [Env.get,h]
   ·right;simp [Env.get,h]
  ·simpa [Env.get,hk] using IU h.2 t
theorem aFN {S:Type} (P:S→Prop) (μ:S→Nat) (IE:S→Env) (IS:S→St) {b:ACode} {K:KJ} (step:∀ s,P s→wp T b (IE s) (IS s) (DS P μ IE IS s K)):∀ n s,μ s=n→P s→N5 T (.loop b) (IE s) (IS s) K:=by
 intro n
 induction n using Nat.strongRecOn with
 |_ n ih =>
  intro s hs hp
  have h1:Run T (.code b (IE s) (IS s)) fun o=>(o.j=none∧∃ s',P s'∧μ s'<μ s∧o.env=IE s'∧o.σ=IS s')∨(o.j≠none∧K o.j o.env o.σ):=by
   refine .trim2 (kE (step s hp) fun o ho=>ho) fun o ho=>?_
   cases hj:o.j with
   |none =>
    rw [hj,RL] at ho
    obtain ⟨s',h1,h2,h3⟩:=ho
    exact .inr ⟨_,_,S0 h3,.inl ⟨rfl,s',h1,h2,rfl,rfl⟩⟩
   |some j =>
    rw [hj,ZX] at ho
    exact .inl (.inr ⟨by simp,ho⟩)
  refine .loop h1 (fun o ho hj=>?_) fun o ho hj=>?_
  ·rcases ho with ⟨_,s',q1,q2,q3,q4⟩|⟨q1,_⟩
   ·rw [q3,q4];exact ih _ (by omega) s' rfl q1
   ·exact absurd hj q1
  ·rcases ho with ⟨q,_⟩|⟨_,q⟩
   ·exact absurd q hj
   ·exact q
theorem bT {S:Type} (s0:S) (P:S→Prop) (μ:S→Nat) (IE:S→Env) (IS:S→St) {b:ACode} {e:Env} {σ:St} {K:KJ} (hP:P s0) (hσ:σ=IS s0) (hE:EqW e (IE s0))
  (step:∀ s,P s→wp T b (IE s) (IS s) (DS P μ IE IS s K)):rK (K:=⟨K⟩) T (.loop b) e σ:=by
 subst hσ
 exact .weak (IU hE) (aFN P μ IE IS step _ s0 rfl hP)
theorem hH {c:ACode} {e:Env} {σ:St} {K:KJ} (t sz:Nat) (xs:List AV) (ht:Env.get e t = .lit xs true none) (h:rK (K:=⟨K⟩) T c ((t,.lit xs false (some σ.length))::e) (σ++[.tok sz xs.length false])):rK (K:=⟨K⟩) T c e σ :=
 .ghost t sz xs ht h
end Go.Am
namespace Go.Am
variable {T:FuncId→Option AFunc}
def zU (e:Env) (σ:St):ARes→Option AV
 |.tmp t=>some (Env.get e t)
 |.cell t sh=>mC sh σ (Env.get e t)
def pD (e:Env) (σ:St):List ARes→Option (List AV)
 |[]=>some []
 |r::rs=>(zU e σ r).bind fun v=>(pD e σ rs).map (v::·)
theorem xC (e:Env) (σ:St):∀ rs,oR e σ rs=pD e σ rs
 |[]=>rfl
 |.tmp t::rs=>by simp [oR,pD,zU,xC e σ rs]
 |.cell t sh::rs=>by
  simp only [oR,pD,zU,xC e σ rs]
  cases mC sh σ (Env.get e t)<;>cases pD e σ rs<;>simp
theorem aAJ (e:Env) (σ:St):iH [] e σ=some (.tuple []):=by simp [iH,oR]
theorem aBH (r:ARes) (e:Env) (σ:St):iH [r] e σ=zU e σ r:=by
 simp only [iH,xC,pD];cases zU e σ r<;>simp
theorem aBJ (r s:ARes) (rs:List ARes) (e:Env) (σ:St):iH (r::s::rs) e σ=(pD e σ (r::s::rs)).map .tuple:=by
 simp only [iH,xC,pD];cases zU e σ r<;>cases zU e σ s<;>cases pD e σ rs<;>simp
theorem aDI (e:Env) (σ:St):pD e σ []=some []:=by simp only [pD]
theorem aEN (r:ARes) (rs:List ARes) (e:Env) (σ:St):pD e σ (r::rs)=(zU e σ r).bind fun v=>(pD e σ rs).map (v::·):=by simp only [pD]
theorem aHB (t:Nat) (e:Env) (σ:St):zU e σ (.tmp t)=some (Env.get e t):=by simp only [zU]
theorem aHK (t:Nat) (sh:Option Nat) (e:Env) (σ:St):zU e σ (.cell t sh)=mC sh σ (Env.get e t):=by simp only [zU]
theorem aG7 (id:Nat) (K:KJ) (e:Env) (σ:St):mA id K none e σ=K none e σ:=by simp only [mA]
theorem aHG (id:Nat) (K:KJ) (e:Env) (σ:St):mA id K (some .ret) e σ=K (some .ret) e σ:=by simp only [mA]
theorem aD3 (id:Nat) (K:KJ) (e:Env) (σ:St):mA id K (some (.exit id)) e σ=K none e σ:=by simp [mA]
theorem aDK (id i:Nat) (K:KJ) (e:Env) (σ:St) (h:i≠id):mA id K (some (.exit i)) e σ=K (some (.exit i)) e σ:=by simp [mA,h]
theorem aBC {α:Type} {sz:Nat} {enc:α→AV} {l:List α} {k:Nat} {t:Option Nat} (h:k<l.length) (hs:∀ x,(enc x).cells.length=sz):yI sz (l.map enc) (k:Int) t=some (.lptr (l.map enc) k 0 t):=by
 simp [yI,List.getElem?_map,h,hs]
theorem aBY {α:Type} {enc:α→AV} {l:List α} {k:Nat} (h:k<l.length):(l.map enc)[k]? = some (enc l[k]):=by simp [List.getElem?_map,h]
theorem rd0 {ds:List ADOper} {e:Env} {σ:St} {K:KJ} (hz:eJ ds=[]) (h:wpD T ds e σ σ.length [σ] [] fun e σ=>K none e σ):rK (K:=⟨K⟩) T (.dreg ds) e σ:=by
 refine K4 ?_
 rw [hz,List.append_nil]
 exact h
theorem qB {ds:List ADOper} {e:Env} {σ:St} {K:KJ} (zs:St) (hz:eJ ds=zs) (h:wpD T ds e (σ++zs) σ.length [σ++zs] [] fun e σ=>K none e σ):rK (K:=⟨K⟩) T (.dreg ds) e σ:=by
 subst hz
 exact K4 h
theorem bP {k n:Nat} (h:k<n) (hn:n<9223372036854775808):IntKind.i64.wrap ((k:Int)+1)=((k+1:Nat):Int):=by rw [eA ⟨by omega,by omega⟩];omega
def ints (l:List Int):AV:=.lit (l.map (.int .i64)) false none
theorem j8 (l:List Int):lX (ints l):=jE (dJ .i64) l
theorem kG (σ:St) (m d:Nat) (k:IntKind) (l:List Int):dG σ m d (l.map (.int k))=some (l.map (.int k)):=jX (cV (dJ k) l) σ m d
theorem aA8 (σ:St) (m d:Nat) (l:List ByteArray):dG σ m d (l.map .str)=some (l.map .str):=jX (cV v4 l) σ m d
theorem YC (σ:St) (m d:Nat):∀ xs ys:List AV,dG σ m d (xs++ys)=(dG σ m d xs).bind fun a=>(dG σ m d ys).map (a++·)
 |[],ys=>by rw [ME];simp
 |x::xs,ys=>by
  rw [List.cons_append,BH,BH,YC σ m d xs ys]
  cases cX σ m d x<;>simp
  cases dG σ m d xs<;>simp
  cases dG σ m d ys<;>simp
def aJ (l:List (List Int)):AV:=.lit (l.map ints) false none
theorem oS (l:List (List Int)):lX (aJ l):=jE j8 l
theorem aBZ (σ:St) (m d:Nat) (l:List Int):cX σ m d (ints l)=some (ints l):=aAS (j8 l) σ m d
theorem QG (σ:St) (m d:Nat) (l:List (List Int)):dG σ m d (l.map ints)=some (l.map ints):=jX (cV j8 l) σ m d
theorem aAV (k:IntKind) (a b:Int):zF [.int k a,.int k b]=some (.int k (min a b)):=by
 simp only [zF,uB,if_true,Option.some.injEq,AV.int.injEq,true_and];split<;>omega
theorem aCN (k:IntKind) (a b:Int):zB [.int k a,.int k b]=some (.int k (max a b)):=by
 simp only [zB,tW,if_true,Option.some.injEq,AV.int.injEq,true_and];split<;>omega
def eY (s:ByteArray) (k:Nat):Int:=(((s[k]?).getD 0).toNat:Int)
theorem EI (s:ByteArray) (k:Nat):0≤eY s k∧eY s k<256:=by
 have:=((s[k]?).getD 0).toNat_lt
 unfold eY
 omega
theorem aCB {s:ByteArray} {k:Nat} (h:k<s.size):AM (.str s) (.int .i64 (k:Int))=some (.int .u8 (eY s k)):=by
 simp [AM,gM,eY,h]
structure Span where
 lo:Int
 hi:Int
 deriving DecidableEq
def nX (s:Span):AV:=.agg [.int .i64 s.lo,.int .i64 s.hi]
theorem aT (s:Span):nX s = .agg [.int .i64 s.lo,.int .i64 s.hi]:=by simp only [nX]
theorem NK (s:Span):lX (nX s):=jQ (bQ (dJ _ _) (bQ (dJ _ _) fC))
def J7 (l:List ByteArray):AV:=.lit (l.map .str) false none
theorem ON (l:List ByteArray):lX (J7 l):=jE v4 l
end Go.Am
namespace Go.Am
variable {T:FuncId→Option AFunc}
def j9 (T:FuncId→Option AFunc) (f:AV) (args:List AV) (σ:St) (v:AV):Prop:=Run T (.callv f args σ) fun o=>o.v=v∧o.σ=σ
def CD (o:Option AV) (σ0 σ:St) (v:AV):Prop:=∃ v0 τ,o=some v0∧σ=σ0++τ∧cX σ σ0.length 20 v0=some v
@[congr] theorem YP {o o':Option AV} {σ0 σ σ':St} {v:AV} (h:o=o') (h2:σ=σ'):CD o σ0 σ v=CD o' σ0 σ' v:=by rw [h,h2]
def H7 (rs:List ARes) (σ0:St) (v:AV):KJ:=fun j e σ=>(j=none∨j=some .ret)∧CD (iH rs e σ) σ0 σ v
theorem aAB (rs:List ARes) (σ0:St) (v:AV) (e:Env) (σ:St):H7 rs σ0 v none e σ=CD (iH rs e σ) σ0 σ v:=by simp [H7]
theorem aD1 (rs:List ARes) (σ0:St) (v:AV) (e:Env) (σ:St):H7 rs σ0 v (some .ret) e σ=CD (iH rs e σ) σ0 σ v:=by simp [H7]
theorem fQ {v0:AV} {σ0 σ:St} {v:AV} (τ:St) (h1:σ=σ0++τ) (h2:cX σ σ0.length 20 v0=some v):CD (some v0) σ0 σ v:=⟨v0,τ,rfl,h1,h2⟩
theorem eX {f:FuncId} {first cap args:List AV} {σ:St} {af:AFunc} {v:AV} (hf:T f=some af) (hn:(first++args++cap).length≤af.ntmps) (h:wp T af.body (gS 0 (first++args++cap)) σ (H7 af.results σ v)):j9 T (.func f first cap) args σ v:=by
 refine .callf (.call hf hn (kE h fun o ho=>ho) fun o ho=>?_)
 obtain ⟨h1,v0,τ,h2,h3,h4⟩:=ho
 refine ⟨h1,v0,h2,?_⟩
 unfold cX at h4
 cases hs:snap o.σ σ.length 20 v0 with
 |none=>rw [hs] at h4;cases h4
 |some v1 =>
  rw [hs] at h4
  simp at h4
  exact .inr ⟨20,v1,v,hs,.inr h4.symm,fun i hi=>.inl (by rw [h3];exact List.getElem?_append_left hi),by rw [h3];simp,rfl,by rw [h3];simp⟩
theorem cM {f:AV} {args:List AV} {v:AV} {σ:St} {K:AV→St→Prop} (h:j9 T f args σ v) (k:K v σ):cK (K:=⟨K⟩) T f args σ:=.mono h fun o ho=>by rw [ho.1,ho.2];exact k
theorem CV {f:AV} {args:List AV} {v:AV} {σ:St} {K:AV→St→Prop} (h:j9 T f args σ v) (k:K v σ):cD (K:=⟨K⟩) T f args σ:=⟨v,σ,h,k⟩
def u4 (σ:St) (v:AV):Prop:=∀ τ,cX (σ++τ) σ.length 20 v=some v
theorem u4.nil {σ:St} {v:AV} (h:u4 σ v):cX σ σ.length 20 v=some v:=by simpa using h []
theorem aBS (m:Nat):∀ (σ τ:St),EqS m σ (σ++τ) σ=True
 |[],τ=>by cases τ<;>simp [EqS]
 |b::σ,τ=>by simp [EqS,aBS m σ τ]
theorem aEO (m:Nat) (σ:St):EqS m σ σ σ=True:=by simpa using aBS m σ []
theorem aAK (σ τ υ:St):σ++τ++υ=σ++(τ++υ):=List.append_assoc _ _ _
theorem R9 {s:ByteArray} {k:Nat} (h:k<s.size):yL [.siter s k] (.ptr 0 0)=some (.tuple [.bool true,.int .i64 k,.int .i32 (Utf8.decode s k).1],[.siter s (k+(Utf8.decode s k).2)]):=by
 simp [yL,h]
theorem PK {s:ByteArray} {k:Nat} (h:¬k<s.size):yL [.siter s k] (.ptr 0 0)=some (.tuple [.bool false],[.siter s k]):=by
 simp [yL,h]
theorem wZ {s:ByteArray} {k:Nat} (h:k<s.size) (hb:eY s k<128):Utf8.decode s k=((eY s k).toNat,1):=by
 have e:eY s k=((s[k]'h).toNat:Int):=by simp [eY,h]
 rw [decode_ascii s k h (by omega),e]
 simp
theorem HF {s:ByteArray} {k:Nat} (h:k<s.size) (hb:128≤eY s k):128≤(Utf8.decode s k).1:=by
 have e:eY s k=((s[k]'h).toNat:Int):=by simp [eY,h]
 exact (decode_high s k h (by omega)).1
theorem aCL {α:Type} {sz:Nat} {enc:α→AV} {l:List α} {i:Nat} {σ:St} {t:Option Nat} (hi:i≤l.length) (hs:∀ x,(enc x).cells.length=sz):AL sz σ (.lit (l.map enc) false t) none (some (.int .i64 (i:Int))) none=some (.lit ((l.take i).map enc) false t):=by
 have hc:AA sz (l.map enc) 0 (i:Int)=true:=by
  unfold AA
  by_cases h0:i=0
  ·subst h0;simp
  ·cases l with
   |nil=>simp at hi;omega
   |cons x l=>simp [hs]
 simp only [AL,kD,pU,Option.map_none,gM,nZ]
 rw [if_pos ⟨by omega,by omega,by simp;omega,hc⟩]
 simp [List.map_take]
theorem eT {f:FuncId} {args args0:List AV} {v:AV} {σ:St} {K:AV→St→Prop} (h:dL T f args0 v) (ha:clrs args=args0) (hk:okVs 0 args) (k:K v σ):cK (K:=⟨K⟩) T (.func f [] []) args σ :=
 GJ h (by simpa using ha) (by simpa using hk) k
theorem fH {f:FuncId} {args args0:List AV} {v:AV} {σ:St} {K:AV→St→Prop} (h:dL T f args0 v) (ha:clrs args=args0) (hk:okVs 0 args) (k:K v σ):cD (K:=⟨K⟩) T (.func f [] []) args σ :=
 HG h (by simpa using ha) (by simpa using hk) k
end Go.Am
namespace Go.Am
def QV:=And.intro @aGI (And.intro @pW (And.intro @LB (And.intro @aAK (And.intro @aCB (And.intro @aAV (And.intro @aCN (And.intro @aE0 (And.intro @aAO (And.intro @RU (And.intro @Q3 (And.intro @aFU (And.intro @aE8 (And.intro @aAF (And.intro @VP (And.intro @TJ (And.intro @RF (And.intro @TF (And.intro @j5 (And.intro @jO (And.intro @aCH (And.intro @P5 (And.intro @aB3 (And.intro @aA4 (And.intro @aCM (And.intro @XM (And.intro @QJ (And.intro @aAC (And.intro @aBN (And.intro @aBU (And.intro @UB (And.intro @aA3 (And.intro @aGD (And.intro @UV (And.intro @V5 (And.intro @Y7 (And.intro @aD7 (And.intro @aE4 (And.intro @OZ (And.intro @aCE (And.intro @PL (And.intro @aEU (And.intro @aF7 (And.intro @aFC (And.intro @aFD (And.intro @aES (And.intro @aF0 (And.intro @aFY (And.intro @aDE (And.intro @aDJ (And.intro @aF8 (And.intro @aDF (And.intro @aEV (And.intro @aCX (And.intro @aBP (And.intro @PR (And.intro @PY (And.intro @aA2 (And.intro @aB9 (And.intro @aF3 (And.intro @aCA (And.intro @SU (And.intro @sJ (And.intro @tB (And.intro @jZ (And.intro @aFR (And.intro @aER (And.intro @WP (And.intro @aDU (And.intro @UX (And.intro @O1 (And.intro @SN (And.intro @Z0 (And.intro @Q4 (And.intro @aFV (And.intro @aDL (And.intro @aAU (And.intro @aET (And.intro @SJ (And.intro @NV (And.intro @aDR (And.intro @C_0 (And.intro @aB8 (And.intro @W1 (And.intro @aC0 (And.intro @Z6 (And.intro @aCF (And.intro @Z8 (And.intro @VE (And.intro @aAL (And.intro @NX (And.intro @JR (And.intro @aFI (And.intro @aBO (And.intro @aDH (And.intro @aDY (And.intro @aFG (And.intro @aDW (And.intro @aBD (And.intro @aGE (And.intro @aGF (And.intro @S5 (And.intro @NO (And.intro @aGC (And.intro @aFX (And.intro @QH (And.intro @SZ (And.intro @aEQ (And.intro @aDN (And.intro @aFB (And.intro @aAQ (And.intro @aE7 (And.intro @aAJ (And.intro @aBH (And.intro @aBJ (And.intro @aDI (And.intro @aEN (And.intro @aHB (And.intro @aHK (And.intro @aCS (And.intro @aBV (And.intro @aE2 (And.intro @aC3 (And.intro @WA (And.intro @aF6 (And.intro @U5 (And.intro @UE (And.intro @VA (And.intro @Z7 (And.intro @UZ (And.intro @KI (And.intro @aDZ (And.intro @aDX (And.intro @aD0 (And.intro @aGG (And.intro @aB5 (And.intro @WC (And.intro @WV (And.intro @M7 (And.intro @PJ (And.intro @O4 (And.intro @UH (And.intro @VJ (And.intro @WE (And.intro @UU (And.intro @PI (And.intro @SG (And.intro @S3 (And.intro @aD8 (And.intro @aEF (And.intro @TM (And.intro @VI (And.intro @aCD (And.intro @aF9 (And.intro @aF5 (And.intro @Q9 (@V4))))))))))))))))))))))))))))))))))))))))))))))))))))))))))))))))))))))))))))))))))))))))))))))))))))))))))))))))))))))))))))))))))))))))))))))))))))))))))))
def QP:=And.intro @aAB (And.intro @aD1 (And.intro @aED (And.intro @aFJ (And.intro @aBX (And.intro @aCC (And.intro @T5 (And.intro @aBK (And.intro @T9 (And.intro @WM (And.intro @aFL (And.intro @aG7 (And.intro @aHG (And.intro @aD3 (And.intro @aDK (And.intro @aBC (And.intro @aBY (And.intro @aB0 (And.intro @TT (And.intro @aC5 (And.intro @aBE (And.intro @W8 (And.intro @aEL (And.intro @aB4 (And.intro @aDQ (And.intro @aB6 (And.intro @aDG (And.intro @RL (And.intro @ZX (And.intro @aFM (And.intro @aC8 (And.intro @US (And.intro @aEH (And.intro @VM (And.intro @WW (And.intro @U9 (And.intro @aCK (And.intro @XD (And.intro @JX (And.intro @aFH (And.intro @aFO (And.intro @aDD (And.intro @aD2 (And.intro @aAE (And.intro @V1 (And.intro @UL (And.intro @NQ (And.intro @RE (And.intro @RY (And.intro @V3 (And.intro @T8 (And.intro @U0 (And.intro @VX (And.intro @RI (And.intro @SQ (And.intro @O2 (And.intro @aGA (And.intro @aDM (And.intro @O3 (And.intro @UK (And.intro @aA7 (And.intro @aF1 (And.intro @aDP (And.intro @PW (@VO))))))))))))))))))))))))))))))))))))))))))))))))))))))))))))))))
def QD:=And.intro @aEA (And.intro @aAR (And.intro @UF (And.intro @TH (And.intro @aFP (And.intro @Z9 (And.intro @aD5 (And.intro @WR (And.intro @VW (And.intro @WG (And.intro @aBI (And.intro @UW (And.intro @J3 (And.intro @aEG (And.intro @aFA (And.intro @aDT (And.intro @aGH (And.intro @aCI (And.intro @T0 (And.intro @U8 (And.intro @NA (And.intro @RM (And.intro @QM (And.intro @XE (And.intro @VC (And.intro @WH (And.intro @VU (And.intro @Q0 (And.intro @OY (And.intro @SI (And.intro @aGB (And.intro @aDC (And.intro @P3 (And.intro @W4 (And.intro @aBB (And.intro @aEC (And.intro @aEZ (And.intro @TE (And.intro @XG (And.intro @aEX (And.intro @aCV (And.intro @aD6 (And.intro @T6 (And.intro @WI (And.intro @VG (And.intro @aA1 (And.intro @UC (And.intro @JW (And.intro @aGL (And.intro @aFT (And.intro @aGK (And.intro @aE5 (And.intro @aCP (And.intro @WY (And.intro @UY (And.intro @MX (And.intro @PH (And.intro @O0 (And.intro @VL (And.intro @WO (And.intro @WD (And.intro @WZ (And.intro @PX (And.intro @Q5 (And.intro @R0 (And.intro @aFF (And.intro @aE6 (And.intro @PP (And.intro @UR (And.intro @aAX (And.intro @aEI (And.intro @aEB (And.intro @OS (@W6)))))))))))))))))))))))))))))))))))))))))))))))))))))))))))))))))))))))))
def QS:=And.intro @QG (And.intro @aBZ (And.intro @YC (And.intro @kG (And.intro @aA8 (And.intro @R2 (And.intro @F0 (And.intro @OW (And.intro @SV (And.intro @NW (And.intro @ZK (And.intro @aE9 (And.intro @ME (And.intro @BH (And.intro @WJ (And.intro @OT (And.intro @KF (And.intro @aAZ (And.intro @FJ (And.intro @XM (@QJ))))))))))))))))))))
def QR:=And.intro @O7 (And.intro @QZ (And.intro @W3 (@VZ)))
def QT:=And.intro @aBS (And.intro @aEO (And.intro @aG1 (And.intro @aHY (And.intro @aHJ (And.intro @aHX (And.intro @aGQ (And.intro @aHZ (And.intro @aHT (@RU)))))))))
variable {T:FuncId→Option AFunc}
mutual
theorem okV_up {m:Nat}:∀ v,okV 0 v→okV m v
 |.func _ first cap,h=>⟨okVs_up first h.1,okVs_up cap h.2⟩
 |.lptr xs _ _ tk,h=>⟨fun t e=>absurd (h.1 t e) (by omega),okVs_up xs h.2⟩
 |.lit xs _ tk,h=>⟨fun t e=>absurd (h.1 t e) (by omega),okVs_up xs h.2⟩
 |.agg cs,h=>okVs_up cs h
 |.tuple vs,h=>okVs_up vs h
 |.yield _,h|.ptr _ _,h|.ref _ _ _ _,h|.map _,h=>absurd h (by simp [okV])
 |.undef,_|.int _ _,_|.bool _,_|.str _,_|.nilFunc,_|.nilPtr,_|.nilMap,_=>trivial
theorem okVs_up {m:Nat}:∀ vs,okVs 0 vs→okVs m vs
 |[],_=>trivial
 |v::vs,h=>⟨okV_up v h.1,okVs_up vs h.2⟩
end
theorem mR {σ:St} {m d id off len sz:Nat} (h:id<m):cX σ m d (.ref id off len sz)=some (.ref id off len sz):=by
 cases d<;>simp [cX,snap,h,clr]
end Go.Am
namespace Go.Am
theorem qE (l:List Int):ints l = .lit (l.map (.int .i64)) false none:=by simp only [ints]
theorem PN (l:List ByteArray):J7 l = .lit (l.map .str) false none:=by simp only [J7]
def QC:=And.intro @and_self (And.intro @and_true (And.intro @true_and (And.intro @true_or (And.intro @or_true (And.intro @qE (And.intro @PN (And.intro @decide_true (And.intro @decide_false (And.intro @Nat.lt_irrefl (And.intro @Nat.le_refl (And.intro @List.length_cons.{0} (And.intro @List.length_nil.{0} (And.intro @List.cons_append.{0} (And.intro @List.nil_append.{0} (And.intro @List.append_nil.{0} (And.intro @List.getElem?_cons_zero.{0} (And.intro @List.getElem?_cons_succ.{0} (And.intro @List.take_zero.{0} (And.intro @List.drop_zero.{0} (And.intro @List.take_succ_cons.{0} (And.intro @List.drop_succ_cons.{0} (And.intro @List.take_nil.{0} (And.intro @List.drop_nil.{0} (And.intro @List.set_cons_zero.{0} (And.intro @List.set_cons_succ.{0} (And.intro @List.length_map.{0,0} (And.intro @Bool.and_true (And.intro @Bool.true_and (And.intro @Bool.and_self (And.intro @Bool.not_true (And.intro @Bool.not_false (And.intro @beq_self_eq_true.{0} (And.intro @Nat.zero_add (And.intro @implies_true.{0} (And.intro @implies_true.{1} (And.intro @forall_const.{0} (And.intro @forall_const.{1} (And.intro @ne_eq.{1} (And.intro @not_false_eq_true (@not_true_eq_false))))))))))))))))))))))))))))))))))))))))
def QA:=And.intro QP QD
def QB:=And.intro QR (And.intro QV (And.intro QS QC))
def QE:=And.intro QT (And.intro QS (And.intro @RU (And.intro @List.length_append.{0} (And.intro @Nat.le_add_right QC))))
class Dat (v:AV):Prop where
 h:lX v
class Dats (vs:List AV):Prop where
 h:nS vs
theorem dd {vs:List AV} [k:Dats vs]:nS vs:=k.h
instance:Dats []:=⟨fC⟩
instance {v:AV} {vs:List AV} [a:Dat v] [b:Dats vs]:Dats (v::vs):=⟨bQ a.h b.h⟩
instance (k:IntKind) (n:Int):Dat (.int k n):=⟨dJ k n⟩
instance (b:Bool):Dat (.bool b):=⟨uG b⟩
instance (s:ByteArray):Dat (.str s):=⟨v4 s⟩
instance (l:List Int):Dat (ints l):=⟨j8 l⟩
instance (l:List (List Int)):Dat (aJ l):=⟨oS l⟩
instance (l:List ByteArray):Dat (J7 l):=⟨ON l⟩
instance (s:Span):Dat (nX s):=⟨NK s⟩
instance {cs:List AV} [a:Dats cs]:Dat (.agg cs):=⟨jQ a.h⟩
instance {cs:List AV} [a:Dats cs]:Dat (.tuple cs):=⟨KK a.h⟩
instance {cs:List AV} [a:Dats cs]:Dat (.lit cs false none):=⟨I0q a.h⟩
instance (k:IntKind) (l:List Int):Dats (l.map (.int k)):=⟨cV (dJ k) l⟩
end Go.Am
namespace Go.Am.Room
def inR (n lo hi:Int):Bool:=decide (lo≤n)&&decide (n≤hi)
theorem gG (n lo hi:Int):dL T 62 [.int .i64 n,.int .i64 lo,.int .i64 hi] (.bool (inR n lo hi)):=by
 refine aU (af:=a62) rfl (by simp [a62]) dd ?_
 (repeat (first|simp only [↓QA,QB,Nat.reduceLT,reduceIte,Nat.reduceEqDiff,Nat.reduceAdd,Nat.reduceLeDiff,Nat.reduceMul,Nat.reduceBEq,a62]|refine rd0 rfl ?_))
 refine aG (fun h=>?_) fun h=>?_
 all_goals
  (repeat (first|simp only [↓QA,QB,Nat.reduceLT,reduceIte,Nat.reduceEqDiff,Nat.reduceAdd,Nat.reduceLeDiff,Nat.reduceMul,Nat.reduceBEq,h]|refine rd0 rfl ?_))
  simp [inR,h]
def o6 (s:Span) (lo hi:Int):Int:=if !inR s.lo lo hi||!inR s.hi lo hi then 7 else if s.hi<s.lo then 2 else 0
theorem LN (s:Span) (lo hi:Int):dL T 103 [nX s,.int .i64 lo,.int .i64 hi] (.int .i64 (o6 s lo hi)):=by
 refine aU (af:=a103) rfl (by simp [a103]) dd ?_
 (repeat (first|simp only [↓QA,QB,Nat.reduceLT,reduceIte,Nat.reduceEqDiff,Nat.reduceAdd,Nat.reduceLeDiff,Nat.reduceMul,Nat.reduceBEq,a103,aT]|refine rd0 rfl ?_))
 refine aD (gG _ _ _) rfl dd ?_
 (repeat (first|simp only [↓QA,QB,Nat.reduceLT,reduceIte,Nat.reduceEqDiff,Nat.reduceAdd,Nat.reduceLeDiff,Nat.reduceMul,Nat.reduceBEq]|refine rd0 rfl ?_))
 cases h1:inR s.lo lo hi
 ·(repeat (first|simp only [↓QA,QB,Nat.reduceLT,reduceIte,Nat.reduceEqDiff,Nat.reduceAdd,Nat.reduceLeDiff,Nat.reduceMul,Nat.reduceBEq]|refine rd0 rfl ?_))
  simp [o6,h1]
 ·(repeat (first|simp only [↓QA,QB,Nat.reduceLT,reduceIte,Nat.reduceEqDiff,Nat.reduceAdd,Nat.reduceLeDiff,Nat.reduceMul,Nat.reduceBEq]|refine rd0 rfl ?_))
  refine aD (gG _ _ _) rfl dd ?_
  (repeat (first|simp only [↓QA,QB,Nat.reduceLT,reduceIte,Nat.reduceEqDiff,Nat.reduceAdd,Nat.reduceLeDiff,Nat.reduceMul,Nat.reduceBEq]|refine rd0 rfl ?_))
  cases h2:inR s.hi lo hi
  ·(repeat (first|simp only [↓QA,QB,Nat.reduceLT,reduceIte,Nat.reduceEqDiff,Nat.reduceAdd,Nat.reduceLeDiff,Nat.reduceMul,Nat.reduceBEq]|refine rd0 rfl ?_))
   simp [o6,h1,h2]
  ·(repeat (first|simp only [↓QA,QB,Nat.reduceLT,reduceIte,Nat.reduceEqDiff,Nat.reduceAdd,Nat.reduceLeDiff,Nat.reduceMul,Nat.reduceBEq]|refine rd0 rfl ?_))
   refine aG (fun h=>?_) fun h=>?_
   all_goals
    (repeat (first|simp only [↓QA,QB,Nat.reduceLT,reduceIte,Nat.reduceEqDiff,Nat.reduceAdd,Nat.reduceLeDiff,Nat.reduceMul,Nat.reduceBEq,h]|refine rd0 rfl ?_))
    simp [o6,h1,h2]
    simpa using h
def kF (s:Span) (n:Int):Span:=⟨min s.lo n,max s.hi n⟩
theorem sO (l:List Int) (n:Int) (hl:l.length<9223372036854775808):dL T 43 [ints l,.int .i64 n] (.bool (l.contains n)):=by
 refine aU (af:=a43) rfl (by simp [a43]) dd ?_
 (repeat (first|simp only [↓QA,QB,Nat.reduceLT,reduceIte,Nat.reduceEqDiff,Nat.reduceAdd,Nat.reduceLeDiff,Nat.reduceMul,Nat.reduceBEq,a43]|refine rd0 rfl ?_))
 refine bT (S:=Nat) 0 (·≤l.length) (fun k=>l.length-k) (fun k=>[(0,ints l),(1,.int .i64 n),(5,.bool ((l.take k).contains n)),(6,.int .i64 k)]) (fun _=>[]) (Nat.zero_le _) rfl ?_ fun k hk=>?_
 ·try simp only [aC,QE,Nat.reduceLT,reduceIte,Nat.reduceEqDiff,Nat.reduceAdd,Nat.reduceLeDiff,Nat.reduceMul,Nat.reduceBEq]
  try simp
 ·(repeat (first|simp only [↓QA,QB,Nat.reduceLT,reduceIte,Nat.reduceEqDiff,Nat.reduceAdd,Nat.reduceLeDiff,Nat.reduceMul,Nat.reduceBEq,X6]|refine rd0 rfl ?_))
  refine aG (fun h=>?_) fun h=>?_
  ·have hk1:k<l.length:=by simpa using h
   (repeat (first|simp only [↓QA,QB,Nat.reduceLT,reduceIte,Nat.reduceEqDiff,Nat.reduceAdd,Nat.reduceLeDiff,Nat.reduceMul,Nat.reduceBEq]|refine rd0 rfl ?_))
   refine aG (fun h2=>?_) fun h2=>?_
   all_goals
    (repeat (first|simp only [↓QA,QB,Nat.reduceLT,reduceIte,Nat.reduceEqDiff,Nat.reduceAdd,Nat.reduceLeDiff,Nat.reduceMul,Nat.reduceBEq,h2,hk1]|refine rd0 rfl ?_))
    refine ⟨k+1,by omega,by omega,?_⟩
    try simp only [aC,QE,Nat.reduceLT,reduceIte,Nat.reduceEqDiff,Nat.reduceAdd,Nat.reduceLeDiff,Nat.reduceMul,Nat.reduceBEq,bP hk1 hl]
    simp only [List.take_succ_eq_append_getElem hk1,List.contains_append,h2]
    simp
    try (rw [Bool.eq_iff_iff];simp;exact eq_comm)
  ·have:k=l.length:=by simp at h;omega
   (repeat (first|simp only [↓QA,QB,Nat.reduceLT,reduceIte,Nat.reduceEqDiff,Nat.reduceAdd,Nat.reduceLeDiff,Nat.reduceMul,Nat.reduceBEq]|refine rd0 rfl ?_))
   simp [this]
def less:List Int→List Int→Bool
 |_,[]=>false
 |[],_::_=>true
 |a::az,b::bs=>if a=b then less az bs else decide (a<b)
theorem MG {a b:List Int} {k:Nat} (ha:k<a.length) (hb:k<b.length) (h:a[k]=b[k]):less (a.drop (k+1)) (b.drop (k+1))=less (a.drop k) (b.drop k):=by
 rw [List.drop_eq_getElem_cons ha,List.drop_eq_getElem_cons hb];simp [less,h]
theorem LD (a b:List Int) (ha:a.length<9223372036854775808) (hb:b.length<9223372036854775808):dL T 56 [ints a,ints b] (.bool (less a b)):=by
 refine aU (af:=a56) rfl (by simp [a56]) dd ?_
 (repeat (first|simp only [↓QA,QB,Nat.reduceLT,reduceIte,Nat.reduceEqDiff,Nat.reduceAdd,Nat.reduceLeDiff,Nat.reduceMul,Nat.reduceBEq,a56]|refine rd0 rfl ?_))
 refine bT (S:=Nat) 0 (fun k=>k≤a.length∧k≤b.length∧less (a.drop k) (b.drop k)=less a b) (fun k=>a.length-k) (fun k=>[(0,ints a),(1,ints b),(5,.int .i64 k)]) (fun _=>[]) ⟨Nat.zero_le _,Nat.zero_le _,rfl⟩ rfl ?_ fun k hk=>?_
 ·try simp only [aC,QE,Nat.reduceLT,reduceIte,Nat.reduceEqDiff,Nat.reduceAdd,Nat.reduceLeDiff,Nat.reduceMul,Nat.reduceBEq]
  try simp
 ·obtain ⟨hka,hkb,hl⟩:=hk
  (repeat (first|simp only [↓QA,QB,Nat.reduceLT,reduceIte,Nat.reduceEqDiff,Nat.reduceAdd,Nat.reduceLeDiff,Nat.reduceMul,Nat.reduceBEq,YX]|refine rd0 rfl ?_))
  by_cases h1:k<a.length
  ·have g1:decide ((k:Int)<a.length)=true:=by simpa using h1
   by_cases h2:k<b.length
   ·have g2:decide ((k:Int)<b.length)=true:=by simpa using h2
    (repeat (first|simp only [↓QA,QB,Nat.reduceLT,reduceIte,Nat.reduceEqDiff,Nat.reduceAdd,Nat.reduceLeDiff,Nat.reduceMul,Nat.reduceBEq,g1,g2,h1,h2]|refine rd0 rfl ?_))
    refine aG (fun h3=>?_) fun h3=>?_
    ·have h3':a[k]=b[k]:=by simpa using h3
     (repeat (first|simp only [↓QA,QB,Nat.reduceLT,reduceIte,Nat.reduceEqDiff,Nat.reduceAdd,Nat.reduceLeDiff,Nat.reduceMul,Nat.reduceBEq,h3]|refine rd0 rfl ?_))
     refine ⟨k+1,⟨by omega,by omega,(MG h1 h2 h3').trans hl⟩,by omega,?_⟩
     try simp only [aC,QE,Nat.reduceLT,reduceIte,Nat.reduceEqDiff,Nat.reduceAdd,Nat.reduceLeDiff,Nat.reduceMul,Nat.reduceBEq,bP h1 ha]
    ·have h3':a[k]≠b[k]:=by simpa using h3
     have e1:((k:Int)==b.length)=false:=by simp;omega
     have e2:((k:Int)==a.length)=false:=by simp;omega
     (repeat (first|simp only [↓QA,QB,Nat.reduceLT,reduceIte,Nat.reduceEqDiff,Nat.reduceAdd,Nat.reduceLeDiff,Nat.reduceMul,Nat.reduceBEq,h3,e1,e2,h1,h2]|refine rd0 rfl ?_))
     rw [←hl,List.drop_eq_getElem_cons h1,List.drop_eq_getElem_cons h2]
     simp [less,h3']
   ·have hkb':k=b.length:=by omega
    have g2:decide ((k:Int)<b.length)=false:=by simp;omega
    have e1:((k:Int)==b.length)=true:=by simp;omega
    (repeat (first|simp only [↓QA,QB,Nat.reduceLT,reduceIte,Nat.reduceEqDiff,Nat.reduceAdd,Nat.reduceLeDiff,Nat.reduceMul,Nat.reduceBEq,g1,g2,e1]|refine rd0 rfl ?_))
    rw [←hl,hkb',List.drop_length]
    cases List.drop b.length a<;>simp [less]
  ·have g1:decide ((k:Int)<a.length)=false:=by simp;omega
   have e2:((k:Int)==a.length)=true:=by simp;omega
   have hka':k=a.length:=by omega
   (repeat (first|simp only [↓QA,QB,Nat.reduceLT,reduceIte,Nat.reduceEqDiff,Nat.reduceAdd,Nat.reduceLeDiff,Nat.reduceMul,Nat.reduceBEq,g1]|refine rd0 rfl ?_))
   refine aG (fun h3=>?_) fun h3=>?_
   ·have h3':k=b.length:=by simp at h3;omega
    (repeat (first|simp only [↓QA,QB,Nat.reduceLT,reduceIte,Nat.reduceEqDiff,Nat.reduceAdd,Nat.reduceLeDiff,Nat.reduceMul,Nat.reduceBEq]|refine rd0 rfl ?_))
    rw [←hl,h3',List.drop_length]
    cases List.drop b.length a<;>simp [less]
   ·have h3':k<b.length:=by simp at h3;omega
    (repeat (first|simp only [↓QA,QB,Nat.reduceLT,reduceIte,Nat.reduceEqDiff,Nat.reduceAdd,Nat.reduceLeDiff,Nat.reduceMul,Nat.reduceBEq,h3,e2]|refine rd0 rfl ?_))
    rw [←hl,hka',List.drop_length,List.drop_eq_getElem_cons (by omega)]
    simp [less]
theorem qG:∀ a,less a a=false
 |[]=>rfl
 |a::az=>by simp [less,qG az]
theorem A2:∀ a b,less a b=false→less b a=false→a=b
 |[],[],_,_=>rfl
 |[],b::bs,h,_=>by simp [less] at h
 |a::az,[],_,h=>by simp [less] at h
 |a::az,b::bs,h1,h2=>by
  by_cases hab:a=b
  ·subst hab
   simp [less] at h1 h2
   rw [A2 az bs h1 h2]
  ·simp [less,hab,Ne.symm hab] at h1 h2
   omega
theorem LK (a b:Nat):((a:Int)==(b:Int))=decide (a=b):=by rw [Bool.eq_iff_iff];simp;omega
theorem eZ (a b:List Int) (ha:a.length<9223372036854775808) (hb:b.length<9223372036854775808):dL T 27 [ints a,ints b] (.bool (decide (a=b))):=by
 refine aU (af:=a27) rfl (by simp [a27]) dd ?_
 (repeat (first|simp only [↓QA,QB,Nat.reduceLT,reduceIte,Nat.reduceEqDiff,Nat.reduceAdd,Nat.reduceLeDiff,Nat.reduceMul,Nat.reduceBEq,a27]|refine rd0 rfl ?_))
 refine aG (fun h=>?_) fun h=>?_
 ·(repeat (first|simp only [↓QA,QB,Nat.reduceLT,reduceIte,Nat.reduceEqDiff,Nat.reduceAdd,Nat.reduceLeDiff,Nat.reduceMul,Nat.reduceBEq,h]|refine rd0 rfl ?_))
  refine aD (LD a b ha hb) rfl dd ?_
  (repeat (first|simp only [↓QA,QB,Nat.reduceLT,reduceIte,Nat.reduceEqDiff,Nat.reduceAdd,Nat.reduceLeDiff,Nat.reduceMul,Nat.reduceBEq,h]|refine rd0 rfl ?_))
  cases h1:less a b
  ·(repeat (first|simp only [↓QA,QB,Nat.reduceLT,reduceIte,Nat.reduceEqDiff,Nat.reduceAdd,Nat.reduceLeDiff,Nat.reduceMul,Nat.reduceBEq,h]|refine rd0 rfl ?_))
   refine aD (LD b a hb ha) rfl dd ?_
   (repeat (first|simp only [↓QA,QB,Nat.reduceLT,reduceIte,Nat.reduceEqDiff,Nat.reduceAdd,Nat.reduceLeDiff,Nat.reduceMul,Nat.reduceBEq,h]|refine rd0 rfl ?_))
   cases h2:less b a
   ·rw [A2 a b h1 h2];simp
   ·have:a≠b:=by rintro rfl;rw [qG] at h2;cases h2
    simp [this]
  ·have:a≠b:=by rintro rfl;rw [qG] at h1;cases h1
   (repeat (first|simp only [↓QA,QB,Nat.reduceLT,reduceIte,Nat.reduceEqDiff,Nat.reduceAdd,Nat.reduceLeDiff,Nat.reduceMul,Nat.reduceBEq,h]|refine rd0 rfl ?_))
   simp [this]
 ·have:a≠b:=by rintro rfl;simp at h
  (repeat (first|simp only [↓QA,QB,Nat.reduceLT,reduceIte,Nat.reduceEqDiff,Nat.reduceAdd,Nat.reduceLeDiff,Nat.reduceMul,Nat.reduceBEq,h]|refine rd0 rfl ?_))
  simp [this]
def gV (a b:List Int):Bool:=if a.length=b.length then less a b else decide (a.length<b.length)
theorem FV (a b:ByteArray):(a.toList==b.toList)=decide (a=b):=by
 rw [Bool.eq_iff_iff];simp
 constructor
 ·intro h;rw [Go.Lib.toList_data,Go.Lib.toList_data] at h;exact ByteArray.ext (Array.toList_inj.1 h)
 ·rintro rfl;rfl
def lD (s:ByteArray):List ByteArray→Nat
 |[]=>0
 |x::xs=>if x=s then 0 else lD s xs+1
def CO (s:ByteArray) (l:List ByteArray):Int:=if lD s l=l.length then -1 else lD s l
theorem J2 {s:ByteArray} {l:List ByteArray} {k:Nat} (h:k<l.length) (hx:l[k]≠s):k+lD s (l.drop k)=k+1+lD s (l.drop (k+1)):=by
 rw [List.drop_eq_getElem_cons h];simp [lD,hx];omega
theorem H1 (l:List ByteArray) (s:ByteArray) (hl:l.length<9223372036854775808):dL T 104 [J7 l,.str s] (.int .i64 (CO s l)):=by
 refine aU (af:=a104) rfl (by simp [a104]) dd ?_
 (repeat (first|simp only [↓QA,QB,Nat.reduceLT,reduceIte,Nat.reduceEqDiff,Nat.reduceAdd,Nat.reduceLeDiff,Nat.reduceMul,Nat.reduceBEq,a104]|refine rd0 rfl ?_))
 refine bT (S:=Nat) 0 (fun k=>k≤l.length∧k+lD s (l.drop k)=lD s l) (fun k=>l.length-k) (fun k=>[(0,J7 l),(1,.str s),(5,.int .i64 k)]) (fun _=>[]) ⟨Nat.zero_le _,by simp⟩ rfl ?_ fun k hk=>?_
 ·try simp only [aC,QE,Nat.reduceLT,reduceIte,Nat.reduceEqDiff,Nat.reduceAdd,Nat.reduceLeDiff,Nat.reduceMul,Nat.reduceBEq]
  try simp
 ·obtain ⟨hkl,ha⟩:=hk
  (repeat (first|simp only [↓QA,QB,Nat.reduceLT,reduceIte,Nat.reduceEqDiff,Nat.reduceAdd,Nat.reduceLeDiff,Nat.reduceMul,Nat.reduceBEq,RK,FV]|refine rd0 rfl ?_))
  refine aG (fun h=>?_) fun h=>?_
  ·have hk1:k<l.length:=by simpa using h
   have e2:((k:Int)==l.length)=false:=by simp;omega
   (repeat (first|simp only [↓QA,QB,Nat.reduceLT,reduceIte,Nat.reduceEqDiff,Nat.reduceAdd,Nat.reduceLeDiff,Nat.reduceMul,Nat.reduceBEq,h,hk1,FV]|refine rd0 rfl ?_))
   refine aG (fun h3=>?_) fun h3=>?_
   ·have h3':l[k]≠s:=by simpa using h3
    (repeat (first|simp only [↓QA,QB,Nat.reduceLT,reduceIte,Nat.reduceEqDiff,Nat.reduceAdd,Nat.reduceLeDiff,Nat.reduceMul,Nat.reduceBEq,h3]|refine rd0 rfl ?_))
    refine ⟨k+1,⟨by omega,by rw [←J2 hk1 h3'];exact ha⟩,by omega,?_⟩
    try simp only [aC,QE,Nat.reduceLT,reduceIte,Nat.reduceEqDiff,Nat.reduceAdd,Nat.reduceLeDiff,Nat.reduceMul,Nat.reduceBEq,bP hk1 hl]
   ·have h3':l[k]=s:=by simpa using h3
    have h4:lD s (l.drop k)=0:=by rw [List.drop_eq_getElem_cons hk1];simp [lD,h3']
    (repeat (first|simp only [↓QA,QB,Nat.reduceLT,reduceIte,Nat.reduceEqDiff,Nat.reduceAdd,Nat.reduceLeDiff,Nat.reduceMul,Nat.reduceBEq,h3,e2]|refine rd0 rfl ?_))
    simp only [CO]
    rw [if_neg (by omega)]
    simp;omega
  ·have hk1:k=l.length:=by simp at h;omega
   have e2:((k:Int)==l.length)=true:=by simp;omega
   have h4:lD s (l.drop k)=0:=by rw [hk1,List.drop_length];rfl
   (repeat (first|simp only [↓QA,QB,Nat.reduceLT,reduceIte,Nat.reduceEqDiff,Nat.reduceAdd,Nat.reduceLeDiff,Nat.reduceMul,Nat.reduceBEq,h,e2]|refine rd0 rfl ?_))
   simp only [CO]
   rw [if_pos (by omega)]
def BD (i:Nat) (b:Int):Bool:=inR b 97 122||(decide (0<i)&&(b==46||inR b 48 57))
def iI (s:ByteArray):Nat→Bool
 |0=>true
 |k+1=>iI s k&&BD k (eY s k)
def pT (s:ByteArray):Bool:=inR s.size 1 16&&iI s s.size
theorem AI (s:ByteArray) (hs:s.size<9223372036854775808):dL T 105 [.str s] (.bool (pT s)):=by
 refine aU (af:=a105) rfl (by simp [a105]) dd ?_
 (repeat (first|simp only [↓QA,QB,Nat.reduceLT,reduceIte,Nat.reduceEqDiff,Nat.reduceAdd,Nat.reduceLeDiff,Nat.reduceMul,Nat.reduceBEq,a105]|refine rd0 rfl ?_))
 ((first|refine aD (gG _ _ _) rfl dd ?_|refine aE (gG _ _ _) rfl dd ?_);(repeat (first|simp only [↓QA,QB,Nat.reduceLT,reduceIte,Nat.reduceEqDiff,Nat.reduceAdd,Nat.reduceLeDiff,Nat.reduceMul,Nat.reduceBEq]|refine rd0 rfl ?_)))
 refine bT (S:=Nat) 0 (fun k=>k≤s.size) (fun k=>s.size-k) (fun k=>[(0,.str s),(3,.bool (inR s.size 1 16&&iI s k)),(4,.int .i64 k)]) (fun _=>[]) (Nat.zero_le _) rfl ?_ fun k hk=>?_
 ·try simp only [aC,QE,Nat.reduceLT,reduceIte,Nat.reduceEqDiff,Nat.reduceAdd,Nat.reduceLeDiff,Nat.reduceMul,Nat.reduceBEq,iI]
  try simp
 ·(repeat (first|simp only [↓QA,QB,Nat.reduceLT,reduceIte,Nat.reduceEqDiff,Nat.reduceAdd,Nat.reduceLeDiff,Nat.reduceMul,Nat.reduceBEq,PA]|refine rd0 rfl ?_))
  refine aG (fun h=>?_) fun h=>?_
  ·have hk1:k<s.size:=by simpa using h
   have hb:=EI s k
   have hw:IntKind.i64.wrap (eY s k)=eY s k:=eA ⟨by omega,by omega⟩
   have fin:∀ (later:Bool),later=(decide (0<k)&&(eY s k==46||inR (eY s k) 48 57))→(inR s.size 1 16&&iI s k&&(inR (eY s k) 97 122||later))=(inR s.size 1 16&&iI s (k+1)):=by
    rintro _ rfl
    simp only [iI,BD,Bool.and_assoc]
   have tail:∀ (later:Bool) (e:Env),later=(decide (0<k)&&(eY s k==46||inR (eY s k) 48 57))→True:=fun _ _ _=>trivial
   (repeat (first|simp only [↓QA,QB,Nat.reduceLT,reduceIte,Nat.reduceEqDiff,Nat.reduceAdd,Nat.reduceLeDiff,Nat.reduceMul,Nat.reduceBEq,hk1,hw]|refine rd0 rfl ?_))
   cases h0:decide ((0:Int)<k)
   ·have h0':decide (0<k)=false:=by simpa using h0
    (repeat (first|simp only [↓QA,QB,Nat.reduceLT,reduceIte,Nat.reduceEqDiff,Nat.reduceAdd,Nat.reduceLeDiff,Nat.reduceMul,Nat.reduceBEq,hk1,hw]|refine rd0 rfl ?_))
    cases hf:(inR s.size 1 16&&iI s k)
    ·(repeat (first|simp only [↓QA,QB,Nat.reduceLT,reduceIte,Nat.reduceEqDiff,Nat.reduceAdd,Nat.reduceLeDiff,Nat.reduceMul,Nat.reduceBEq,hk1,hw,hf]|refine rd0 rfl ?_))
     refine ⟨k+1,by omega,by omega,?_⟩
     try simp only [aC,QE,Nat.reduceLT,reduceIte,Nat.reduceEqDiff,Nat.reduceAdd,Nat.reduceLeDiff,Nat.reduceMul,Nat.reduceBEq,bP hk1 hs,←fin false (by simp [h0']),hf]
     try simp
    ·(repeat (first|simp only [↓QA,QB,Nat.reduceLT,reduceIte,Nat.reduceEqDiff,Nat.reduceAdd,Nat.reduceLeDiff,Nat.reduceMul,Nat.reduceBEq,hk1,hw,hf]|refine rd0 rfl ?_))
     ((first|refine aD (gG _ _ _) rfl dd ?_|refine aE (gG _ _ _) rfl dd ?_);(repeat (first|simp only [↓QA,QB,Nat.reduceLT,reduceIte,Nat.reduceEqDiff,Nat.reduceAdd,Nat.reduceLeDiff,Nat.reduceMul,Nat.reduceBEq]|refine rd0 rfl ?_)))
     cases h2:inR (eY s k) 97 122
     all_goals
      (repeat (first|simp only [↓QA,QB,Nat.reduceLT,reduceIte,Nat.reduceEqDiff,Nat.reduceAdd,Nat.reduceLeDiff,Nat.reduceMul,Nat.reduceBEq,hk1,hw,hf]|refine rd0 rfl ?_))
      refine ⟨k+1,by omega,by omega,?_⟩
      try simp only [aC,QE,Nat.reduceLT,reduceIte,Nat.reduceEqDiff,Nat.reduceAdd,Nat.reduceLeDiff,Nat.reduceMul,Nat.reduceBEq,bP hk1 hs,←fin false (by simp [h0']),hf,h2]
      try simp
   ·have h0':decide (0<k)=true:=by simpa using h0
    (repeat (first|simp only [↓QA,QB,Nat.reduceLT,reduceIte,Nat.reduceEqDiff,Nat.reduceAdd,Nat.reduceLeDiff,Nat.reduceMul,Nat.reduceBEq,hk1,hw]|refine rd0 rfl ?_))
    cases h1:(eY s k==46)
    ·(repeat (first|simp only [↓QA,QB,Nat.reduceLT,reduceIte,Nat.reduceEqDiff,Nat.reduceAdd,Nat.reduceLeDiff,Nat.reduceMul,Nat.reduceBEq,hk1,hw]|refine rd0 rfl ?_))
     ((first|refine aD (gG _ _ _) rfl dd ?_|refine aE (gG _ _ _) rfl dd ?_);(repeat (first|simp only [↓QA,QB,Nat.reduceLT,reduceIte,Nat.reduceEqDiff,Nat.reduceAdd,Nat.reduceLeDiff,Nat.reduceMul,Nat.reduceBEq]|refine rd0 rfl ?_)))
     cases hf:(inR s.size 1 16&&iI s k)
     ·(repeat (first|simp only [↓QA,QB,Nat.reduceLT,reduceIte,Nat.reduceEqDiff,Nat.reduceAdd,Nat.reduceLeDiff,Nat.reduceMul,Nat.reduceBEq,hk1,hw,hf]|refine rd0 rfl ?_))
      refine ⟨k+1,by omega,by omega,?_⟩
      try simp only [aC,QE,Nat.reduceLT,reduceIte,Nat.reduceEqDiff,Nat.reduceAdd,Nat.reduceLeDiff,Nat.reduceMul,Nat.reduceBEq,bP hk1 hs,←fin _ rfl,hf]
      try simp
     ·(repeat (first|simp only [↓QA,QB,Nat.reduceLT,reduceIte,Nat.reduceEqDiff,Nat.reduceAdd,Nat.reduceLeDiff,Nat.reduceMul,Nat.reduceBEq,hk1,hw,hf]|refine rd0 rfl ?_))
      ((first|refine aD (gG _ _ _) rfl dd ?_|refine aE (gG _ _ _) rfl dd ?_);(repeat (first|simp only [↓QA,QB,Nat.reduceLT,reduceIte,Nat.reduceEqDiff,Nat.reduceAdd,Nat.reduceLeDiff,Nat.reduceMul,Nat.reduceBEq]|refine rd0 rfl ?_)))
      cases h2:inR (eY s k) 97 122
      all_goals
       (repeat (first|simp only [↓QA,QB,Nat.reduceLT,reduceIte,Nat.reduceEqDiff,Nat.reduceAdd,Nat.reduceLeDiff,Nat.reduceMul,Nat.reduceBEq,hk1,hw,hf]|refine rd0 rfl ?_))
       refine ⟨k+1,by omega,by omega,?_⟩
       try simp only [aC,QE,Nat.reduceLT,reduceIte,Nat.reduceEqDiff,Nat.reduceAdd,Nat.reduceLeDiff,Nat.reduceMul,Nat.reduceBEq,bP hk1 hs,←fin _ rfl,hf,h2,h0',h1]
       try simp
    ·(repeat (first|simp only [↓QA,QB,Nat.reduceLT,reduceIte,Nat.reduceEqDiff,Nat.reduceAdd,Nat.reduceLeDiff,Nat.reduceMul,Nat.reduceBEq,hk1,hw]|refine rd0 rfl ?_))
     cases hf:(inR s.size 1 16&&iI s k)
     ·(repeat (first|simp only [↓QA,QB,Nat.reduceLT,reduceIte,Nat.reduceEqDiff,Nat.reduceAdd,Nat.reduceLeDiff,Nat.reduceMul,Nat.reduceBEq,hk1,hw,hf]|refine rd0 rfl ?_))
      refine ⟨k+1,by omega,by omega,?_⟩
      try simp only [aC,QE,Nat.reduceLT,reduceIte,Nat.reduceEqDiff,Nat.reduceAdd,Nat.reduceLeDiff,Nat.reduceMul,Nat.reduceBEq,bP hk1 hs,←fin _ rfl,hf]
      try simp
     ·(repeat (first|simp only [↓QA,QB,Nat.reduceLT,reduceIte,Nat.reduceEqDiff,Nat.reduceAdd,Nat.reduceLeDiff,Nat.reduceMul,Nat.reduceBEq,hk1,hw,hf]|refine rd0 rfl ?_))
      ((first|refine aD (gG _ _ _) rfl dd ?_|refine aE (gG _ _ _) rfl dd ?_);(repeat (first|simp only [↓QA,QB,Nat.reduceLT,reduceIte,Nat.reduceEqDiff,Nat.reduceAdd,Nat.reduceLeDiff,Nat.reduceMul,Nat.reduceBEq]|refine rd0 rfl ?_)))
      cases h2:inR (eY s k) 97 122
      all_goals
       (repeat (first|simp only [↓QA,QB,Nat.reduceLT,reduceIte,Nat.reduceEqDiff,Nat.reduceAdd,Nat.reduceLeDiff,Nat.reduceMul,Nat.reduceBEq,hk1,hw,hf]|refine rd0 rfl ?_))
       refine ⟨k+1,by omega,by omega,?_⟩
       try simp only [aC,QE,Nat.reduceLT,reduceIte,Nat.reduceEqDiff,Nat.reduceAdd,Nat.reduceLeDiff,Nat.reduceMul,Nat.reduceBEq,bP hk1 hs,←fin _ rfl,hf,h2,h0',h1]
       try simp
  ·have hk1:k=s.size:=by simp at h;omega
   (repeat (first|simp only [↓QA,QB,Nat.reduceLT,reduceIte,Nat.reduceEqDiff,Nat.reduceAdd,Nat.reduceLeDiff,Nat.reduceMul,Nat.reduceBEq]|refine rd0 rfl ?_))
   simp [pT,hk1]
def fresh (s:ByteArray) (before:List ByteArray):Int:=if pT s=false then 6 else if lD s before=before.length then 0 else 5
theorem RG (s:ByteArray) (l:List ByteArray) (hs:s.size<9223372036854775808) (hl:l.length<9223372036854775808):dL T 75 [.str s,J7 l] (.int .i64 (fresh s l)):=by
 refine aU (af:=a75) rfl (by simp [a75]) dd ?_
 (repeat (first|simp only [↓QA,QB,Nat.reduceLT,reduceIte,Nat.reduceEqDiff,Nat.reduceAdd,Nat.reduceLeDiff,Nat.reduceMul,Nat.reduceBEq,a75]|refine rd0 rfl ?_))
 ((first|refine aD (H1 l s hl) rfl dd ?_|refine aE (H1 l s hl) rfl dd ?_);(repeat (first|simp only [↓QA,QB,Nat.reduceLT,reduceIte,Nat.reduceEqDiff,Nat.reduceAdd,Nat.reduceLeDiff,Nat.reduceMul,Nat.reduceBEq]|refine rd0 rfl ?_)))
 refine aG (fun h=>?_) fun h=>?_
 ·have hin:lD s l≠l.length:=by
   intro e
   simp [CO,e] at h
  (repeat (first|simp only [↓QA,QB,Nat.reduceLT,reduceIte,Nat.reduceEqDiff,Nat.reduceAdd,Nat.reduceLeDiff,Nat.reduceMul,Nat.reduceBEq]|refine rd0 rfl ?_))
  ((first|refine aD (AI s hs) rfl dd ?_|refine aE (AI s hs) rfl dd ?_);(repeat (first|simp only [↓QA,QB,Nat.reduceLT,reduceIte,Nat.reduceEqDiff,Nat.reduceAdd,Nat.reduceLeDiff,Nat.reduceMul,Nat.reduceBEq]|refine rd0 rfl ?_)))
  cases hn:pT s
  all_goals
   (repeat (first|simp only [↓QA,QB,Nat.reduceLT,reduceIte,Nat.reduceEqDiff,Nat.reduceAdd,Nat.reduceLeDiff,Nat.reduceMul,Nat.reduceBEq]|refine rd0 rfl ?_))
   simp [fresh,hn,hin]
 ·have hin:lD s l=l.length:=by
   simp only [CO] at h
   split at h
   ·assumption
   ·simp at h
  (repeat (first|simp only [↓QA,QB,Nat.reduceLT,reduceIte,Nat.reduceEqDiff,Nat.reduceAdd,Nat.reduceLeDiff,Nat.reduceMul,Nat.reduceBEq]|refine rd0 rfl ?_))
  ((first|refine aD (AI s hs) rfl dd ?_|refine aE (AI s hs) rfl dd ?_);(repeat (first|simp only [↓QA,QB,Nat.reduceLT,reduceIte,Nat.reduceEqDiff,Nat.reduceAdd,Nat.reduceLeDiff,Nat.reduceMul,Nat.reduceBEq]|refine rd0 rfl ?_)))
  cases hn:pT s
  all_goals
   (repeat (first|simp only [↓QA,QB,Nat.reduceLT,reduceIte,Nat.reduceEqDiff,Nat.reduceAdd,Nat.reduceLeDiff,Nat.reduceMul,Nat.reduceBEq]|refine rd0 rfl ?_))
   simp [fresh,hn,hin]
def aR (a:Int):Nat→List Int
 |0=>[]
 |n+1=>a::aR (a+1) n
theorem iV:∀ n a,(aR a n).length=n
 |0,_=>rfl
 |n+1,a=>by simp [aR,iV n]
theorem dM:∀ n a x,x∈aR a n↔a≤x∧x<a+n
 |0,a,x=>by simp [aR]
 |n+1,a,x=>by simp [aR,dM n];omega
def pK (i:Nat) (c:List Int):Int:=if 0<i then (c[i-1]?).getD 0+1 else 0
def u9 (below i:Nat) (c:List Int):List (List Int):=(aR (pK i c) ((below:Int)-pK i c).toNat).map fun n=>c++[n]
def bD (below:Nat):Nat→List (List Int)
 |0=>[[]]
 |i+1=>(bD below i).flatMap (u9 below i)
theorem iX (below:Nat):∀ i c,c∈bD below i→c.length=i∧∀ x∈c,0≤x∧x<below
 |0,c,h=>by simp [bD] at h;subst h;simp
 |i+1,c,h=>by
  simp only [bD,List.mem_flatMap] at h
  obtain ⟨d,h1,h2⟩:=h
  obtain ⟨q1,q2⟩:=iX below i d h1
  simp only [u9,List.mem_map,dM] at h2
  obtain ⟨n,h3,rfl⟩:=h2
  refine ⟨by simp [q1],fun x hx=>?_⟩
  rcases List.mem_append.1 hx with hx|hx
  ·exact q2 x hx
  ·simp at hx
   subst hx
   have:0≤pK i d:=by
    unfold pK
    split
    ·rename_i hi
     have hlt:i-1<d.length:=by omega
     have:=q2 d[i-1] (List.getElem_mem hlt)
     simp [hlt]
     omega
    ·omega
   omega
theorem uL {α β:Type} (f:α→List β) (b:Nat):∀ l:List α,(∀ x∈l,(f x).length≤b)→(l.flatMap f).length≤l.length*b
 |[],_=>by simp
 |x::l,h=>by
  have h1:=h x (by simp)
  have h2:=uL f b l fun y hy=>h y (List.mem_cons_of_mem _ hy)
  simp only [List.flatMap_cons,List.length_append,List.length_cons,Nat.add_mul]
  omega
theorem fR (l:List (List Int)):aL 1 (l.map ints)=true:=rJ 1 ints l fun x=>Q4 _ _ _
theorem gK (l:List Int):aL 1 (l.map (.int .i64))=true:=rJ 1 _ l fun x=>O1 _ _
theorem lN {a:Int} {below:Nat} (h:a<below):aR a ((below:Int)-a).toNat=a::aR (a+1) ((below:Int)-(a+1)).toNat:=by
 rw [show ((below:Int)-a).toNat=((below:Int)-(a+1)).toNat+1 by omega];rfl
theorem jY {a:Int} {below:Nat} (h:¬a<below):aR a ((below:Int)-a).toNat=[]:=by
 rw [show ((below:Int)-a).toNat=0 by omega];rfl
theorem vJ:∀ {a b c:List Int},less a b=true→less b c=true→less a c=true
 |a,b,[],h1,h2=>by cases b<;>simp [less] at h2
 |a,[],c::cs,h1,h2=>by cases a<;>simp [less] at h1
 |[],b::bs,c::cs,h1,h2=>by simp [less]
 |a::az,b::bs,c::cs,h1,h2=>by
  simp only [less] at *
  by_cases hab:a=b
  ·subst hab
   by_cases hac:a=c
   ·subst hac
    simp only [if_true] at *
    exact vJ h1 h2
   ·simp only [hac,if_false,if_true] at *
    exact h2
  ·by_cases hbc:b=c
   ·subst hbc
    simp only [hab,if_false,if_true,decide_eq_true_eq] at *
    exact h1
   ·simp only [hab,hbc,if_false,decide_eq_true_eq] at *
    rw [if_neg (by omega)]
    simp;omega
theorem yJ (a:List Int):gV a a=false:=by simp [gV,qG]
theorem y3 {a b c:List Int} (h1:gV a b=true) (h2:gV b c=true):gV a c=true:=by
 simp only [gV] at *
 by_cases e1:a.length=b.length<;>by_cases e2:b.length=c.length
 ·simp only [e1,e2,if_true] at *;exact vJ h1 h2
 ·simp only [e1,e2,if_true,if_false,decide_eq_true_eq] at *;exact h2
 ·rw [if_neg e1] at h1;rw [if_neg (by omega)];simp at h1 ⊢;omega
 ·simp only [e1,e2,if_false,decide_eq_true_eq] at *
  rw [if_neg (by omega)];simp;omega
theorem DN {a b:List Int} (h1:gV a b=false) (h2:gV b a=false):a=b:=by
 simp only [gV] at *
 by_cases e1:a.length=b.length
 ·simp only [e1,if_true] at *
  exact A2 a b h1 h2
 ·rw [if_neg e1] at h1;rw [if_neg (Ne.symm e1)] at h2
  simp at h1 h2;omega
theorem FD {a b c:List Int} (h1:gV b a=false) (h2:gV c b=false):gV c a=false:=by
 rw [Bool.eq_false_iff]
 intro h
 by_cases hab:gV a b=true
 ·rw [y3 h hab] at h2;cases h2
 ·have:=DN (by simpa using hab) h1
  subst this
  rw [h] at h2;cases h2
def lst (n s:Nat):List Int:=(aR 0 n).filter fun i=>decide (s/2^i.toNat%2=1)
theorem aCZ:∀ n:Fin 7,∀ s:Fin 64,s.val<2^n.val→lst n s∈bD n (lst n s).length:=by decide +kernel
theorem PB:∀ n m:Fin 7,∀ c∈bD n m,∃ s:Fin 64,s.val<2^n.val∧lst n s=c:=by decide +kernel
theorem BW:∀ n m:Fin 7,(bD n m).Pairwise fun a b=>less a b=true:=by decide +kernel
theorem zG:∀ n:Fin 7,(bD n n).length=1:=by decide +kernel
theorem K0 (n s:Nat):(lst n s).length≤n:=by
 have:=List.length_filter_le (fun i:Int=>decide (s/2^i.toNat%2=1)) (aR 0 n)
 rw [iV] at this
 exact this
def dW (f:List Int→Bool) (n:Nat):Nat→Nat→Option (List Int)
 |0,_=>none
 |k+1,m=>match (bD n m).find? f with
  |some l=>some l
  |none=>dW f n k (m+1)
theorem F9:∀ n:Fin 7,∀ c∈bD n n,∀ j:Fin 7,j.val<n.val→c.contains ((j.val:Nat):Int)=true:=by decide +kernel
def j7 (f:List Int→Bool) (o:Option (List Int)) (l:List Int):Option (List Int):=match o with
 |none=>if f l=true then some l else none
 |some b=>if gV b l=true then some b else if f l=true then some l else some b
def n6 (f:List Int→Bool) (n:Nat):Nat→Nat→Option (List Int)→Option (List Int)
 |0,_,o=>o
 |k+1,s,o=>n6 f n k (s+1) (j7 f o (lst n s))
theorem w6 (f:List Int→Bool) (n:Nat):∀ k s o,(∀ w,o=some w→f w=true∧∃ t,t<s∧w=lst n t∧∀ t',t'<s→f (lst n t')=true→gV (lst n t') w=false)→(o=none→∀ t,t<s→f (lst n t)=false) →
  (∀ w,n6 f n k s o=some w→f w=true∧∃ t,t<s+k∧w=lst n t∧∀ t',t'<s+k→f (lst n t')=true→gV (lst n t') w=false)∧(n6 f n k s o=none→∀ t,t<s+k→f (lst n t)=false)
 |0,s,o,h1,h2=>⟨h1,h2⟩
 |k+1,s,o,h1,h2=>by
  have ih:=w6 f n k (s+1) (j7 f o (lst n s))
  rw [show s+1+k=s+(k+1) by omega] at ih
  simp only [n6]
  have last:∀ (w:List Int) t',t'<s+1→(∀ t'',t''<s→f (lst n t'')=true→gV (lst n t'') w=false)→(f (lst n s)=true→gV (lst n s) w=false)→f (lst n t')=true→gV (lst n t') w=false:=by
   intro w t' ht h3 h4 hs
   by_cases he:t'=s
   ·subst he;exact h4 hs
   ·exact h3 t' (by omega) hs
  refine ih (fun w hw=>?_) fun hn t ht=>?_
  ·cases o with
   |none =>
    simp only [j7] at hw
    split at hw
    ·rename_i hs
     simp only [Option.some.injEq] at hw
     subst hw
     refine ⟨hs,s,by omega,rfl,fun t' ht hst=>last _ t' ht (fun t'' h4 h5=>by rw [h2 rfl t'' h4] at h5;cases h5) (fun _=>yJ _) hst⟩
    ·cases hw
   |some b =>
    obtain ⟨q1,t,q2,q3,q4⟩:=h1 b rfl
    simp only [j7] at hw
    split at hw
    ·rename_i hf
     simp only [Option.some.injEq] at hw
     subst hw
     refine ⟨q1,t,by omega,q3,fun t' ht hst=>last _ t' ht q4 (fun _=>?_) hst⟩
     rw [Bool.eq_false_iff]
     intro h5
     have:=y3 hf h5
     rw [yJ] at this;cases this
    ·rename_i hf
     split at hw
     ·rename_i hs
      simp only [Option.some.injEq] at hw
      subst hw
      refine ⟨hs,s,by omega,rfl,fun t' ht hst=>last _ t' ht (fun t'' h4 h5=>?_) (fun _=>yJ _) hst⟩
      exact FD (by simpa using hf) (q4 t'' h4 h5)
     ·rename_i hs
      simp only [Option.some.injEq] at hw
      subst hw
      exact ⟨q1,t,by omega,q3,fun t' ht hst=>last _ t' ht q4 (fun h5=>absurd h5 hs) hst⟩
  ·cases o with
   |none =>
    simp only [j7] at hn
    split at hn
    ·cases hn
    ·rename_i hs
     by_cases he:t=s
     ·subst he;simpa using hs
     ·exact h2 rfl t (by omega)
   |some b =>
    simp only [j7] at hn
    split at hn
    ·cases hn
    ·split at hn<;>cases hn
theorem rN:∀ {n i:Nat} {c:List Int},c∈bD n i→i≤n:=by
 intro n i
 cases i with
 |zero=>intros;omega
 |succ i =>
  intro c hc
  simp only [bD,List.mem_flatMap,u9,List.mem_map,dM] at hc
  obtain ⟨d,hd,x,hx,rfl⟩:=hc
  have key:∀ j (d:List Int),d∈bD n j→(j:Int)≤pK j d:=by
   intro j
   induction j with
   |zero=>intro d _;simp [pK]
   |succ j ih =>
    intro d hd
    simp only [bD,List.mem_flatMap,u9,List.mem_map,dM] at hd
    obtain ⟨d',hd',y,hy,rfl⟩:=hd
    have h5:=ih d' hd'
    have h6:=(iX n j d' hd').1
    simp only [pK,Nat.succ_pos,if_true,Nat.add_sub_cancel]
    rw [List.getElem?_append_right (by omega),h6,Nat.sub_self]
    simp only [List.getElem?_cons_zero,Option.getD_some]
    omega
  have:=key i d hd
  omega
theorem oF (f:List Int→Bool) (n:Nat) (hN:n≤6):∀ k m,(∀ m',m'<m→∀ c∈bD n m',f c=false) →
  (∀ l,dW f n k m=some l→l∈bD n l.length∧f l=true∧∀ m',∀ c∈bD n m',f c=true→gV c l=false)∧(dW f n k m=none→∀ m',m'<m+k→∀ c∈bD n m',f c=false)
 |0,m,hlow=>⟨fun l h=>by simp [dW] at h,fun _ m' h c hc=>hlow m' (by omega) c hc⟩
 |k+1,m,hlow=>by
  simp only [dW]
  cases hf:(bD n m).find? f with
  |none =>
   simp only
   have ih:=oF f n hN k (m+1) fun m' hm' c hc=>by
    by_cases he:m'=m
    ·subst he
     rw [List.find?_eq_none] at hf
     simpa using hf c hc
    ·exact hlow m' (by omega) c hc
   exact ⟨ih.1,fun h m' hm'=>ih.2 h m' (by omega)⟩
  |some l =>
   simp only
   refine ⟨fun l' h=>?_,fun h=>by cases h⟩
   cases h
   have hmem:=List.mem_of_find?_eq_some hf
   have hs:=List.find?_some hf
   have hlen:=(iX _ _ _ hmem).1
   rw [hlen]
   refine ⟨hmem,hs,fun m' c hc hsc=>?_⟩
   have hcl:=(iX _ _ _ hc).1
   by_cases h1:m'<m
   ·rw [hlow m' h1 c hc] at hsc;cases hsc
   ·by_cases he:m'=m
    ·subst he
     rw [Bool.eq_false_iff]
     intro hlt
     simp only [gV,hcl,hlen,if_true] at hlt
     obtain ⟨pre,post,e1,e2⟩:=(List.find?_eq_some_iff_append.1 hf).2
     have hmn:=rN hmem
     have hpw:=BW ⟨n,by omega⟩ ⟨m',by omega⟩
     simp only at hpw
     rw [e1] at hc hpw
     rcases List.mem_append.1 hc with hc|hc
     ·have:=e2 c hc
      rw [hsc] at this;cases this
     ·rcases List.mem_cons.1 hc with rfl|hc
      ·rw [qG] at hlt;cases hlt
      ·have:=(List.pairwise_append.1 hpw).2.1
       have:=(List.pairwise_cons.1 this).1 c hc
       have h3:=vJ hlt this
       rw [qG] at h3;cases h3
    ·simp only [gV];rw [if_neg (by omega)];simp;omega
theorem aC4 (f:List Int→Bool) (n:Nat) (hN:n≤6):n6 f n (2^n) 0 none=dW f n (n+1) 0:=by
 have hp:2^n≤2^6:=Nat.pow_le_pow_right (by omega) hN
 obtain ⟨w1,w2⟩:=oF f n hN (n+1) 0 (fun m' h=>by omega)
 obtain ⟨s1,s2⟩:=w6 f n (2^n) 0 none (fun w h=>by cases h) (fun _ t h=>by omega)
 rw [Nat.zero_add] at s1 s2
 cases hf:n6 f n (2^n) 0 none with
 |none =>
  cases hg:dW f n (n+1) 0 with
  |none=>rfl
  |some l =>
   obtain ⟨a,b,c⟩:=w1 l hg
   have hle:=rN a
   obtain ⟨t,ht,hlt⟩:=PB ⟨n,by omega⟩ ⟨l.length,by omega⟩ l a
   have:=s2 hf t.val ht
   rw [show lst n t.val=l from hlt,b] at this;cases this
 |some w =>
  obtain ⟨q1,t',q2,q3,q4⟩:=s1 w hf
  have hin:=aCZ ⟨n,by omega⟩ ⟨t',by omega⟩ q2
  simp only at hin
  rw [←q3] at hin
  have hle:w.length≤n:=by rw [q3];exact K0 _ _
  cases hg:dW f n (n+1) 0 with
  |none =>
   have:=w2 hg w.length (by omega) w hin
   rw [q1] at this;cases this
  |some l =>
   obtain ⟨a,b,c⟩:=w1 l hg
   have hll:=rN a
   obtain ⟨t,ht,hlt⟩:=PB ⟨n,by omega⟩ ⟨l.length,by omega⟩ l a
   have a1:=q4 t.val ht (by rw [show lst n t.val=l from hlt];exact b)
   rw [show lst n t.val=l from hlt] at a1
   have a2:=c w.length w hin q1
   rw [DN a1 a2]
open Go
variable {P:Program}
def oI (P:Program) (t:TypeId) (ts:List TypeId):Prop:=∃ fs,P.underlying t=some (.struct fs)∧fs.toList.map Field.type=ts
theorem A8 {n:Nat} {t:TypeId} {ts:List TypeId} {cs:List AV} (hu:oI P t ts) (h:Typ P (n+1) t cs):mkV P t cs = .agg cs∧L8 P n ts cs:=by
 obtain ⟨fs,h1,h2⟩:=hu
 have:=JE h1 h
 rw [h2] at this
 exact ⟨JZ h1,this⟩
theorem PU {t:TypeId} {a:AV} {d:TypeDesc} (hu:P.underlying t=some d) (hd:∀ fs,d≠.struct fs:=by intro fs h;cases h) (hd2:∀ k e,d≠.array k e:=by intro k e h;cases h):mkV P t [a]=a:=VQ (by rw [hu];intro fs e;cases e;exact hd _ rfl) (by rw [hu];intro k e h;cases h;exact hd2 _ _ rfl)
theorem VV {n:Nat} {i t:TypeId} {cs:List AV} (hi:P.underlying i=some (.int .i64)) (hs:oI P t [i,i]) (h:Typ P (n+2) t cs):∃ s:Span,cs=[.int .i64 s.lo,.int .i64 s.hi]:=by
 obtain ⟨_,a,b,rfl,h1,c,d,rfl,h2,rfl⟩:=A8 hs h
 obtain ⟨x,rfl,_⟩:=kQ hi h1
 obtain ⟨y,rfl,_⟩:=kQ hi h2
 exact ⟨⟨x,y⟩,rfl⟩
theorem TG {n:Nat} {t:TypeId} {cs:List AV} (hi:P.underlying t=some (.int .i64)) (h:Typ P (n+1) t cs):∃ x:Int,mkV P t cs = .int .i64 x∧True:=by
 obtain ⟨x,rfl,_⟩:=kQ hi h
 exact ⟨x,PU hi,trivial⟩
theorem WU {n:Nat} {t i:TypeId} {cs:List AV} (hi:P.underlying i=some (.int .i64)) (hs:P.underlying t=some (.slice i)) (h:Typ P (n+2) t cs):∃ l:List Int,mkV P t cs=Go.Am.ints l∧cs=[Go.Am.ints l]∧l.length<9223372036854775808:=by
 obtain ⟨l,rfl,⟨h1,_⟩,_⟩:=uA (f:=fun x:Int=>AV.int .i64 x) hs h fun y hy=>TG hi hy
 exact ⟨l,PU hs,rfl,h1⟩
end Go.Am.Room
namespace Go.Am.Room
def cF {α:Type} (f:Nat→α→Int):List α→Nat→Option (Nat×Int)
 |[],_=>none
 |x::xs,i=>if f i x=0 then cF f xs (i+1) else some (i,f i x)
theorem jF {α:Type} {f:Nat→α→Int} {l:List α} {k:Nat} (h:k<l.length):cF f (l.drop k) k=if f k l[k]=0 then cF f (l.drop (k+1)) (k+1) else some (k,f k l[k]):=by
 rw [List.drop_eq_getElem_cons h];rfl
theorem j3 {α:Type} {f:Nat→α→Int} {l:List α} {k:Nat} (h:k=l.length):cF f (l.drop k) k=none:=by
 rw [h,List.drop_length];rfl
def eQ:List Int→Span
 |[]=>⟨0,0⟩
 |x::xs=>xs.foldl kF ⟨x,x⟩
def eC (yes all:Nat):Int:=if yes=all then 1 else if yes=0 then 2 else 0
theorem eS {n lo hi:Int}:inR n lo hi=true↔lo≤n∧n≤hi:=by simp [inR]
theorem DD {s:Span} {lo hi:Int} (h:o6 s lo hi=0):lo≤s.lo∧s.lo≤s.hi∧s.hi≤hi:=by
 unfold o6 at h
 split at h
 ·omega
 ·rename_i h1
  split at h
  ·omega
  ·simp [inR] at h1;omega
theorem W9 {s:Span} {lo hi:Int} (h:lo≤s.lo∧s.lo≤s.hi∧s.hi≤hi):o6 s lo hi=0:=by
 unfold o6
 rw [eS.2 ⟨h.1,by omega⟩,eS.2 ⟨by omega,h.2.2⟩]
 simp
 omega
theorem lL {α:Type} {f:Nat→α→Int}:∀ {l:List α} {i:Nat},cF f l i=none→∀ k (h:k<l.length),f (i+k) l[k]=0
 |[],_,_,k,h=>by simp at h
 |x::xs,i,h,k,hk=>by
  simp only [cF] at h
  split at h
  ·rename_i h0
   cases k with
   |zero=>exact h0
   |succ k =>
    have:=lL h k (by simpa using hk)
    simpa [Nat.add_assoc,Nat.add_comm 1 k] using this
  ·cases h
theorem jU {α:Type} {f:Nat→α→Int}:∀ {l:List α} {i j:Nat} {e:Int},cF f l i=some (j,e)→e≠0
 |[],_,_,_,h=>by cases h
 |x::xs,i,j,e,h=>by
  simp only [cF] at h
  split at h
  ·exact jU h
  ·rename_i hn
   simp at h
   rw [←h.2]
   exact hn
theorem xK:∀ (n:Nat) (a:Int),aR a (n+1)=aR a n++[a+n]
 |0,a=>by simp [aR]
 |n+1,a=>by
  rw [aR,xK n (a+1)]
  simp only [aR,List.cons_append]
  congr 3
  omega
structure Rail where
 a:Int
 b:Int
 mins:Span
 shut:Int
structure Tram where
 name:ByteArray
 frm:Int
 leaves:Int
 due:Int
 path:List Int
structure Seen where
 tram:Int
 minute:Int
structure Net where
 stations:Int
 rails:List Rail
 trams:List Tram
 seen:List Seen
def eH (r:Rail):AV:=.agg [.int .i64 r.a,.int .i64 r.b,.int .i64 r.mins.lo,.int .i64 r.mins.hi,.int .i64 r.shut]
theorem aZ (r:Rail):eH r = .agg [.int .i64 r.a,.int .i64 r.b,.int .i64 r.mins.lo,.int .i64 r.mins.hi,.int .i64 r.shut]:=by simp only [eH]
theorem uD (r:Rail):lX (eH r):=jQ (bQ (dJ _ _) (bQ (dJ _ _) (bQ (dJ _ _) (bQ (dJ _ _) (bQ (dJ _ _) fC)))))
instance (r:Rail):Dat (eH r):=⟨uD r⟩
instance (l:List Rail):Dats (l.map eH):=⟨cV uD l⟩
theorem bI (σ:St) (m d:Nat) (l:List Rail):dG σ m d (l.map eH)=some (l.map eH):=jX (cV uD l) σ m d
def dC (t:Tram):AV:=.agg [.str t.name,.int .i64 t.frm,.int .i64 t.leaves,.int .i64 t.due,ints t.path]
theorem aX (t:Tram):dC t = .agg [.str t.name,.int .i64 t.frm,.int .i64 t.leaves,.int .i64 t.due,ints t.path]:=by simp only [dC]
theorem t9 (t:Tram):lX (dC t):=jQ (bQ (v4 _) (bQ (dJ _ _) (bQ (dJ _ _) (bQ (dJ _ _) (bQ (j8 _) fC)))))
instance (t:Tram):Dat (dC t):=⟨t9 t⟩
instance (l:List Tram):Dats (l.map dC):=⟨cV t9 l⟩
theorem bF (σ:St) (m d:Nat) (l:List Tram):dG σ m d (l.map dC)=some (l.map dC):=jX (cV t9 l) σ m d
def eU (x:Seen):AV:=.agg [.int .i64 x.tram,.int .i64 x.minute]
theorem aY (x:Seen):eU x = .agg [.int .i64 x.tram,.int .i64 x.minute]:=by simp only [eU]
theorem t8 (x:Seen):lX (eU x):=jQ (bQ (dJ _ _) (bQ (dJ _ _) fC))
instance (x:Seen):Dat (eU x):=⟨t8 x⟩
instance (l:List Seen):Dats (l.map eU):=⟨cV t8 l⟩
theorem bE (σ:St) (m d:Nat) (l:List Seen):dG σ m d (l.map eU)=some (l.map eU):=jX (cV t8 l) σ m d
def aB (v:Net):List AV:=[.int .i64 v.stations,.lit (v.rails.map eH) false none,.lit (v.trams.map dC) false none,.lit (v.seen.map eU) false none]
theorem aK (v:Net):aB v=[.int .i64 v.stations,.lit (v.rails.map eH) false none,.lit (v.trams.map dC) false none,.lit (v.seen.map eU) false none]:=by simp only [aB]
def bM (v:Net):AV:=.agg (aB v)
theorem bK (v:Net):bM v = .agg (aB v):=by simp only [bM]
theorem o4 (v:Net):lX (bM v):=jQ (bQ (dJ _ _) (bQ (jE uD _) (bQ (jE t9 _) (bQ (jE t8 _) fC))))
instance (v:Net):Dat (bM v):=⟨o4 v⟩
structure Fits (v:Net):Prop where
 rails:v.rails.length<9223372036854775808
 trams:v.trams.length<9223372036854775808
 seen:v.seen.length<9223372036854775808
 names:∀ t∈v.trams,t.name.size<9223372036854775808
 paths:∀ t∈v.trams,t.path.length<9223372036854775808
def nC (v:Net) (s:Int):Bool:=inR s 0 (v.stations-1)
def dD (v:Net) (r:Rail):Int :=
 if nC v r.a=false∨nC v r.b=false then 4 else if r.a=r.b then 2
 else if o6 r.mins 1 20=7∨inR r.shut 0 2=false then 7 else if o6 r.mins 1 20≠0∨r.mins.lo+1<r.mins.hi then 2 else 0
def dE (r:Rail) (s:Int):Int:=if s=r.a then r.b else if s=r.b then r.a else -1
def eF (v:Net) (r:Int):Rail:=(v.rails[r.toNat]?).getD ⟨0,0,⟨0,0⟩,0⟩
def kN (v:Net):List Int→Int→List Int→Bool
 |[],s,_=>s==0
 |r::l,s,met =>
  if dE (eF v r) s<0∨met.contains (dE (eF v r) s)=true∨(dE (eF v r) s=0∧l≠[]) then false
  else kN v l (dE (eF v r) s) (met++[dE (eF v r) s])
def fP (v:Net) (s:Int) (path:List Int):Bool:=if inR path.length 1 4=false∨s=0 then false else kN v path s [s]
def gP (v:Net) (t:Tram):Int :=
 if nC v t.frm=false then 4 else if inR t.leaves 0 60=false∨inR t.due 0 400=false then 7
 else if inR t.path.length 1 4=false then 3 else if t.path.all (fun r=>inR r 0 ((v.rails.length:Int)-1))=false then 4
 else if fP v t.frm t.path=false then 2 else 0
def kA (v:Net) (i:Nat) (t:Tram):Int:=if fresh t.name ((v.trams.take i).map Tram.name)=0 then gP v t else fresh t.name ((v.trams.take i).map Tram.name)
def kP (v:Net) (_:Nat) (x:Seen):Int:=if inR x.tram 0 ((v.trams.length:Int)-1)=false then 4 else if inR x.minute (-1) 400=false then 7 else 0
def pN (v:Net):Int×Int×Int:=if 3<v.seen.length then (4,0,3) else match cF (kP v) v.seen 0 with|some (i,e)=>(4,i,e)|none=>(0,0,0)
def pY (v:Net):Int×Int×Int:=if 3<v.trams.length then (3,0,3) else match cF (kA v) v.trams 0 with|some (i,e)=>(3,i,e)|none=>pN v
def pQ (v:Net):Int×Int×Int:=if 5<v.rails.length then (2,0,3) else match cF (fun _ r=>dD v r) v.rails 0 with|some (i,e)=>(2,i,e)|none=>pY v
def bY (v:Net):Int×Int×Int:=if inR v.stations 2 5=false then (1,0,7) else pQ v
def sR (v:Net) (but l:List Int) (r:Int):Bool:=!decide ((eF v r).shut=1)&&!but.contains r&&!l.contains r
def sK (v:Net) (but l:List Int):List (List Int):=((aR 0 v.rails.length).filter (sR v but l)).map fun r=>l++[r]
def gD (v:Net) (but:List Int):Nat→List (List Int)
 |0=>[[]]
 |k+1=>(gD v but k).flatMap (sK v but)
def fD (v:Net) (s:Int) (but:List Int):Nat→List (List Int)
 |0=>[]
 |k+1=>fD v s but k++(gD v but (k+1)).filter (fP v s)
def dQ (v:Net) (s:Int) (but:List Int):List (List Int):=fD v s but 4
def gI (v:Net) (s:Int):List (List Int)×Int:=if (bY v).2.2=0 then (if nC v s=true then (dQ v s [],0) else ([],4)) else ([],(bY v).2.2)
structure State where
 closed:List Bool
 mins:List Int
def BP (s:Span):List Int:=aR s.lo (s.hi+1-s.lo).toNat
def uW (shut:Int) (c:Bool):Bool:=!(c&&decide (shut=0)||!c&&decide (shut=1))
def zW (r:Rail) (s:State):List State:=(BP r.mins).flatMap fun m=>([false,true].filter (uW r.shut)).map fun c=>⟨s.closed++[c],s.mins++[m]⟩
def nW (rs:List Rail):Nat→List State
 |0=>[⟨[],[]⟩]
 |k+1=>match rs[k]? with|some r=>(nW rs k).flatMap (zW r)|none=>nW rs k
def kK (v:Net):List State:=nW v.rails v.rails.length
def eff (s:State) (r:Int):Int:=if (s.closed[r.toNat]?).getD false=true then 0 else (s.mins[r.toNat]?).getD 0
structure Stay where
 tram:Int
 rail:Int
 frm:Int
 til:Int
def iW (rail ready m:Int) (x:Stay):Bool:=decide (x.rail=rail)&&decide (x.frm<ready+m)&&decide (ready<x.til)
def vN (ss:List Stay) (rail m:Int):Nat→Int→Int
 |0,s=>s
 |k+1,s=>if ss.any (iW rail s m)=true then vN ss rail m k (s+1) else s
def kH (ss:List Stay) (rail ready m:Int):Int:=vN ss rail m 1000 ready
def nQ (m:Int→Int) (i:Int):List Int→Int→List Stay→List Stay×Int
 |[],at_,ss=>(ss,at_)
 |r::l,at_,ss=>nQ m i l (kH ss r at_ (m r)+m r) (ss++[⟨i,r,kH ss r at_ (m r),kH ss r at_ (m r)+m r⟩])
def nM (m:Int→Int) (i:Int) (leaves:Int) (path:List Int) (ss:List Stay):List Stay×Int :=
 if path.any (fun r=>m r==0)=true then (ss,-1) else nQ m i path leaves ss
def oU (v:Net) (i:Nat):Int:=match v.trams[i]? with|some t=>t.leaves|none=>0
def eO (ps:List (List Int)) (i:Nat):List Int:=(ps[i]?).getD []
def eL (v:Net) (m:Int→Int) (ps:List (List Int)):Nat→List Stay×List Int
 |0=>([],[])
 |k+1=>((nM m k (oU v k) (eO ps k) (eL v m ps k).1).1,(eL v m ps k).2++[(nM m k (oU v k) (eO ps k) (eL v m ps k).1).2])
def iE (v:Net) (ps:List (List Int)) (m:Int→Int):List Int:=(eL v m ps v.trams.length).2
def jM (v:Net):List (List Int):=v.trams.map Tram.path
def jL (v:Net) (s:State):List Int:=iE v (jM v) (eff s)
def fV (cs:List Int) (t:Int):Int:=(cs[t.toNat]?).getD 0
def lT (v:Net) (but cs:List Int):Bool:=(List.range v.seen.length).all fun k=>match v.seen[k]? with|some x=>but.contains (k:Int)||fV cs x.tram==x.minute|none=>true
def bH (v:Net) (but:List Int):List State:=(kK v).filter fun s=>lT v but (jL v s)
def mG (v:Net) (but:List Int):Bool:=!(bH v but).isEmpty
def cC (v:Net) (e:Int):Int:=if e=0 then (if (bH v []).isEmpty then 8 else 0) else e
def dB (v:Net):Int:=cC v (bY v).2.2
def lY (v:Net) (t:Int):Int:=cC v (if (bY v).2.2=0 then (if inR t 0 ((v.trams.length:Int)-1) then 0 else 4) else (bY v).2.2)
def sE (v:Net) (l:List State) (t:Nat):List Int:=l.map fun s=>fV (jL v s) t
def dR (ats:List Int):List Int:=ats.filter fun c=>!decide (c = -1)
def mK (ats:List Int):Span×Int:=(eQ (dR ats),eC (dR ats).length ats.length)
def jP (v:Net) (t:Int):Span×Int×Int:=if lY v t=0 then ((mK (sE v (bH v []) t.toNat)).1,(mK (sE v (bH v []) t.toNat)).2,0) else (⟨0,0⟩,0,lY v t)
def w7 (v:Net) (t:Nat):Int:=match v.trams[t]? with|some x=>x.due|none=>0
def kU (v:Net) (t:Nat) (c:Int):Bool:=!decide (c = -1)&&decide (c≤w7 v t)
def nK (v:Net) (t:Int) (s:State):Bool:=!kU v t.toNat (fV (jL v s) t)
def qJ (v:Net) (l:List State) (t:Int):Bool:=l.all (nK v t)
def rL (v:Net) (l:List State) (t:Int):Bool:=l.any (nK v t)
def AP (v:Net) (l:List State):List Int:=(aR 0 v.trams.length).filter (qJ v l)
def vZ (v:Net) (l:List State):List Int:=(aR 0 v.trams.length).filter (rL v l)
def fU (v:Net):List Int×List Int×Int:=if dB v=0 then (AP v (bH v []),vZ v (bH v []),0) else ([],[],dB v)
def iF (v:Net):List Int→Int→Int
 |[],b=>b
 |t::l,b=>iF v l (if b<0∨w7 v t.toNat<w7 v b.toNat then t else b)
def jJ (v:Net):Int×Int:=if dB v=0 then (if vZ v (bH v [])=[] then (0,9) else (iF v (vZ v (bH v [])) (-1),0)) else (0,dB v)
def A5 (v:Net) (ps:List (List Int)) (s:State):Bool:=(List.range v.trams.length).all fun t=>kU v t (fV (iE v ps (eff s)) t)
def zJ (v:Net) (l:List State) (ps:List (List Int)):Bool:=l.all (A5 v ps)
def gT (v:Net) (ps:List (List Int)):List Int:=(aR 0 ps.length).filter fun t=>!decide (eO ps t.toNat=eO (jM v) t.toNat)
def gO (v:Net) (t:Nat):Int:=match v.trams[t]? with|some x=>x.frm|none=>0
def gR (v:Net):Nat→List (List (List Int))
 |0=>[[]]
 |k+1=>(gR v k).flatMap fun p=>(dQ v (gO v k) []).map fun w=>p++[w]
def lU (v:Net):List (List (List Int)):=gR v v.trams.length
def rM (v:Net) (l:List State) (many:Nat) (p:List (List Int)):Bool:=(gT v p).length==many&&zJ v l p
def jB (v:Net) (l:List State):Nat→Nat→Option (List (List Int))
 |0,_=>none
 |k+1,m=>match (lU v).find? (rM v l m) with|some p=>some p|none=>jB v l k (m+1)
def l0 (v:Net) (l:List State):Option (List (List Int)):=jB v l (v.trams.length+1) 0
def fO (v:Net):List (List Int)×List Int×Int:=if dB v=0 then (match l0 v (bH v []) with|some p=>(p,gT v p,0)|none=>([],[],9)) else ([],[],dB v)
def fL (r:Int) (s:State):Bool:=(s.closed[r.toNat]?).getD false
def EW (v:Net) (l:List State):List Int:=(aR 0 v.rails.length).filter fun r=>l.all (fL r)
def OD (v:Net) (l:List State):List Int:=(aR 0 v.rails.length).filter fun r=>l.any (fL r)
def gX (v:Net):List Int×List Int×Int:=if dB v=0 then (EW v (bH v []),OD v (bH v []),0) else ([],[],dB v)
def tF (v:Net) (r:Int):Int:=(((List.range v.trams.length).filter fun t=>(dQ v (gO v t) [r]).isEmpty).length:Int)
def oZ (v:Net):List Int→Int×Int→Int×Int
 |[],b=>b
 |r::l,b=>oZ v l (if (eF v r).shut=1 then b else if b.1<0∨b.2<tF v r then (r,tF v r) else b)
def rE (v:Net):Int×Int:=oZ v (aR 0 v.rails.length) (-1,0)
def lK (v:Net):Int×Int×Int:=if (bY v).2.2=0 then (if (rE v).1<0 then (0,0,9) else ((rE v).1,(rE v).2,0)) else (0,0,(bY v).2.2)
def nF (v:Net):List Int:=(dW (mG v) v.seen.length v.seen.length 0).getD (((bD v.seen.length v.seen.length)[0]?).getD [])
def jW (v:Net):List Int×Int:=if (bY v).2.2=0 then (nF v,0) else ([],(bY v).2.2)
def PE:ByteArray:=⟨#[114,101,100]⟩
def J0:ByteArray:=⟨#[98,108,117,101]⟩
def exN (o:Bool) (l:List Seen):Net:=⟨4,[⟨1,0,⟨5,6⟩,if o then 2 else 0⟩,⟨2,1,⟨4,4⟩,0⟩,⟨2,0,⟨12,12⟩,if o then 0 else 2⟩,⟨3,2,⟨3,3⟩,0⟩],[⟨PE,2,0,12,[1,0]⟩,⟨J0,3,0,24,[3,1,0]⟩],l⟩
def exH:Net:=exN false []
def exK:Net:=exN true []
def exS:Net:=exN true [⟨0,-1⟩,⟨1,15⟩]
def exT:Net:=exN true [⟨0,-1⟩]
theorem x1:gI exH 3=([[3,2],[3,1,0]],0):=by decide +kernel
theorem x2:jP exH 1=(⟨14,16⟩,1,0):=by decide +kernel
theorem x3:(jP exK 1).2=(0,0):=by decide +kernel
theorem x4:(jP exT 0).2=(2,0):=by decide +kernel
theorem x5:fU exK=([],[0,1],0):=by decide +kernel
theorem x6:jJ exK=(0,0):=by decide +kernel
theorem x7:jJ exH=(0,9):=by decide +kernel
theorem x8:fO exK=([[2],[3,2]],[0,1],0):=by decide +kernel
theorem x9:gX exH=([],[2],0):=by decide +kernel
theorem x10:lK exH=(3,1,0):=by decide +kernel
theorem x11:jW exS=([1],0):=by decide +kernel
theorem x12:jJ exS=(0,8):=by decide +kernel
open Go
variable {P:Program}
structure Tys (P:Program):Prop where
 int:P.underlying 3=some (.int .i64)
 u8:P.underlying 5=some (.int .u8)
 str:P.underlying 9=some .string
 rails:P.underlying 22=some (.slice 87)
 trams:P.underlying 23=some (.slice 65)
 seens:P.underlying 24=some (.slice 53)
 net:oI P 26 [3,22,23,24]
 span:oI P 37 [3,3]
 ints:P.underlying 40=some (.slice 3)
 seen:oI P 53 [3,3]
 u16:P.underlying 56=some (.int .u16)
 tram:oI P 65 [9,3,3,3,40]
 u8s:P.underlying 74=some (.slice 5)
 rail:oI P 87 [3,3,37,3]
 a2:P.underlying 91=some (.array 2 5)
 seenB:P.bytesOf 53=16
 tramB:P.bytesOf 65=64
theorem U7 {n:Nat} {cs:List AV} (T:Tys P) (h:Typ P (n+3) 87 cs):∃ s:Rail,mkV P 87 cs=eH s∧True:=by
 obtain ⟨e,a1,b1,rfl,h1,a2,b2,rfl,h2,a3,b3,rfl,h3,a4,b4,rfl,h4,rfl⟩:=A8 T.rail h
 obtain ⟨x1,rfl,_⟩:=kQ T.int h1
 obtain ⟨x2,rfl,_⟩:=kQ T.int h2
 obtain ⟨x3,rfl⟩:=VV T.int T.span h3
 obtain ⟨x4,rfl,_⟩:=kQ T.int h4
 exact ⟨⟨x1,x2,x3,x4⟩,e,trivial⟩
theorem TV {n:Nat} {cs:List AV} (T:Tys P) (h:Typ P (n+3) 65 cs):∃ s:Tram,mkV P 65 cs=dC s∧(s.name.size<9223372036854775808∧s.path.length<9223372036854775808):=by
 obtain ⟨e,a1,b1,rfl,h1,a2,b2,rfl,h2,a3,b3,rfl,h3,a4,b4,rfl,h4,a5,b5,rfl,h5,rfl⟩:=A8 T.tram h
 obtain ⟨x1,rfl,hx⟩:=UT T.str h1
 obtain ⟨x2,rfl,_⟩:=kQ T.int h2
 obtain ⟨x3,rfl,_⟩:=kQ T.int h3
 obtain ⟨x4,rfl,_⟩:=kQ T.int h4
 obtain ⟨x5,_,rfl,l5⟩:=WU T.int T.ints h5
 exact ⟨⟨x1,x2,x3,x4,x5⟩,e,by simp only [maxLen] at hx;simp only;omega,l5⟩
theorem VN {n:Nat} {cs:List AV} (T:Tys P) (h:Typ P (n+2) 53 cs):∃ s:Seen,mkV P 53 cs=eU s∧True:=by
 obtain ⟨e,a,b,rfl,h1,c,d,rfl,h2,rfl⟩:=A8 T.seen h
 obtain ⟨x,rfl,_⟩:=kQ T.int h1
 obtain ⟨y,rfl,_⟩:=kQ T.int h2
 exact ⟨⟨x,y⟩,e,trivial⟩
theorem VR {n:Nat} {cs:List AV} (T:Tys P) (h:Typ P (n+5) 26 cs):∃ s:Net,mkV P 26 cs=bM s∧Fits s∧s.seen.length*16≤140737488351232∧s.trams.length*64≤140737488351232:=by
 obtain ⟨e,a1,b1,rfl,h1,a2,b2,rfl,h2,a3,b3,rfl,h3,a4,b4,rfl,h4,rfl⟩:=A8 T.net h
 obtain ⟨x1,rfl,_⟩:=kQ T.int h1
 obtain ⟨x2,rfl,⟨l2,_⟩,_⟩:=uA T.rails h2 fun y hy=>U7 T hy
 obtain ⟨x3,rfl,⟨l3,b3⟩,q3⟩:=uA T.trams h3 fun y hy=>TV T hy
 obtain ⟨x4,rfl,⟨l4,b4⟩,_⟩:=uA T.seens h4 fun y hy=>VN T hy
 exact ⟨⟨x1,x2,x3,x4⟩,e,⟨l2,l3,l4,fun t ht=>(q3 t ht).1,fun t ht=>(q3 t ht).2⟩,by rw [T.seenB] at b4;simpa [reachBytes] using b4,by rw [T.tramB] at b3;simpa [reachBytes] using b3⟩
theorem FI {n:Nat} {cs:List AV} (T:Tys P) (h:Typ P (n+5) 26 cs):∃ s:Net,mkV P 26 cs=bM s∧Fits s:=by
 obtain ⟨r,h1,h2,_⟩:=VR T h
 exact ⟨r,h1,h2⟩
end Go.Am.Room
namespace Go.Am.Room
structure RailOk (v:Net) (r:Rail):Prop where
 a:0≤r.a∧r.a<v.stations
 b:0≤r.b∧r.b<v.stations
 ne:r.a≠r.b
 mins:1≤r.mins.lo∧r.mins.lo≤r.mins.hi∧r.mins.hi≤20∧r.mins.hi≤r.mins.lo+1
 shut:0≤r.shut∧r.shut≤2
structure Vd (v:Net):Prop where
 st:2≤v.stations∧v.stations≤5
 nra:v.rails.length≤5
 ra:∀ r∈v.rails,RailOk v r
 ntr:v.trams.length≤3
 tr:∀ i (h:i<v.trams.length),kA v i v.trams[i]=0
 nse:v.seen.length≤3
 se:∀ x∈v.seen,(0≤x.tram∧x.tram<v.trams.length)∧-1≤x.minute∧x.minute≤400
theorem oP {v:Net} {s:Int}:nC v s=true↔0≤s∧s<v.stations:=by
 rw [nC,eS];omega
theorem EK {v:Net} {r:Rail}:dD v r=0↔RailOk v r:=by
 constructor
 ·intro h
  unfold dD at h
  split at h
  ·omega
  rename_i h1
  split at h
  ·omega
  rename_i h2
  split at h
  ·omega
  rename_i h3
  split at h
  ·omega
  rename_i h4
  rw [not_or,Bool.not_eq_false,Bool.not_eq_false,oP,oP] at h1
  rw [not_or,Bool.not_eq_false,eS] at h3
  rw [not_or,Decidable.not_not] at h4
  have:=DD h4.1
  exact ⟨h1.1,h1.2,h2,by omega,h3.2⟩
 ·intro h
  have h1:=h.mins
  have e:=W9 (show 1≤r.mins.lo∧r.mins.lo≤r.mins.hi∧r.mins.hi≤20 by omega)
  rw [dD,if_neg (by simp [oP.2 h.a,oP.2 h.b]),if_neg h.ne,if_neg (by simp [e,eS.2 h.shut]),if_neg (by simp [e];omega)]
theorem dI {v:Net} (h:(bY v).2.2=0):Vd v:=by
 unfold bY at h
 split at h
 ·simp at h
 rename_i c1
 unfold pQ at h
 split at h
 ·simp at h
 rename_i c2
 split at h
 ·rename_i i e he;exact absurd h (jU he)
 rename_i f2
 unfold pY at h
 split at h
 ·simp at h
 rename_i c3
 split at h
 ·rename_i i e he;exact absurd h (jU he)
 rename_i f3
 unfold pN at h
 split at h
 ·simp at h
 rename_i c4
 split at h
 ·rename_i i e he;exact absurd h (jU he)
 rename_i f4
 rw [Bool.not_eq_false,eS] at c1
 refine ⟨c1,by omega,?_,by omega,fun i hi=>by simpa using lL f3 i hi,by omega,?_⟩
 ·intro x hx
  obtain ⟨k,hk,rfl⟩:=List.getElem_of_mem hx
  exact EK.1 (lL f2 k hk)
 ·intro x hx
  obtain ⟨k,hk,rfl⟩:=List.getElem_of_mem hx
  have:=lL f4 k hk
  unfold kP at this
  split at this
  ·omega
  rename_i hi
  split at this
  ·omega
  rename_i hj
  rw [Bool.not_eq_false,eS] at hi hj
  omega
structure TramOk (v:Net) (t:Tram):Prop where
 frm:0≤t.frm∧t.frm<v.stations
 leaves:0≤t.leaves∧t.leaves≤60
 due:0≤t.due∧t.due≤400
 len:1≤t.path.length∧t.path.length≤4
 path:∀ r∈t.path,0≤r∧r<v.rails.length
 leads:fP v t.frm t.path=true
theorem RP {v:Net} {t:Tram} (h:gP v t=0):TramOk v t:=by
 unfold gP at h
 split at h
 ·omega
 rename_i h1
 split at h
 ·omega
 rename_i h2
 split at h
 ·omega
 rename_i h3
 split at h
 ·omega
 rename_i h4
 split at h
 ·omega
 rename_i h5
 rw [Bool.not_eq_false] at h1 h3 h4 h5
 rw [not_or,Bool.not_eq_false,Bool.not_eq_false,eS,eS] at h2
 rw [oP] at h1
 rw [eS] at h3
 rw [List.all_eq_true] at h4
 exact ⟨h1,h2.1,h2.2,by omega,fun r hr=>by have:=eS.1 (h4 r hr);omega,h5⟩
theorem wK {v:Net} (h:Vd v) {i:Nat} (hi:i<v.trams.length):TramOk v v.trams[i]:=by
 have:=h.tr i hi
 unfold kA at this
 split at this
 ·exact RP this
 ·rename_i h0;exact absurd this h0
theorem wL {v:Net} {r:Nat} (h:r<v.rails.length):eF v (r:Int)=v.rails[r]:=by simp [eF,h]
def n5 (sz:Nat) (σ:St) (xs:List AV):AV×St:=if xs.length=0 then (.lit [] true none,σ) else (.lit xs false (some σ.length),σ++[.tok sz xs.length true])
theorem zZ {sz b:Nat} {σ:St} {xs:List AV} {f:Bool} {tk:Option Nat} (h:DY sz b [] xs):cO sz b σ (.lit [] true none) (.lit xs f tk)=some ((n5 sz σ xs).1,(n5 sz σ xs).2):=by
 by_cases h0:xs.length=0
 ·have:xs=[]:=List.length_eq_zero_iff.1 h0
  subst this
  rw [K1];simp [n5]
 ·rw [wJ h h0];simp [n5,h0]
theorem uS {sz b:Nat} {σ:St} {xs ys:List AV} {f:Bool} {tk:Option Nat} (h:DY sz b xs ys) (hy:ys.length≠0):cO sz b (n5 sz σ xs).2 (n5 sz σ xs).1 (.lit ys f tk)=some (.lit (xs++ys) false (some σ.length),σ++[.tok sz (xs.length+ys.length) true]):=by
 by_cases h0:xs.length=0
 ·have:xs=[]:=List.length_eq_zero_iff.1 h0
  subst this
  simp only [n5,List.length_nil,if_true]
  rw [wJ h hy]
  simp
 ·simp only [n5,h0,if_false]
  rw [rW (ex:=true) h hy (by simp)]
  simp
theorem iJ {σ:St} {sz b:Nat} {xs ys:List AV} {ex f:Bool} {t:Nat} {tk:Option Nat} (h:DY sz b xs ys) (h0:ys.length≠0) (n:Nat) (hn:n=xs.length) (ht:σ[t]? = some (.tok sz n ex)) :
  cO sz b σ (.lit xs false (some t)) (.lit ys f tk)=some (.lit (xs++ys) false (some t),σ.set t (.tok sz (n+ys.length) true)):=by
 subst hn
 exact rW h h0 ht
theorem dP (m:Nat):∀ (σ a b c:St),EqS m (σ++a) (σ++b) (σ++c)=EqS m a b c
 |[],a,b,c=>rfl
 |x::σ,a,b,c=>by simp only [List.cons_append,EqS,dP m σ a b c,true_or,true_and,and_self]
theorem aHC (a:Nat) (h:a<9223372036854775808):Go.Am.bits .and .i64 (a:Int) 1=((a%2:Nat):Int):=by
 have e1:(BitVec.ofInt 64 (a:Int) &&& BitVec.ofInt 64 1).toNat=a%2:=by
  rw [BitVec.toNat_and]
  have h1:(BitVec.ofInt 64 (a:Int)).toNat=a:=by
   rw [BitVec.toNat_ofInt]
   omega
  have h2:(BitVec.ofInt 64 1).toNat=1:=by decide
  rw [h1,h2,Nat.and_one_is_mod]
 show IntKind.i64.wrap (((BitVec.ofInt 64 (a:Int) &&& BitVec.ofInt 64 1).toNat:Nat):Int)=_
 rw [e1]
 exact eA ⟨by omega,by omega⟩
theorem JU (a:Nat) (h:a<9223372036854775808):gU .and (.int .i64 (a:Int)) (.int .i64 1)=some (.int .i64 ((a%2:Nat):Int)):=by
 simp [gU,nN,aHC a h]
theorem SF (a i:Nat) (h:i≤60):gU .shr (.int .i64 (a:Int)) (.int .i64 (i:Int))=some (.int .i64 ((a/2^i:Nat):Int)):=by
 have hm:Nat.min i 64=i:=Nat.min_eq_left (by omega)
 have h0:¬(i:Int)<0:=by omega
 simp only [gU,h0,if_false,IntKind.bits,Int.toNat_natCast,hm,Option.some.injEq,AV.int.injEq,true_and]
 rw [Int.fdiv_eq_ediv_of_nonneg _ (Int.pow_nonneg (by omega))]
 norm_cast
theorem dA (m:Nat) (σ b c:St):EqS m σ (σ++b) (σ++c)=EqS m [] b c:=by have:=dP m σ [] b c;rwa [List.append_nil] at this
def BI (T:FuncId→Option AFunc) (f:AV) (args:List AV) (σ:St) (v:AV) (σ':St):Prop:=Run T (.callv f args σ) fun o=>o.v=v∧o.σ=σ'
theorem dY {f:AV} {args:List AV} {v:AV} {σ σ':St} {K:AV→St→Prop} (h:BI T f args σ v σ') (k:K v σ'):cK (K:=⟨K⟩) T f args σ:=.mono h fun o ho=>by rw [ho.1,ho.2];exact k
theorem CE (n:Nat):(List.replicate n [AV.int .i64 0]).flatten=List.replicate n (.int .i64 0):=by
 induction n with
 |zero=>rfl
 |succ n ih=>simp [List.replicate_succ,ih]
theorem KR (l:List Int):(l.map (AV.int .i64)).flatMap AV.cells=l.map (.int .i64):=by
 induction l with
 |nil=>rfl
 |cons x l ih=>simp only [List.map_cons,List.flatMap_cons,ih,AV.cells];rfl
theorem AD (z v:AV):LJ true z (some (some v))=some (.tuple [v,.bool true]):=rfl
theorem z0 (z:AV):LJ true z (some none)=some (.tuple [z,.bool false]):=rfl
theorem LU (k:Nat) (x:ABlk) (hx:aH k x):∀ (A a b c:St) (i:Nat),EqS k (A++a) (A.set i x++b) (A.set i x++c)=EqS k a b c
 |[],a,b,c,i=>by simp
 |y::A,a,b,c,0=>by
  simp only [List.set_cons_zero,List.cons_append,EqS,dP,hx,or_true,true_and,and_self]
 |y::A,a,b,c,i+1=>by
  have:=LU k x hx A a b c i
  simp only [List.set_cons_succ,List.cons_append,EqS,this,true_or,true_and,and_self]
theorem pG (i:Nat):cR 1 (.yield i)=true:=by simp [cR,AV.cells,AV.cell]
theorem pE (i:Nat):(AV.yield i).cells=[.yield i]:=by simp [AV.cells]
theorem HE {f:AOpd} {g:FuncId} {first cap:List AV} {ps:List Nat} {a b:ACode} {e:Env} {σ:St} {K:KJ} {R:Out→Prop} (hf:f.ev e = .func g first cap)
  (h:Run T (.call g (first++[.yield σ.length]++cap) (σ++[.loop .ready none e ps a b])) R)
  (h1:∀ o,R o→∃ st pend env' ps' a' b',o.σ[σ.length]? = some (.loop st pend env' ps' a' b')∧st≠.busy∧K pend e (o.σ.set σ.length .dead)):rK (K:=⟨K⟩) T (.rangeFunc f ps a b) e σ:=.rangeFunc hf h h1
theorem iU {σ:St} {l:List Int} {a:Int} {ex:Bool} {t:Nat} (hn:l.length<100) (ht:σ[t]? = some (.tok 1 l.length ex)):cO 1 8 σ (.lit (l.map (.int .i64)) false (some t)) (.lit [.int .i64 a] true none)=some (.lit ((l++[a]).map (.int .i64)) false (some t),σ.set t (.tok 1 (l.length+1) true)):=by
 rw [rW (ex:=ex) ⟨rJ 1 _ l (fun x=>O1 _ _),by simp [aL,AV.cells,AV.cell],by simp [room];omega,by simp [room];omega⟩ (by simp) (by simpa using ht)]
 simp
theorem ID {vs:List AV} (h:nS vs) (m:Nat):okVs m vs:=okVs_up _ h.1
theorem AF {v:AV} (h:lX v) (m:Nat):okV m v:=(ID (bQ h fC) m).1
end Go.Am.Room
set_option maxRecDepth 4000
namespace Go.Am.Room
def bU:=And.intro @bK (And.intro @aK (And.intro @aZ (And.intro @aX (And.intro @aY (And.intro @aT (And.intro @bI (And.intro @bF (@bE))))))))
theorem iT (v:Net) (s:Int) (hst:2≤v.stations∧v.stations≤5):dL T 78 [bM v,.int .i64 s] (.bool (nC v s)):=by
 refine aU (af:=a78) rfl (by simp [a78]) dd ?_
 have hw:IntKind.i64.wrap (v.stations-1)=v.stations-1:=eA ⟨by omega,by omega⟩
 (repeat (first|simp only [↓QA,QB,Nat.reduceLT,reduceIte,Nat.reduceEqDiff,Nat.reduceAdd,Nat.reduceLeDiff,Nat.reduceMul,Nat.reduceBEq,bU,a78,hw]|refine rd0 rfl ?_))
 ((first|refine aD (gG s 0 (v.stations-1)) rfl dd ?_|refine aE (gG s 0 (v.stations-1)) rfl dd ?_);(repeat (first|simp only [↓QA,QB,Nat.reduceLT,reduceIte,Nat.reduceEqDiff,Nat.reduceAdd,Nat.reduceLeDiff,Nat.reduceMul,Nat.reduceBEq,bU,nC]|refine rd0 rfl ?_)))
theorem RN (r:Rail) (s:Int):dL T 97 [eH r,.int .i64 s] (.int .i64 (dE r s)):=by
 refine aU (af:=a97) rfl (by simp [a97]) dd ?_
 (repeat (first|simp only [↓QA,QB,Nat.reduceLT,reduceIte,Nat.reduceEqDiff,Nat.reduceAdd,Nat.reduceLeDiff,Nat.reduceMul,Nat.reduceBEq,bU,a97]|refine rd0 rfl ?_))
 cases h1:(s==r.a)
 ·have h1':s≠r.a:=by simpa using h1
  (repeat (first|simp only [↓QA,QB,Nat.reduceLT,reduceIte,Nat.reduceEqDiff,Nat.reduceAdd,Nat.reduceLeDiff,Nat.reduceMul,Nat.reduceBEq,bU,h1]|refine rd0 rfl ?_))
  cases h2:(s==r.b)
  ·have h2':s≠r.b:=by simpa using h2
   (repeat (first|simp only [↓QA,QB,Nat.reduceLT,reduceIte,Nat.reduceEqDiff,Nat.reduceAdd,Nat.reduceLeDiff,Nat.reduceMul,Nat.reduceBEq,bU,h2]|refine rd0 rfl ?_))
   simp [dE,h1',h2']
  ·have h2':s=r.b:=by simpa using h2
   (repeat (first|simp only [↓QA,QB,Nat.reduceLT,reduceIte,Nat.reduceEqDiff,Nat.reduceAdd,Nat.reduceLeDiff,Nat.reduceMul,Nat.reduceBEq,bU,h2]|refine rd0 rfl ?_))
   simp only [dE,if_neg h1',if_pos h2']
 ·have h1':s=r.a:=by simpa using h1
  (repeat (first|simp only [↓QA,QB,Nat.reduceLT,reduceIte,Nat.reduceEqDiff,Nat.reduceAdd,Nat.reduceLeDiff,Nat.reduceMul,Nat.reduceBEq,bU,h1]|refine rd0 rfl ?_))
  simp only [dE,if_pos h1']
theorem PF (v:Net) (r:Rail) (hst:2≤v.stations∧v.stations≤5):dL T 74 [bM v,eH r] (.int .i64 (dD v r)):=by
 refine aU (af:=a74) rfl (by simp [a74]) dd ?_
 (repeat (first|simp only [↓QA,QB,Nat.reduceLT,reduceIte,Nat.reduceEqDiff,Nat.reduceAdd,Nat.reduceLeDiff,Nat.reduceMul,Nat.reduceBEq,bU,a74]|refine rd0 rfl ?_))
 ((first|refine aD (iT v r.a hst) rfl dd ?_|refine aE (iT v r.a hst) rfl dd ?_);(repeat (first|simp only [↓QA,QB,Nat.reduceLT,reduceIte,Nat.reduceEqDiff,Nat.reduceAdd,Nat.reduceLeDiff,Nat.reduceMul,Nat.reduceBEq,bU]|refine rd0 rfl ?_)))
 cases h1:nC v r.a
 ·(repeat (first|simp only [↓QA,QB,Nat.reduceLT,reduceIte,Nat.reduceEqDiff,Nat.reduceAdd,Nat.reduceLeDiff,Nat.reduceMul,Nat.reduceBEq,bU]|refine rd0 rfl ?_))
  simp [dD,h1]
 ·(repeat (first|simp only [↓QA,QB,Nat.reduceLT,reduceIte,Nat.reduceEqDiff,Nat.reduceAdd,Nat.reduceLeDiff,Nat.reduceMul,Nat.reduceBEq,bU]|refine rd0 rfl ?_))
  ((first|refine aD (iT v r.b hst) rfl dd ?_|refine aE (iT v r.b hst) rfl dd ?_);(repeat (first|simp only [↓QA,QB,Nat.reduceLT,reduceIte,Nat.reduceEqDiff,Nat.reduceAdd,Nat.reduceLeDiff,Nat.reduceMul,Nat.reduceBEq,bU]|refine rd0 rfl ?_)))
  cases h2:nC v r.b
  ·(repeat (first|simp only [↓QA,QB,Nat.reduceLT,reduceIte,Nat.reduceEqDiff,Nat.reduceAdd,Nat.reduceLeDiff,Nat.reduceMul,Nat.reduceBEq,bU]|refine rd0 rfl ?_))
   simp [dD,h2]
  ·(repeat (first|simp only [↓QA,QB,Nat.reduceLT,reduceIte,Nat.reduceEqDiff,Nat.reduceAdd,Nat.reduceLeDiff,Nat.reduceMul,Nat.reduceBEq,bU]|refine rd0 rfl ?_))
   cases h3:(r.a==r.b)
   ·have h3':r.a≠r.b:=by simpa using h3
    (repeat (first|simp only [↓QA,QB,Nat.reduceLT,reduceIte,Nat.reduceEqDiff,Nat.reduceAdd,Nat.reduceLeDiff,Nat.reduceMul,Nat.reduceBEq,bU,h3]|refine rd0 rfl ?_))
    ((first|refine aD (LN r.mins 1 20) rfl dd ?_|refine aE (LN r.mins 1 20) rfl dd ?_);(repeat (first|simp only [↓QA,QB,Nat.reduceLT,reduceIte,Nat.reduceEqDiff,Nat.reduceAdd,Nat.reduceLeDiff,Nat.reduceMul,Nat.reduceBEq,bU]|refine rd0 rfl ?_)))
    cases h4:(o6 r.mins 1 20==7)
    ·have h4':o6 r.mins 1 20≠7:=by simpa using h4
     (repeat (first|simp only [↓QA,QB,Nat.reduceLT,reduceIte,Nat.reduceEqDiff,Nat.reduceAdd,Nat.reduceLeDiff,Nat.reduceMul,Nat.reduceBEq,bU,h4]|refine rd0 rfl ?_))
     ((first|refine aD (gG r.shut 0 2) rfl dd ?_|refine aE (gG r.shut 0 2) rfl dd ?_);(repeat (first|simp only [↓QA,QB,Nat.reduceLT,reduceIte,Nat.reduceEqDiff,Nat.reduceAdd,Nat.reduceLeDiff,Nat.reduceMul,Nat.reduceBEq,bU]|refine rd0 rfl ?_)))
     cases h5:inR r.shut 0 2
     ·(repeat (first|simp only [↓QA,QB,Nat.reduceLT,reduceIte,Nat.reduceEqDiff,Nat.reduceAdd,Nat.reduceLeDiff,Nat.reduceMul,Nat.reduceBEq,bU]|refine rd0 rfl ?_))
      simp [dD,h1,h2,h3',h5]
     ·cases h6:(o6 r.mins 1 20==0)
      ·have h6':o6 r.mins 1 20≠0:=by simpa using h6
       (repeat (first|simp only [↓QA,QB,Nat.reduceLT,reduceIte,Nat.reduceEqDiff,Nat.reduceAdd,Nat.reduceLeDiff,Nat.reduceMul,Nat.reduceBEq,bU,h6]|refine rd0 rfl ?_))
       simp [dD,h1,h2,h3',h4',h5,h6']
      ·have h6':o6 r.mins 1 20=0:=by simpa using h6
       have hb:=DD h6'
       have hw:IntKind.i64.wrap (r.mins.lo+1)=r.mins.lo+1:=eA ⟨by omega,by omega⟩
       cases h7:decide (r.mins.lo+1<r.mins.hi)
       ·have h7':¬r.mins.lo+1<r.mins.hi:=by simpa using h7
        (repeat (first|simp only [↓QA,QB,Nat.reduceLT,reduceIte,Nat.reduceEqDiff,Nat.reduceAdd,Nat.reduceLeDiff,Nat.reduceMul,Nat.reduceBEq,bU,h6,hw,h7]|refine rd0 rfl ?_))
        simp [dD,h1,h2,h3',h5,h6',h7']
       ·have h7':r.mins.lo+1<r.mins.hi:=by simpa using h7
        (repeat (first|simp only [↓QA,QB,Nat.reduceLT,reduceIte,Nat.reduceEqDiff,Nat.reduceAdd,Nat.reduceLeDiff,Nat.reduceMul,Nat.reduceBEq,bU,h6,hw,h7]|refine rd0 rfl ?_))
        simp [dD,h1,h2,h3',h5,h6',h7']
    ·have h4':o6 r.mins 1 20=7:=by simpa using h4
     (repeat (first|simp only [↓QA,QB,Nat.reduceLT,reduceIte,Nat.reduceEqDiff,Nat.reduceAdd,Nat.reduceLeDiff,Nat.reduceMul,Nat.reduceBEq,bU,h4]|refine rd0 rfl ?_))
     simp [dD,h1,h2,h3',h4']
   ·have h3':r.a=r.b:=by simpa using h3
    (repeat (first|simp only [↓QA,QB,Nat.reduceLT,reduceIte,Nat.reduceEqDiff,Nat.reduceAdd,Nat.reduceLeDiff,Nat.reduceMul,Nat.reduceBEq,bU,h3]|refine rd0 rfl ?_))
    rw [dD,if_neg (by simp [h1,h2]),if_pos h3']
theorem KC {v:Net} {p:List Int} {k:Nat} (hk:k<p.length) (s:Int) (met:List Int):kN v (p.drop k) s met=if dE (eF v p[k]) s<0∨met.contains (dE (eF v p[k]) s)=true∨(dE (eF v p[k]) s=0∧k+1<p.length) then false
  else kN v (p.drop (k+1)) (dE (eF v p[k]) s) (met++[dE (eF v p[k]) s]):=by
 rw [List.drop_eq_getElem_cons hk,kN]
 have:p.drop (k+1)≠[]↔k+1<p.length:=by
  rw [Ne,List.drop_eq_nil_iff];omega
 simp only [this]
theorem xT (v:Net) (s:Int) (p:List Int) (hp:∀ r∈p,0≤r∧r<v.rails.length) (hl:p.length<9223372036854775808):dL T 61 [bM v,.int .i64 s,ints p] (.bool (fP v s p)):=by
 refine aU (af:=a61) rfl (by simp [a61]) dd ?_
 (repeat (first|simp only [↓QA,QB,Nat.reduceLT,reduceIte,Nat.reduceEqDiff,Nat.reduceAdd,Nat.reduceLeDiff,Nat.reduceMul,Nat.reduceBEq,bU,a61]|refine rd0 rfl ?_))
 ((first|refine aD (gG p.length 1 4) rfl dd ?_|refine aE (gG p.length 1 4) rfl dd ?_);(repeat (first|simp only [↓QA,QB,Nat.reduceLT,reduceIte,Nat.reduceEqDiff,Nat.reduceAdd,Nat.reduceLeDiff,Nat.reduceMul,Nat.reduceBEq,bU]|refine rd0 rfl ?_)))
 cases h1:inR p.length 1 4
 ·(repeat (first|simp only [↓QA,QB,Nat.reduceLT,reduceIte,Nat.reduceEqDiff,Nat.reduceAdd,Nat.reduceLeDiff,Nat.reduceMul,Nat.reduceBEq,bU]|refine rd0 rfl ?_))
  simp [fP,h1]
 ·have hpl:=eS.1 h1
  cases h2:(s==0)
  case' true =>
   have h2':s=0:=by simpa using h2
   (repeat (first|simp only [↓QA,QB,Nat.reduceLT,reduceIte,Nat.reduceEqDiff,Nat.reduceAdd,Nat.reduceLeDiff,Nat.reduceMul,Nat.reduceBEq,bU,h2]|refine rd0 rfl ?_))
   simp [fP,h1,h2']
  have h2':s≠0:=by simpa using h2
  obtain ⟨B,hB⟩:∃ B,fP v s p=B:=⟨_,rfl⟩
  have hB2:kN v p s [s]=B:=by rw [←hB,fP,if_neg (by simp [h1,h2'])]
  rw [hB]
  (repeat (first|simp only [↓QA,QB,Nat.reduceLT,reduceIte,Nat.reduceEqDiff,Nat.reduceAdd,Nat.reduceLeDiff,Nat.reduceMul,Nat.reduceBEq,bU,h2]|refine rd0 rfl ?_))
  refine hH 7 1 [.int .i64 s] rfl ?_
  refine bT (S:=Nat×Int×List Int×Bool) (0,s,[s],false) (fun a=>a.1≤p.length∧a.2.2.1.length=a.1+1∧kN v (p.drop a.1) a.2.1 a.2.2.1=B) (fun a=>p.length-a.1)
   (fun a=>[(1,.int .i64 a.2.1),(2,ints p),(3,.ptr 0 0),(7,.lit (a.2.2.1.map (.int .i64)) false (some 1)),(8,.int .i64 a.1)]) (fun a=>[.cells (aB v),.tok 1 (a.1+1) a.2.2.2]) ⟨by simp,by simp,by simpa using hB2⟩ (by simp [aB,ints]) ?_ fun a ha=>?_
  ·try simp only [aC,QE,Nat.reduceLT,reduceIte,Nat.reduceEqDiff,Nat.reduceAdd,Nat.reduceLeDiff,Nat.reduceMul,Nat.reduceBEq,bU]
   try simp
  ·obtain ⟨k,c,met,ex⟩:=a
   obtain ⟨hk,hm,hgo⟩:=ha
   simp only at hk hm hgo
   (repeat (first|simp only [↓QA,QB,Nat.reduceLT,reduceIte,Nat.reduceEqDiff,Nat.reduceAdd,Nat.reduceLeDiff,Nat.reduceMul,Nat.reduceBEq,bU,XR]|refine rd0 rfl ?_))
   refine aG (fun h=>?_) fun h=>?_
   ·have hk1:k<p.length:=by simpa using h
    have hw:=bP hk1 (by omega)
    rw [KC hk1] at hgo
    have hpr:=hp _ (List.getElem_mem hk1)
    obtain ⟨R,hR⟩:∃ R:Nat,p[k]=(R:Int):=⟨p[k].toNat,by omega⟩
    rw [hR] at hpr hgo
    have hRl:R<v.rails.length:=by omega
    rw [wL hRl] at hgo
    obtain ⟨z,hz⟩:∃ z,v.rails[R]=z:=⟨_,rfl⟩
    rw [hz] at hgo
    have hov:=RN z c
    obtain ⟨o,ho⟩:∃ o,dE z c=o:=⟨_,rfl⟩
    rw [ho] at hgo hov
    have hap:=fun (b0:ABlk) (τ:St)=>iU (σ:=b0::.tok 1 (k+1) ex::τ) (l:=met) (a:=o) (ex:=ex) (t:=1) (by omega) (by rw [hm];rfl)
    rw [hm] at hap
    (repeat (first|simp only [↓QA,QB,Nat.reduceLT,reduceIte,Nat.reduceEqDiff,Nat.reduceAdd,Nat.reduceLeDiff,Nat.reduceMul,Nat.reduceBEq,bU,hk1,hR,hRl,hz]|refine rd0 rfl ?_))
    ((first|refine aD (hov) rfl dd ?_|refine aE (hov) rfl dd ?_);(repeat (first|simp only [↓QA,QB,Nat.reduceLT,reduceIte,Nat.reduceEqDiff,Nat.reduceAdd,Nat.reduceLeDiff,Nat.reduceMul,Nat.reduceBEq,bU,hk1,hR,hRl,hz]|refine rd0 rfl ?_)))
    cases q1:decide (o<0)
    ·have q1':¬o<0:=by simpa using q1
     (repeat (first|simp only [↓QA,QB,Nat.reduceLT,reduceIte,Nat.reduceEqDiff,Nat.reduceAdd,Nat.reduceLeDiff,Nat.reduceMul,Nat.reduceBEq,bU,q1]|refine rd0 rfl ?_))
     ((first|refine uI (sO met o (by omega)) (by try simp only [QS,QC,Nat.reduceLT,reduceIte,Nat.reduceEqDiff,Nat.reduceAdd,Nat.reduceLeDiff,Nat.reduceMul,Nat.reduceBEq,bU]) trivial ?_|refine wU (sO met o (by omega)) (by try simp only [QS,QC,Nat.reduceLT,reduceIte,Nat.reduceEqDiff,Nat.reduceAdd,Nat.reduceLeDiff,Nat.reduceMul,Nat.reduceBEq,bU]) trivial ?_);(repeat (first|simp only [↓QA,QB,Nat.reduceLT,reduceIte,Nat.reduceEqDiff,Nat.reduceAdd,Nat.reduceLeDiff,Nat.reduceMul,Nat.reduceBEq,bU,q1]|refine rd0 rfl ?_)))
     cases q2:met.contains o
     ·cases q3:(o==0)
      ·have q3':o≠0:=by simpa using q3
       rw [if_neg (by rw [q2];simp [q1',q3'])] at hgo
       (repeat (first|simp only [↓QA,QB,Nat.reduceLT,reduceIte,Nat.reduceEqDiff,Nat.reduceAdd,Nat.reduceLeDiff,Nat.reduceMul,Nat.reduceBEq,bU,q3,hap,hw]|refine rd0 rfl ?_))
       refine ⟨(k+1,o,met++[o],true),⟨by simp only;omega,by simp [hm],hgo⟩,by simp only;omega,?_⟩
       try simp only [aC,QE,Nat.reduceLT,reduceIte,Nat.reduceEqDiff,Nat.reduceAdd,Nat.reduceLeDiff,Nat.reduceMul,Nat.reduceBEq,bU,hw,kG,List.map_append,List.map_cons,List.map_nil]
       try simp [aH]
      ·have q3':o=0:=by simpa using q3
       cases q4:decide (((k+1:Nat):Int)<(p.length:Int))
       ·have q4':¬k+1<p.length:=by have:=of_decide_eq_false q4;omega
        rw [if_neg (by rw [q2];simp [q1',q4'])] at hgo
        (repeat (first|simp only [↓QA,QB,Nat.reduceLT,reduceIte,Nat.reduceEqDiff,Nat.reduceAdd,Nat.reduceLeDiff,Nat.reduceMul,Nat.reduceBEq,bU,q3,hap,hw,q4]|refine rd0 rfl ?_))
        refine ⟨(k+1,o,met++[o],true),⟨by simp only;omega,by simp [hm],hgo⟩,by simp only;omega,?_⟩
        try simp only [aC,QE,Nat.reduceLT,reduceIte,Nat.reduceEqDiff,Nat.reduceAdd,Nat.reduceLeDiff,Nat.reduceMul,Nat.reduceBEq,bU,hw,kG,List.map_append,List.map_cons,List.map_nil]
        try simp [aH]
       ·have q4':k+1<p.length:=by
         have:=of_decide_eq_true q4
         omega
        rw [if_pos (.inr (.inr ⟨q3',q4'⟩))] at hgo
        (repeat (first|simp only [↓QA,QB,Nat.reduceLT,reduceIte,Nat.reduceEqDiff,Nat.reduceAdd,Nat.reduceLeDiff,Nat.reduceMul,Nat.reduceBEq,bU,q3,hw,q4,←hgo]|refine rd0 rfl ?_))
     ·rw [if_pos (.inr (.inl q2))] at hgo
      (repeat (first|simp only [↓QA,QB,Nat.reduceLT,reduceIte,Nat.reduceEqDiff,Nat.reduceAdd,Nat.reduceLeDiff,Nat.reduceMul,Nat.reduceBEq,bU,←hgo]|refine rd0 rfl ?_))
    ·have q1':o<0:=by simpa using q1
     rw [if_pos (.inl q1')] at hgo
     (repeat (first|simp only [↓QA,QB,Nat.reduceLT,reduceIte,Nat.reduceEqDiff,Nat.reduceAdd,Nat.reduceLeDiff,Nat.reduceMul,Nat.reduceBEq,bU,q1,←hgo]|refine rd0 rfl ?_))
   ·have hk1:k=p.length:=by simp at h;omega
    rw [hk1,List.drop_length,kN] at hgo
    (repeat (first|simp only [↓QA,QB,Nat.reduceLT,reduceIte,Nat.reduceEqDiff,Nat.reduceAdd,Nat.reduceLeDiff,Nat.reduceMul,Nat.reduceBEq,bU,hgo]|refine rd0 rfl ?_))
end Go.Am.Room
set_option maxRecDepth 4000
namespace Go.Am.Room
def aV:=And.intro @bK (And.intro @aK (And.intro @aZ (And.intro @aX (And.intro @aY (And.intro @aT (And.intro @bI (And.intro @bF (@bE))))))))
def mE (x:Int×Int×Int):AV:=.tuple [.int .i64 x.1,.int .i64 x.2.1,.int .i64 x.2.2]
theorem QI (v:Net) (t:Tram) (hst:2≤v.stations∧v.stations≤5) (hnr:v.rails.length≤5):dL T 76 [bM v,dC t] (.int .i64 (gP v t)):=by
 refine aU (af:=a76) rfl (by simp [a76]) dd ?_
 (repeat (first|simp only [↓QA,QB,Nat.reduceLT,reduceIte,Nat.reduceEqDiff,Nat.reduceAdd,Nat.reduceLeDiff,Nat.reduceMul,Nat.reduceBEq,aV,a76]|refine rd0 rfl ?_))
 ((first|refine aD (iT v t.frm hst) rfl dd ?_|refine aE (iT v t.frm hst) rfl dd ?_);(repeat (first|simp only [↓QA,QB,Nat.reduceLT,reduceIte,Nat.reduceEqDiff,Nat.reduceAdd,Nat.reduceLeDiff,Nat.reduceMul,Nat.reduceBEq,aV]|refine rd0 rfl ?_)))
 cases h1:nC v t.frm
 ·(repeat (first|simp only [↓QA,QB,Nat.reduceLT,reduceIte,Nat.reduceEqDiff,Nat.reduceAdd,Nat.reduceLeDiff,Nat.reduceMul,Nat.reduceBEq,aV]|refine rd0 rfl ?_))
  simp [gP,h1]
 ·(repeat (first|simp only [↓QA,QB,Nat.reduceLT,reduceIte,Nat.reduceEqDiff,Nat.reduceAdd,Nat.reduceLeDiff,Nat.reduceMul,Nat.reduceBEq,aV]|refine rd0 rfl ?_))
  ((first|refine aD (gG t.leaves 0 60) rfl dd ?_|refine aE (gG t.leaves 0 60) rfl dd ?_);(repeat (first|simp only [↓QA,QB,Nat.reduceLT,reduceIte,Nat.reduceEqDiff,Nat.reduceAdd,Nat.reduceLeDiff,Nat.reduceMul,Nat.reduceBEq,aV]|refine rd0 rfl ?_)))
  cases h2:inR t.leaves 0 60
  ·(repeat (first|simp only [↓QA,QB,Nat.reduceLT,reduceIte,Nat.reduceEqDiff,Nat.reduceAdd,Nat.reduceLeDiff,Nat.reduceMul,Nat.reduceBEq,aV]|refine rd0 rfl ?_))
   simp [gP,h1,h2]
  ·(repeat (first|simp only [↓QA,QB,Nat.reduceLT,reduceIte,Nat.reduceEqDiff,Nat.reduceAdd,Nat.reduceLeDiff,Nat.reduceMul,Nat.reduceBEq,aV]|refine rd0 rfl ?_))
   ((first|refine aD (gG t.due 0 400) rfl dd ?_|refine aE (gG t.due 0 400) rfl dd ?_);(repeat (first|simp only [↓QA,QB,Nat.reduceLT,reduceIte,Nat.reduceEqDiff,Nat.reduceAdd,Nat.reduceLeDiff,Nat.reduceMul,Nat.reduceBEq,aV]|refine rd0 rfl ?_)))
   cases h3:inR t.due 0 400
   ·(repeat (first|simp only [↓QA,QB,Nat.reduceLT,reduceIte,Nat.reduceEqDiff,Nat.reduceAdd,Nat.reduceLeDiff,Nat.reduceMul,Nat.reduceBEq,aV]|refine rd0 rfl ?_))
    simp [gP,h1,h2,h3]
   ·(repeat (first|simp only [↓QA,QB,Nat.reduceLT,reduceIte,Nat.reduceEqDiff,Nat.reduceAdd,Nat.reduceLeDiff,Nat.reduceMul,Nat.reduceBEq,aV]|refine rd0 rfl ?_))
    ((first|refine aD (gG t.path.length 1 4) rfl dd ?_|refine aE (gG t.path.length 1 4) rfl dd ?_);(repeat (first|simp only [↓QA,QB,Nat.reduceLT,reduceIte,Nat.reduceEqDiff,Nat.reduceAdd,Nat.reduceLeDiff,Nat.reduceMul,Nat.reduceBEq,aV]|refine rd0 rfl ?_)))
    cases h4:inR t.path.length 1 4
    ·(repeat (first|simp only [↓QA,QB,Nat.reduceLT,reduceIte,Nat.reduceEqDiff,Nat.reduceAdd,Nat.reduceLeDiff,Nat.reduceMul,Nat.reduceBEq,aV]|refine rd0 rfl ?_))
     simp [gP,h1,h2,h3,h4]
    ·have hpl:=eS.1 h4
     have hwl:IntKind.i64.wrap ((v.rails.length:Int)-1)=(v.rails.length:Int)-1:=eA ⟨by omega,by omega⟩
     obtain ⟨q,hq⟩:∃ q:Int→Bool,(fun r=>inR r 0 ((v.rails.length:Int)-1))=q:=⟨_,rfl⟩
     have hqr:∀ r,inR r 0 ((v.rails.length:Int)-1)=q r:=fun r=>by rw [←hq]
     have hE:gP v t=if t.path.all q=false then 4 else if fP v t.frm t.path=false then 2 else 0:=by
      rw [gP,if_neg (by simp [h1]),if_neg (by simp [h2,h3]),if_neg (by simp [h4]),hq]
     rw [hE]
     (repeat (first|simp only [↓QA,QB,Nat.reduceLT,reduceIte,Nat.reduceEqDiff,Nat.reduceAdd,Nat.reduceLeDiff,Nat.reduceMul,Nat.reduceBEq,aV]|refine rd0 rfl ?_))
     refine bT (S:=Nat) 0 (fun k=>k≤t.path.length∧(t.path.drop k).all q=t.path.all q) (fun k=>t.path.length-k)
      (fun k=>[(2,.ptr 0 0),(3,.ptr 1 0),(5,.int .i64 k)]) (fun _=>[.cells (aB v),.cells [.str t.name,.int .i64 t.frm,.int .i64 t.leaves,.int .i64 t.due,ints t.path]]) ⟨by simp,by simp⟩ (by simp [aB,ints]) ?_ fun k hk=>?_
     ·try simp only [aC,QE,Nat.reduceLT,reduceIte,Nat.reduceEqDiff,Nat.reduceAdd,Nat.reduceLeDiff,Nat.reduceMul,Nat.reduceBEq,aV]
      try simp
     ·obtain ⟨hk,hb⟩:=hk
      (repeat (first|simp only [↓QA,QB,Nat.reduceLT,reduceIte,Nat.reduceEqDiff,Nat.reduceAdd,Nat.reduceLeDiff,Nat.reduceMul,Nat.reduceBEq,aV,YE]|refine rd0 rfl ?_))
      refine aG (fun h=>?_) fun h=>?_
      ·have hk1:k<t.path.length:=by simpa using h
       have hw:=bP hk1 (by omega)
       rw [List.drop_eq_getElem_cons hk1,List.all_cons] at hb
       obtain ⟨r,hr⟩:∃ r,t.path[k]=r:=⟨_,rfl⟩
       rw [hr] at hb
       have hin:=gG r 0 ((v.rails.length:Int)-1)
       rw [hqr r] at hin
       (repeat (first|simp only [↓QA,QB,Nat.reduceLT,reduceIte,Nat.reduceEqDiff,Nat.reduceAdd,Nat.reduceLeDiff,Nat.reduceMul,Nat.reduceBEq,aV,hk1,hr,hwl]|refine rd0 rfl ?_))
       ((first|refine aD (hin) rfl dd ?_|refine aE (hin) rfl dd ?_);(repeat (first|simp only [↓QA,QB,Nat.reduceLT,reduceIte,Nat.reduceEqDiff,Nat.reduceAdd,Nat.reduceLeDiff,Nat.reduceMul,Nat.reduceBEq,aV,hk1,hr,hwl]|refine rd0 rfl ?_)))
       cases h5:q r
       ·rw [h5,Bool.false_and] at hb
        (repeat (first|simp only [↓QA,QB,Nat.reduceLT,reduceIte,Nat.reduceEqDiff,Nat.reduceAdd,Nat.reduceLeDiff,Nat.reduceMul,Nat.reduceBEq,aV,←hb]|refine rd0 rfl ?_))
       ·rw [h5,Bool.true_and] at hb
        (repeat (first|simp only [↓QA,QB,Nat.reduceLT,reduceIte,Nat.reduceEqDiff,Nat.reduceAdd,Nat.reduceLeDiff,Nat.reduceMul,Nat.reduceBEq,aV,hw]|refine rd0 rfl ?_))
        refine ⟨k+1,⟨by omega,hb⟩,by omega,?_⟩
        try simp only [aC,QE,Nat.reduceLT,reduceIte,Nat.reduceEqDiff,Nat.reduceAdd,Nat.reduceLeDiff,Nat.reduceMul,Nat.reduceBEq,aV,hw]
        try simp [aH]
      ·have hk1:k=t.path.length:=by simp at h;omega
       rw [hk1,List.drop_length,List.all_nil] at hb
       have hp:∀ r∈t.path,0≤r∧r<v.rails.length:=fun r hr=>by
        have:=List.all_eq_true.1 hb.symm r hr
        rw [←hqr,eS] at this
        omega
       (repeat (first|simp only [↓QA,QB,Nat.reduceLT,reduceIte,Nat.reduceEqDiff,Nat.reduceAdd,Nat.reduceLeDiff,Nat.reduceMul,Nat.reduceBEq,aV]|refine rd0 rfl ?_))
       ((first|refine aD (xT v t.frm t.path hp (by omega)) rfl dd ?_|refine aE (xT v t.frm t.path hp (by omega)) rfl dd ?_);(repeat (first|simp only [↓QA,QB,Nat.reduceLT,reduceIte,Nat.reduceEqDiff,Nat.reduceAdd,Nat.reduceLeDiff,Nat.reduceMul,Nat.reduceBEq,aV]|refine rd0 rfl ?_)))
       cases h6:fP v t.frm t.path
       ·(repeat (first|simp only [↓QA,QB,Nat.reduceLT,reduceIte,Nat.reduceEqDiff,Nat.reduceAdd,Nat.reduceLeDiff,Nat.reduceMul,Nat.reduceBEq,aV,←hb]|refine rd0 rfl ?_))
        rfl
       ·(repeat (first|simp only [↓QA,QB,Nat.reduceLT,reduceIte,Nat.reduceEqDiff,Nat.reduceAdd,Nat.reduceLeDiff,Nat.reduceMul,Nat.reduceBEq,aV,←hb]|refine rd0 rfl ?_))
        rfl
theorem KT {k:Nat} {ns:List ByteArray} {s:ByteArray} {b:ABlk} {ex:Bool} {τ:St} (hk:ns.length=k) (hn:k<16):cO 1 16 (b::.tok 1 k ex::τ) (.lit (ns.map .str) false (some 1)) (.lit [.str s] true none)=some (.lit ((ns++[s]).map .str) false (some 1),b::.tok 1 (k+1) true::τ):=by
 rw [rW (ex:=ex) ⟨rJ 1 _ ns (fun x=>Z0 _),by simp [aL,AV.cells,AV.cell],by simp [room,hk];omega,by simp [room,hk];omega⟩ (by simp) (by simp [hk])]
 simp [hk]
theorem NU {v:Net} {k:Nat} (h:k<v.trams.length):(v.trams.take (k+1)).map Tram.name=(v.trams.take k).map Tram.name++[v.trams[k].name]:=by
 rw [List.take_succ_eq_append_getElem h,List.map_append];rfl
theorem dX (v:Net) (h:Fits v):dL T 18 [bM v] (mE (bY v)):=by
 refine aU (af:=a18) rfl (by simp [a18]) dd ?_
 have hfr:=h.rails
 have hft:=h.trams
 have hfs:=h.seen
 (repeat (first|simp only [↓QA,QB,Nat.reduceLT,reduceIte,Nat.reduceEqDiff,Nat.reduceAdd,Nat.reduceLeDiff,Nat.reduceMul,Nat.reduceBEq,aV,a18]|refine rd0 rfl ?_))
 ((first|refine aD (gG v.stations 2 5) rfl dd ?_|refine aE (gG v.stations 2 5) rfl dd ?_);(repeat (first|simp only [↓QA,QB,Nat.reduceLT,reduceIte,Nat.reduceEqDiff,Nat.reduceAdd,Nat.reduceLeDiff,Nat.reduceMul,Nat.reduceBEq,aV]|refine rd0 rfl ?_)))
 cases h1:inR v.stations 2 5
 ·(repeat (first|simp only [↓QA,QB,Nat.reduceLT,reduceIte,Nat.reduceEqDiff,Nat.reduceAdd,Nat.reduceLeDiff,Nat.reduceMul,Nat.reduceBEq,aV]|refine rd0 rfl ?_))
  simp [bY,h1,mE]
 ·have hst:=eS.1 h1
  have hc:bY v=pQ v:=by simp only [bY,h1,Bool.true_eq_false,if_false]
  rw [hc]
  (repeat (first|simp only [↓QA,QB,Nat.reduceLT,reduceIte,Nat.reduceEqDiff,Nat.reduceAdd,Nat.reduceLeDiff,Nat.reduceMul,Nat.reduceBEq,aV]|refine rd0 rfl ?_))
  cases h2:decide ((5:Int)<(v.rails.length:Int))
  case' true =>
   have h2':5<v.rails.length:=by first|(have:=of_decide_eq_false h2;omega)|(have:=of_decide_eq_true h2;omega)
   (repeat (first|simp only [↓QA,QB,Nat.reduceLT,reduceIte,Nat.reduceEqDiff,Nat.reduceAdd,Nat.reduceLeDiff,Nat.reduceMul,Nat.reduceBEq,aV]|refine rd0 rfl ?_))
   simp [pQ,h2',mE]
  have h2':¬5<v.rails.length:=by first|(have:=of_decide_eq_false h2;omega)|(have:=of_decide_eq_true h2;omega)
  have hc:pQ v=match cF (fun _ r=>dD v r) v.rails 0 with|some (i,e)=>(2,(i:Int),e)|none=>pY v:=by simp only [pQ,h2',if_false];try rfl
  rw [hc]
  (repeat (first|simp only [↓QA,QB,Nat.reduceLT,reduceIte,Nat.reduceEqDiff,Nat.reduceAdd,Nat.reduceLeDiff,Nat.reduceMul,Nat.reduceBEq,aV]|refine rd0 rfl ?_))
  refine bT (S:=Nat) 0 (fun k=>k≤v.rails.length∧cF (fun _ r=>dD v r) (v.rails.drop k) k=cF (fun _ r=>dD v r) v.rails 0) (fun k=>v.rails.length-k)
   (fun k=>[(1,.ptr 0 0),(5,.int .i64 k)]) (fun _=>[.cells (aB v)]) ⟨Nat.zero_le _,by simp⟩ (by simp [aB,ints]) ?_ fun k hs=>?_
  ·try simp only [aC,QE,Nat.reduceLT,reduceIte,Nat.reduceEqDiff,Nat.reduceAdd,Nat.reduceLeDiff,Nat.reduceMul,Nat.reduceBEq,aV]
   try simp
  ·obtain ⟨hk,hb⟩:=hs
   (repeat (first|simp only [↓QA,QB,Nat.reduceLT,reduceIte,Nat.reduceEqDiff,Nat.reduceAdd,Nat.reduceLeDiff,Nat.reduceMul,Nat.reduceBEq,aV,YL]|refine rd0 rfl ?_))
   refine aG (fun hd=>?_) fun hd=>?_
   ·have hk1:k<v.rails.length:=by simpa using hd
    rw [jF hk1] at hb
    have hw:=bP hk1 hfr
    obtain ⟨z,hz⟩:∃ z,v.rails[k]=z:=⟨_,rfl⟩
    rw [hz] at hb
    have hra:=PF v z hst
    obtain ⟨E,hE⟩:∃ E,dD v z=E:=⟨_,rfl⟩
    rw [hE] at hb hra
    (repeat (first|simp only [↓QA,QB,Nat.reduceLT,reduceIte,Nat.reduceEqDiff,Nat.reduceAdd,Nat.reduceLeDiff,Nat.reduceMul,Nat.reduceBEq,aV,hk1,hz]|refine rd0 rfl ?_))
    ((first|refine aD (hra) rfl dd ?_|refine aE (hra) rfl dd ?_);(repeat (first|simp only [↓QA,QB,Nat.reduceLT,reduceIte,Nat.reduceEqDiff,Nat.reduceAdd,Nat.reduceLeDiff,Nat.reduceMul,Nat.reduceBEq,aV,hk1,hz]|refine rd0 rfl ?_)))
    cases hf:(E==0)
    ·have hf':E≠0:=by simpa using hf
     rw [if_neg hf'] at hb
     rw [←hb]
     (repeat (first|simp only [↓QA,QB,Nat.reduceLT,reduceIte,Nat.reduceEqDiff,Nat.reduceAdd,Nat.reduceLeDiff,Nat.reduceMul,Nat.reduceBEq,aV,hf]|refine rd0 rfl ?_))
     rfl
    ·have hf':E=0:=by simpa using hf
     rw [if_pos hf'] at hb
     (repeat (first|simp only [↓QA,QB,Nat.reduceLT,reduceIte,Nat.reduceEqDiff,Nat.reduceAdd,Nat.reduceLeDiff,Nat.reduceMul,Nat.reduceBEq,aV,hf,hw]|refine rd0 rfl ?_))
     refine ⟨k+1,⟨by omega,hb⟩,by omega,?_⟩
     try simp only [aC,QE,Nat.reduceLT,reduceIte,Nat.reduceEqDiff,Nat.reduceAdd,Nat.reduceLeDiff,Nat.reduceMul,Nat.reduceBEq,aV,hw]
     try simp [aH]
   ·have hk1:k=v.rails.length:=by simp at hd;omega
    rw [j3 hk1] at hb
    rw [←hb]
    (repeat (first|simp only [↓QA,QB,Nat.reduceLT,reduceIte,Nat.reduceEqDiff,Nat.reduceAdd,Nat.reduceLeDiff,Nat.reduceMul,Nat.reduceBEq,aV]|refine rd0 rfl ?_))
    cases h6:decide ((3:Int)<(v.trams.length:Int))
    case' true =>
     have h6':3<v.trams.length:=by first|(have:=of_decide_eq_false h6;omega)|(have:=of_decide_eq_true h6;omega)
     (repeat (first|simp only [↓QA,QB,Nat.reduceLT,reduceIte,Nat.reduceEqDiff,Nat.reduceAdd,Nat.reduceLeDiff,Nat.reduceMul,Nat.reduceBEq,aV]|refine rd0 rfl ?_))
     simp [pY,h6',mE]
    have h6':¬3<v.trams.length:=by first|(have:=of_decide_eq_false h6;omega)|(have:=of_decide_eq_true h6;omega)
    have hc:pY v=match cF (kA v) v.trams 0 with|some (i,e)=>(3,(i:Int),e)|none=>pN v:=by simp only [pY,h6',if_false];try rfl
    rw [hc]
    (repeat (first|simp only [↓QA,QB,Nat.reduceLT,reduceIte,Nat.reduceEqDiff,Nat.reduceAdd,Nat.reduceLeDiff,Nat.reduceMul,Nat.reduceBEq,aV]|refine rd0 rfl ?_))
    refine hH 7 1 [] rfl ?_
    refine bT (S:=Nat×Bool) (0,false) (fun s=>s.1≤v.trams.length∧cF (kA v) (v.trams.drop s.1) s.1=cF (kA v) v.trams 0) (fun s=>v.trams.length-s.1)
     (fun s=>[(1,.ptr 0 0),(7,.lit (((v.trams.take s.1).map Tram.name).map .str) false (some 1)),(8,.int .i64 s.1)]) (fun s=>[.cells (aB v),.tok 1 s.1 s.2]) ⟨Nat.zero_le _,by simp⟩ (by simp [aB,ints]) ?_ fun s hs=>?_
    ·try simp only [aC,QE,Nat.reduceLT,reduceIte,Nat.reduceEqDiff,Nat.reduceAdd,Nat.reduceLeDiff,Nat.reduceMul,Nat.reduceBEq,aV]
     try simp
    ·obtain ⟨k,ex⟩:=s
     obtain ⟨hk,hb⟩:=hs
     simp only at hk hb
     have hlen:((v.trams.take k).map Tram.name).length=k:=by simp [hk]
     (repeat (first|simp only [↓QA,QB,Nat.reduceLT,reduceIte,Nat.reduceEqDiff,Nat.reduceAdd,Nat.reduceLeDiff,Nat.reduceMul,Nat.reduceBEq,aV,Z1]|refine rd0 rfl ?_))
     refine aG (fun hd=>?_) fun hd=>?_
     ·have hk1:k<v.trams.length:=by simpa using hd
      rw [jF hk1] at hb
      have hw:=bP hk1 hft
      have hap:=fun (τ:St)=>KT (k:=k) (ns:=(v.trams.take k).map Tram.name) (s:=v.trams[k].name) (b:=.cells (aB v)) (ex:=ex) (τ:=τ) hlen (by omega)
      simp only [aK] at hap
      have hset:kA v k v.trams[k]=if fresh v.trams[k].name ((v.trams.take k).map Tram.name)=0 then gP v v.trams[k] else fresh v.trams[k].name ((v.trams.take k).map Tram.name):=rfl
      have hfre:=RG v.trams[k].name ((v.trams.take k).map Tram.name) (h.names _ (List.getElem_mem hk1)) (by rw [hlen];omega)
      have htn:=NU hk1
      obtain ⟨p,hpe⟩:∃ p,v.trams[k]=p:=⟨_,rfl⟩
      rw [hpe] at hset hap hb htn hfre
      obtain ⟨F,hF⟩:∃ F,fresh p.name ((v.trams.take k).map Tram.name)=F:=⟨_,rfl⟩
      rw [hF] at hset hfre
      have htr:=QI v p hst (by omega)
      obtain ⟨E,hE⟩:∃ E,gP v p=E:=⟨_,rfl⟩
      rw [hE] at htr hset
      (repeat (first|simp only [↓QA,QB,Nat.reduceLT,reduceIte,Nat.reduceEqDiff,Nat.reduceAdd,Nat.reduceLeDiff,Nat.reduceMul,Nat.reduceBEq,aV,hk1,hpe]|refine rd0 rfl ?_))
      ((first|refine uI (hfre) (by try simp only [QS,QC,Nat.reduceLT,reduceIte,Nat.reduceEqDiff,Nat.reduceAdd,Nat.reduceLeDiff,Nat.reduceMul,Nat.reduceBEq,aV]) trivial ?_|refine wU (hfre) (by try simp only [QS,QC,Nat.reduceLT,reduceIte,Nat.reduceEqDiff,Nat.reduceAdd,Nat.reduceLeDiff,Nat.reduceMul,Nat.reduceBEq,aV]) trivial ?_);(repeat (first|simp only [↓QA,QB,Nat.reduceLT,reduceIte,Nat.reduceEqDiff,Nat.reduceAdd,Nat.reduceLeDiff,Nat.reduceMul,Nat.reduceBEq,aV,hk1,hpe,hap]|refine rd0 rfl ?_)))
      cases hf:(F==0)
      ·have hf':F≠0:=by simpa using hf
       rw [if_neg hf'] at hset
       rw [hset,if_neg hf'] at hb
       rw [←hb]
       (repeat (first|simp only [↓QA,QB,Nat.reduceLT,reduceIte,Nat.reduceEqDiff,Nat.reduceAdd,Nat.reduceLeDiff,Nat.reduceMul,Nat.reduceBEq,aV,hf]|refine rd0 rfl ?_))
       rfl
      ·have hf':F=0:=by simpa using hf
       rw [if_pos hf'] at hset
       rw [hset] at hb
       (repeat (first|simp only [↓QA,QB,Nat.reduceLT,reduceIte,Nat.reduceEqDiff,Nat.reduceAdd,Nat.reduceLeDiff,Nat.reduceMul,Nat.reduceBEq,aV,hf,hk1,hpe]|refine rd0 rfl ?_))
       ((first|refine aD (htr) rfl dd ?_|refine aE (htr) rfl dd ?_);(repeat (first|simp only [↓QA,QB,Nat.reduceLT,reduceIte,Nat.reduceEqDiff,Nat.reduceAdd,Nat.reduceLeDiff,Nat.reduceMul,Nat.reduceBEq,aV,hk1,hpe]|refine rd0 rfl ?_)))
       cases h9:(E==0)
       ·have h9':E≠0:=by simpa using h9
        rw [if_neg h9'] at hb
        (repeat (first|simp only [↓QA,QB,Nat.reduceLT,reduceIte,Nat.reduceEqDiff,Nat.reduceAdd,Nat.reduceLeDiff,Nat.reduceMul,Nat.reduceBEq,aV,h9]|refine rd0 rfl ?_))
        rw [←hb]
        rfl
       ·have h9':E=0:=by simpa using h9
        rw [if_pos h9'] at hb
        (repeat (first|simp only [↓QA,QB,Nat.reduceLT,reduceIte,Nat.reduceEqDiff,Nat.reduceAdd,Nat.reduceLeDiff,Nat.reduceMul,Nat.reduceBEq,aV,h9,hw]|refine rd0 rfl ?_))
        refine ⟨(k+1,true),⟨by simp only;omega,hb⟩,by simp only;omega,?_⟩
        try simp only [aC,QE,Nat.reduceLT,reduceIte,Nat.reduceEqDiff,Nat.reduceAdd,Nat.reduceLeDiff,Nat.reduceMul,Nat.reduceBEq,aV,htn,hw]
        try simp [aH]
     ·have hk1:k=v.trams.length:=by simp at hd;omega
      rw [j3 hk1] at hb
      rw [←hb,hk1]
      (repeat (first|simp only [↓QA,QB,Nat.reduceLT,reduceIte,Nat.reduceEqDiff,Nat.reduceAdd,Nat.reduceLeDiff,Nat.reduceMul,Nat.reduceBEq,aV]|refine rd0 rfl ?_))
      cases h7:decide ((3:Int)<(v.seen.length:Int))
      case' true =>
       have h7':3<v.seen.length:=by first|(have:=of_decide_eq_false h7;omega)|(have:=of_decide_eq_true h7;omega)
       (repeat (first|simp only [↓QA,QB,Nat.reduceLT,reduceIte,Nat.reduceEqDiff,Nat.reduceAdd,Nat.reduceLeDiff,Nat.reduceMul,Nat.reduceBEq,aV]|refine rd0 rfl ?_))
       simp [pN,h7',mE]
      have h7':¬3<v.seen.length:=by first|(have:=of_decide_eq_false h7;omega)|(have:=of_decide_eq_true h7;omega)
      have hc:pN v=match cF (kP v) v.seen 0 with|some (i,e)=>(4,(i:Int),e)|none=>(0,0,0):=by simp only [pN,h7',if_false];try rfl
      rw [hc]
      have hwl:IntKind.i64.wrap ((v.trams.length:Int)-1)=(v.trams.length:Int)-1:=eA ⟨by omega,by omega⟩
      (repeat (first|simp only [↓QA,QB,Nat.reduceLT,reduceIte,Nat.reduceEqDiff,Nat.reduceAdd,Nat.reduceLeDiff,Nat.reduceMul,Nat.reduceBEq,aV]|refine rd0 rfl ?_))
      refine bT (S:=Nat) 0 (fun k=>k≤v.seen.length∧cF (kP v) (v.seen.drop k) k=cF (kP v) v.seen 0) (fun k=>v.seen.length-k)
       (fun k=>[(1,.ptr 0 0),(10,.int .i64 k)]) (fun _=>[.cells (aB v),.tok 1 v.trams.length ex]) ⟨Nat.zero_le _,by simp⟩ (by simp [aB,ints]) ?_ fun m hm=>?_
      ·try simp only [aC,QE,Nat.reduceLT,reduceIte,Nat.reduceEqDiff,Nat.reduceAdd,Nat.reduceLeDiff,Nat.reduceMul,Nat.reduceBEq,aV]
       try simp
      ·obtain ⟨hm,hbm⟩:=hm
       (repeat (first|simp only [↓QA,QB,Nat.reduceLT,reduceIte,Nat.reduceEqDiff,Nat.reduceAdd,Nat.reduceLeDiff,Nat.reduceMul,Nat.reduceBEq,aV,XT]|refine rd0 rfl ?_))
       refine aG (fun hd3=>?_) fun hd3=>?_
       ·have hm1:m<v.seen.length:=by simpa using hd3
        rw [jF hm1] at hbm
        have hw3:=bP hm1 hfs
        obtain ⟨x,hx⟩:∃ x,v.seen[m]=x:=⟨_,rfl⟩
        rw [hx] at hbm
        have hle:kP v m x=if inR x.tram 0 ((v.trams.length:Int)-1)=false then 4 else if inR x.minute (-1) 400=false then 7 else 0:=rfl
        rw [hle] at hbm
        (repeat (first|simp only [↓QA,QB,Nat.reduceLT,reduceIte,Nat.reduceEqDiff,Nat.reduceAdd,Nat.reduceLeDiff,Nat.reduceMul,Nat.reduceBEq,aV,hm1,hx,hwl]|refine rd0 rfl ?_))
        ((first|refine aD (gG x.tram 0 ((v.trams.length:Int)-1)) rfl dd ?_|refine aE (gG x.tram 0 ((v.trams.length:Int)-1)) rfl dd ?_);(repeat (first|simp only [↓QA,QB,Nat.reduceLT,reduceIte,Nat.reduceEqDiff,Nat.reduceAdd,Nat.reduceLeDiff,Nat.reduceMul,Nat.reduceBEq,aV,hm1,hx,hwl]|refine rd0 rfl ?_)))
        cases hi:inR x.tram 0 ((v.trams.length:Int)-1)
        ·rw [hi] at hbm
         (repeat (first|simp only [↓QA,QB,Nat.reduceLT,reduceIte,Nat.reduceEqDiff,Nat.reduceAdd,Nat.reduceLeDiff,Nat.reduceMul,Nat.reduceBEq,aV,hm1]|refine rd0 rfl ?_))
         rw [←hbm]
         rfl
        ·rw [hi] at hbm
         simp only [Bool.true_eq_false,if_false] at hbm
         (repeat (first|simp only [↓QA,QB,Nat.reduceLT,reduceIte,Nat.reduceEqDiff,Nat.reduceAdd,Nat.reduceLeDiff,Nat.reduceMul,Nat.reduceBEq,aV,hm1,hx]|refine rd0 rfl ?_))
         ((first|refine aD (gG x.minute (-1) 400) rfl dd ?_|refine aE (gG x.minute (-1) 400) rfl dd ?_);(repeat (first|simp only [↓QA,QB,Nat.reduceLT,reduceIte,Nat.reduceEqDiff,Nat.reduceAdd,Nat.reduceLeDiff,Nat.reduceMul,Nat.reduceBEq,aV,hm1,hx]|refine rd0 rfl ?_)))
         cases hi2:inR x.minute (-1) 400
         ·rw [hi2] at hbm
          (repeat (first|simp only [↓QA,QB,Nat.reduceLT,reduceIte,Nat.reduceEqDiff,Nat.reduceAdd,Nat.reduceLeDiff,Nat.reduceMul,Nat.reduceBEq,aV,hm1]|refine rd0 rfl ?_))
          rw [←hbm]
          simp [mE]
         ·rw [hi2] at hbm
          (repeat (first|simp only [↓QA,QB,Nat.reduceLT,reduceIte,Nat.reduceEqDiff,Nat.reduceAdd,Nat.reduceLeDiff,Nat.reduceMul,Nat.reduceBEq,aV,hm1,hw3]|refine rd0 rfl ?_))
          refine ⟨m+1,⟨by omega,by rw [←hbm];rfl⟩,by omega,?_⟩
          try simp only [aC,QE,Nat.reduceLT,reduceIte,Nat.reduceEqDiff,Nat.reduceAdd,Nat.reduceLeDiff,Nat.reduceMul,Nat.reduceBEq,aV,hw3]
          try simp
       ·have hm1:m=v.seen.length:=by simp at hd3;omega
        rw [j3 hm1] at hbm
        rw [←hbm]
        (repeat (first|simp only [↓QA,QB,Nat.reduceLT,reduceIte,Nat.reduceEqDiff,Nat.reduceAdd,Nat.reduceLeDiff,Nat.reduceMul,Nat.reduceBEq,aV]|refine rd0 rfl ?_))
        rfl
def gB (v:Net):List Int→Int→List Int→Option Int
 |[],s,_=>some s
 |r::l,s,met=>if s=0∨dE (eF v r) s<0∨met.contains (dE (eF v r) s)=true then none else gB v l (dE (eF v r) s) (met++[dE (eF v r) s])
def jG (v:Net) (s:Int) (p:List Int):Bool:=match gB v p s [s] with|some o=>o==0&&!p.isEmpty|none=>false
def fE (v:Net) (s:Int) (p:List Int):Bool:=match gB v p s [s] with|some o=>!(o==0)|none=>false
theorem wX (v:Net):∀ (l:List Int) (s:Int) (met:List Int),s≠0→kN v l s met=(match gB v l s met with|some o=>o==0|none=>false)
 |[],s,met,h=>by simp [kN,gB]
 |r::l,s,met,h=>by
  simp only [kN,gB]
  obtain ⟨o,ho⟩:∃ o,dE (eF v r) s=o:=⟨_,rfl⟩
  rw [ho]
  by_cases h1:o<0
  ·simp [h1]
  ·by_cases h2:met.contains o=true
   ·rw [if_pos (.inr (.inl h2)),if_pos (.inr (.inr h2))]
   ·by_cases h3:o=0
    ·subst h3
     rw [if_neg (show ¬(s=0∨(0:Int)<0∨met.contains 0=true) from fun q=>by rcases q with q|q|q;exact h q;omega;exact h2 q)]
     cases l with
     |nil=>rw [if_neg (by simp only [ne_eq,not_true_eq_false,and_false,or_false];exact fun q=>by rcases q with q|q;omega;exact h2 q)];simp [kN,gB]
     |cons x l=>rw [if_pos (.inr (.inr ⟨rfl,by simp⟩))];simp [gB]
    ·rw [if_neg (fun q=>by rcases q with q|q|q;exact h1 q;exact h2 q;exact h3 q.1),if_neg (fun q=>by rcases q with q|q|q;exact h q;exact h1 q;exact h2 q)]
     exact wX v l o _ h3
theorem zS {v:Net} {s:Int} {p:List Int} (h:1≤p.length∧p.length≤4):fP v s p=jG v s p:=by
 have h1:inR p.length 1 4=true:=eS.2 (by omega)
 have he:p.isEmpty=false:=by cases p<;>simp at h ⊢
 rw [fP,jG,he]
 by_cases hs:s=0
 ·rw [if_pos (.inr hs),hs]
  cases p with
  |nil=>simp at he
  |cons x l=>simp [gB]
 ·rw [if_neg (by simp [h1,hs]),wX v p s [s] hs]
  cases gB v p s [s]<;>simp
theorem BK (v:Net) (r:Int) (t:List Int):∀ (l:List Int) (s:Int) (met:List Int) (x:Int),gB v (l++r::t) s met=some x→∃ o,gB v l s met=some o∧o≠0
 |[],s,met,x,h=>by
  simp only [List.nil_append,gB] at h
  split at h
  ·cases h
  ·rename_i hn
   exact ⟨s,rfl,fun e=>hn (.inl e)⟩
 |y::l,s,met,x,h=>by
  simp only [List.cons_append,gB] at h ⊢
  split at h
  ·cases h
  ·rename_i hn
   rw [if_neg hn]
   exact BK v r t l _ _ x h
theorem H4 {r:Rail} {s:Int} (h:¬dE r s<0):(s=r.a∧dE r s=r.b)∨(s=r.b∧dE r s=r.a):=by
 unfold dE at h ⊢
 split
 ·rename_i h1;exact .inl ⟨h1,rfl⟩
 ·rename_i h1
  rw [if_neg h1] at h
  split
  ·rename_i h2;exact .inr ⟨h2,rfl⟩
  ·rename_i h2
   rw [if_neg h2] at h
   omega
theorem GO (v:Net) (r:Int):∀ (l:List Int) (s:Int) (met:List Int),(eF v r).a∈met→(eF v r).b∈met→r∈l→gB v l s met=none
 |[],s,met,_,_,h=>by cases h
 |y::l,s,met,ha,hb,h=>by
  simp only [gB]
  split
  ·rfl
  ·rename_i hn
   rcases List.mem_cons.1 h with rfl|h
   ·exfalso
    rw [not_or,not_or] at hn
    obtain ⟨h1,h2,h3⟩:=hn
    apply h3
    rw [List.contains_iff_mem]
    rcases H4 h2 with ⟨_,e⟩|⟨_,e⟩<;>rw [e]<;>assumption
   ·exact GO v r l _ _ (List.mem_append_left _ ha) (List.mem_append_left _ hb) h
theorem v3 (v:Net):∀ (l:List Int) (s:Int) (met:List Int) (x:Int),s∈met→gB v l s met=some x→l.Nodup
 |[],s,met,x,_,_=>List.nodup_nil
 |y::l,s,met,x,hs,h=>by
  simp only [gB] at h
  split at h
  ·cases h
  ·rename_i hn
   rw [not_or,not_or] at hn
   obtain ⟨h1,h2,h3⟩:=hn
   have hm:dE (eF v y) s∈met++[dE (eF v y) s]:=by simp
   have hs':s∈met++[dE (eF v y) s]:=List.mem_append_left _ hs
   refine List.nodup_cons.2 ⟨fun hy=>?_,v3 v l _ _ x hm h⟩
   have hab:(eF v y).a∈met++[dE (eF v y) s]∧(eF v y).b∈met++[dE (eF v y) s]:=by
    rcases H4 h2 with ⟨e1,e2⟩|⟨e1,e2⟩
    ·rw [←e1,←e2];exact ⟨hs',hm⟩
    ·rw [←e1,←e2];exact ⟨hm,hs'⟩
   rw [GO v y l _ _ hab.1 hab.2 hy] at h
   cases h
def qN (b:Int):List Int:=if b<0 then [] else [b]
def wE (v:Net) (b r:Int):Bool:=!(r==b)&&!decide ((eF v r).shut=1)
def GS (v:Net) (b:Int) (l:List Int):List (List Int):=((aR 0 v.rails.length).filter (wE v b)).map fun r=>l++[r]
def u5 (v:Net) (s b:Int):Nat→List (List Int)
 |0=>[[]]
 |k+1=>(u5 v s b k).flatMap fun l=>(GS v b l).filter (fE v s)
def FL (v:Net) (s b:Int):Nat→List (List Int)
 |0=>[]
 |k+1=>FL v s b k++(u5 v s b k).flatMap fun l=>(GS v b l).filter (jG v s)
theorem uU (v:Net) (but:List Int):∀ k,∀ l∈gD v but k,l.length=k
 |0,l,h=>by simp [gD] at h;simp [h]
 |k+1,l,h=>by
  simp only [gD,List.mem_flatMap,sK,List.mem_map] at h
  obtain ⟨a,ha,r,_,rfl⟩:=h
  simp [uU v but k a ha]
theorem nJ {α β:Type} (p:β→Bool) (f:α→List β):∀ l:List α,(l.flatMap f).filter p=l.flatMap fun x=>(f x).filter p
 |[]=>rfl
 |x::l=>by rw [List.flatMap_cons,List.filter_append,nJ p f l,List.flatMap_cons]
theorem nI {α β:Type} (p:α→Bool) (f:α→List β):∀ l:List α,(l.filter p).flatMap f=l.flatMap fun x=>if p x=true then f x else []
 |[]=>rfl
 |x::l=>by
  rw [List.flatMap_cons,List.filter_cons,←nI p f l]
  split<;>simp
theorem CM {v:Net} {s b:Int} {q:List Int→Bool} {l:List Int} (h:∀ r,q (l++[r])=true→fE v s l=true∧r∉l):(sK v (qN b) l).filter q=if fE v s l=true then (GS v b l).filter q else []:=by
 have e:(sK v (qN b) l).filter q=(GS v b l).filter q:=by
  simp only [sK,GS,List.filter_map,List.filter_filter]
  congr 1
  refine List.filter_congr fun r hr=>?_
  have hr0:=(dM _ _ _).1 hr
  simp only [Function.comp_def]
  cases hq:q (l++[r]) with
  |false=>simp
  |true =>
   have hc:l.contains r=false:=by rw [Bool.eq_false_iff,Ne,List.contains_iff_mem];exact (h r hq).2
   have hb:(qN b).contains r=(r==b):=by
    unfold qN
    split
    ·rw [Bool.eq_iff_iff];simp;omega
    ·rw [Bool.eq_iff_iff];simp
   simp only [sR,wE,hc,hb,Bool.true_and,Bool.not_false,Bool.and_true]
   rw [Bool.and_comm]
 rw [e]
 split
 ·rfl
 ·rename_i hb
  rw [List.filter_eq_nil_iff]
  intro x hx
  simp only [GS,List.mem_map] at hx
  obtain ⟨r,_,rfl⟩:=hx
  intro hq
  exact hb (h r hq).1
theorem I9 {v:Net} {s:Int} {l:List Int} {r:Int} (h:fE v s (l++[r])=true):fE v s l=true∧r∉l:=by
 unfold fE at h
 split at h
 ·rename_i o ho
  obtain ⟨x,hx,h0⟩:=BK v r [] l s [s] o ho
  refine ⟨by simp [fE,hx,h0],?_⟩
  have:=v3 v _ s [s] o (by simp) ho
  rw [List.nodup_append] at this
  intro hm
  exact this.2.2 r hm r (by simp) rfl
 ·cases h
theorem OK {v:Net} {s:Int} {l:List Int} {r:Int} (h:jG v s (l++[r])=true):fE v s l=true∧r∉l:=by
 unfold jG at h
 split at h
 ·rename_i o ho
  obtain ⟨x,hx,h0⟩:=BK v r [] l s [s] o ho
  refine ⟨by simp [fE,hx,h0],?_⟩
  have:=v3 v _ s [s] o (by simp) ho
  rw [List.nodup_append] at this
  intro hm
  exact this.2.2 r hm r (by simp) rfl
 ·cases h
theorem v5 {v:Net} {s b:Int} (hs:s≠0):∀ k,u5 v s b k=(gD v (qN b) k).filter (fE v s)
 |0=>by
  have h:fE v s []=true:=by simp [fE,gB,hs]
  simp only [u5,gD,List.filter_cons,h,if_true,List.filter_nil]
 |k+1=>by
  simp only [u5,gD]
  rw [v5 hs k,nJ,nI]
  congr 1
  funext l
  exact (CM fun r=>I9).symm
theorem FM {v:Net} {s b:Int} (hs:s≠0):∀ k,k≤4→FL v s b k=fD v s (qN b) k
 |0,_=>rfl
 |k+1,hk=>by
  simp only [FL,fD,gD]
  rw [FM hs k (by omega),v5 hs k,nI]
  congr 1
  have e:((gD v (qN b) k).flatMap (sK v (qN b))).filter (fP v s)=((gD v (qN b) k).flatMap (sK v (qN b))).filter (jG v s):=by
   refine List.filter_congr fun l hl=>?_
   have:=uU v (qN b) (k+1) l hl
   exact zS (by omega)
  rw [e,nJ]
  congr 1
  funext l
  exact (CM fun r=>OK).symm
theorem NY (v:Net) (but:List Int):dQ v 0 but=[]:=by
 have key:∀ k,fD v 0 but k=[]:=by
  intro k
  induction k with
  |zero=>rfl
  |succ k ih =>
   rw [fD,ih,List.nil_append,List.filter_eq_nil_iff]
   intro l _
   simp [fP]
 exact key 4
theorem aFS (v:Net) {s b:Int} (hs:s≠0):FL v s b 4=dQ v s (qN b):=FM hs 4 (Nat.le_refl _)
def vF (ss:List Stay) (rail m s t:Int):Prop:=s≤t∧ss.any (iW rail t m)=false∧∀ y,s≤y→y<t→ss.any (iW rail y m)=true
theorem EZ {ss:List Stay} {rail m s t u:Int} (h:vF ss rail m s t) (k:vF ss rail m s u):t=u:=by
 obtain ⟨h1,h2,h3⟩:=h
 obtain ⟨k1,k2,k3⟩:=k
 by_cases a:t<u
 ·rw [k3 t h1 a] at h2;cases h2
 ·by_cases b:u<t
  ·rw [h3 u k1 b] at k2;cases k2
  ·omega
theorem yQ {ss:List Stay} {rail m s B:Int} (hB:∀ x∈ss,x.til≤B) (h:ss.any (iW rail s m)=true):s<B:=by
 rw [List.any_eq_true] at h
 obtain ⟨x,hx,hc⟩:=h
 have:=hB x hx
 simp [iW] at hc
 omega
theorem EU {ss:List Stay} {rail m B:Int} (hB:∀ x∈ss,x.til≤B):∀ (k:Nat) (s:Int),B≤s+k→vF ss rail m s (vN ss rail m k s)
 |0,s,h=>⟨by simp [vN],by
   rw [vN,Bool.eq_false_iff]
   intro hc
   have:=yQ hB hc
   omega,fun y h1 h2=>by simp [vN] at h2;omega⟩
 |k+1,s,h=>by
  rw [vN]
  split
  ·rename_i hc
   obtain ⟨h1,h2,h3⟩:=EU hB k (s+1) (by omega)
   refine ⟨by omega,h2,fun y q1 q2=>?_⟩
   by_cases e:y=s
   ·subst e;exact hc
   ·exact h3 y (by omega) q2
  ·rename_i hc
   exact ⟨Int.le_refl _,by simpa using hc,fun y q1 q2=>by omega⟩
theorem yB {ss:List Stay} {rail m B s:Int} (hB:∀ x∈ss,x.til≤B) (h:B≤s+1000):vF ss rail m s (kH ss rail s m):=EU hB 1000 s h
theorem V6 {ss:List Stay} {rail m B s t:Int} (hB:∀ x∈ss,x.til≤B) (h:vF ss rail m s t) (hs:s≤B):t≤B:=by
 by_cases e:s=t
 ·omega
 ·have h1:=h.1
  have:=yQ hB (h.2.2 (t-1) (by omega) (by omega))
  omega
theorem KV {rail m s:Int} {x:Stay} (h:iW rail s m x=true) {y:Int} (h1:s≤y) (h2:y<x.til):iW rail y m x=true:=by
 simp [iW] at h ⊢
 omega
theorem wQ {rail m s:Int} {x:Stay} (h:iW rail s m x=true):s<x.til:=by
 simp [iW] at h
 omega
def qY (ss:List Stay) (rail m s t:Int):Prop:=s≤t∧∀ y,s≤y→y<t→ss.any (iW rail y m)=true
theorem DB (ss:List Stay) (rail m s:Int):qY ss rail m s s:=⟨Int.le_refl _,fun y h1 h2=>by omega⟩
theorem D5 {ss:List Stay} {rail m s t u:Int} {x:Stay} (h:qY ss rail m s t) (hx:x∈ss) (ht:t≤u) (hc:iW rail u m x=true) (hm:∀ y,t≤y→y<u→ss.any (iW rail y m)=true):qY ss rail m s x.til:=by
 have:=wQ hc
 refine ⟨by have:=h.1;omega,fun y h1 h2=>?_⟩
 by_cases a:y<t
 ·exact h.2 y h1 a
 ·by_cases b:y<u
  ·exact hm y (by omega) b
  ·rw [List.any_eq_true]
   exact ⟨x,hx,KV hc (by omega) h2⟩
theorem EA {ss:List Stay} {rail m s t:Int} (h:qY ss rail m s t) (hf:ss.any (iW rail t m)=false):vF ss rail m s t:=⟨h.1,hf,h.2⟩
theorem zY {ss:List Stay} {rail m B s t:Int} (hB:∀ x∈ss,x.til≤B) (h:qY ss rail m s t) (hs:s≤B):t≤B:=by
 by_cases e:s=t
 ·omega
 ·have h1:=h.1
  have:=yQ hB (h.2 (t-1) (by omega) (by omega))
  omega
structure RunOk (v:Net) (ps:List (List Int)):Prop where
 len:ps.length=v.trams.length
 few:∀ p∈ps,p.length≤4
 rails:∀ p∈ps,∀ r∈p,0≤r∧r<v.rails.length
def A4 (v:Net) (m:Int→Int):Prop:=∀ r:Int,0≤r→r<v.rails.length→0≤m r∧m r≤20
structure StaysOk (ss:List Stay) (n:Nat):Prop where
 len:ss.length≤n
 til:∀ x∈ss,x.til≤60+20*n
 frm:∀ x∈ss,0≤x.frm
theorem HT {ss:List Stay} {n k:Nat} (h:StaysOk ss n) (hk:n≤k):StaysOk ss k:=⟨by have:=h.len;omega,fun x hx=>by have:=h.til x hx;omega,h.frm⟩
theorem F4 {ss:List Stay} {n:Nat} (h:StaysOk ss n) (hn:n≤40) {rail m s:Int} (h0:0≤s) (hs:s≤60+20*n):vF ss rail m s (kH ss rail s m)∧s≤kH ss rail s m∧kH ss rail s m≤60+20*n:=by
 have h1:=yB (rail:=rail) (m:=m) h.til (show (60:Int)+20*n≤s+1000 by omega)
 exact ⟨h1,h1.1,V6 h.til h1 hs⟩
theorem PG {m:Int→Int} {i:Int}:∀ (l:List Int) (a:Int) (ss:List Stay) (n:Nat),StaysOk ss n→n+l.length≤40→0≤a→a≤60+20*n→(∀ r∈l,0≤m r∧m r≤20) →
  StaysOk (nQ m i l a ss).1 (n+l.length)∧a≤(nQ m i l a ss).2∧(nQ m i l a ss).2≤60+20*(n+l.length:Nat)
 |[],a,ss,n,h,hn,h0,h1,hm=>by simp only [nQ,List.length_nil,Nat.add_zero];exact ⟨h,Int.le_refl _,h1⟩
 |r::l,a,ss,n,h,hn,h0,h1,hm=>by
  simp only [List.length_cons] at hn ⊢
  obtain ⟨f1,f2,f3⟩:=F4 (rail:=r) (m:=m r) h (by omega) h0 h1
  have hmr:=hm r (by simp)
  simp only [nQ]
  obtain ⟨q1,q2,q3⟩:=PG (m:=m) (i:=i) l (kH ss r a (m r)+m r) (ss++[⟨i,r,kH ss r a (m r),kH ss r a (m r)+m r⟩]) (n+1) ⟨by have:=h.len;simp;omega,fun x hx=>by
   rcases List.mem_append.1 hx with hx|hx
   ·have:=h.til x hx;omega
   ·simp only [List.mem_singleton] at hx;subst hx;simp only;omega,fun x hx=>by
   rcases List.mem_append.1 hx with hx|hx
   ·exact h.frm x hx
   ·simp only [List.mem_singleton] at hx;subst hx;simp only;omega⟩ (by omega) (by omega) (by omega) (fun x hx=>hm x (by simp [hx]))
  rw [show n+(l.length+1)=n+1+l.length by omega]
  exact ⟨q1,by omega,q3⟩
theorem xX {v:Net} {i:Nat} (h:i<v.trams.length):oU v i=v.trams[i].leaves:=by simp [oU,h]
theorem TZ {m:Int→Int} {i a:Int} {l:List Int} {ss:List Stay} {n:Nat} (h:StaysOk ss n) (hn:n+l.length≤40) (h0:0≤a) (h1:a≤60) (hm:∀ r∈l,0≤m r∧m r≤20) :
  StaysOk (nM m i a l ss).1 (n+l.length)∧-1≤(nM m i a l ss).2∧(nM m i a l ss).2≤60+20*(n+l.length:Nat):=by
 unfold nM
 split
 ·exact ⟨HT h (by omega),by simp only;omega,by simp only;omega⟩
 ·obtain ⟨q1,q2,q3⟩:=PG (i:=i) l a ss n h hn h0 (by omega) hm
  exact ⟨q1,by omega,q3⟩
theorem rS (v:Net) (m:Int→Int) (ps:List (List Int)):∀ k,(eL v m ps k).2.length=k
 |0=>rfl
 |k+1=>by simp [eL,rS v m ps k]
theorem BT {v:Net} {ps:List (List Int)} (h:RunOk v ps) {i:Nat} (hi:i<v.trams.length):eO ps i∈ps:=by
 have:i<ps.length:=by rw [h.len];exact hi
 simp [eO,this]
theorem JC {v:Net} (hv:Vd v) {m:Int→Int} (hm:A4 v m) {ps:List (List Int)} (hp:RunOk v ps):∀ k,k≤v.trams.length→StaysOk (eL v m ps k).1 (4*k)∧∀ c∈(eL v m ps k).2,-1≤c∧c≤300
 |0,_=>⟨⟨by simp [eL],by simp [eL],by simp [eL]⟩,by simp [eL]⟩
 |k+1,hk=>by
  have hn:=hv.ntr
  obtain ⟨h1,h2⟩:=JC hv hm hp k (by omega)
  have ht:=wK hv (show k<v.trams.length by omega)
  have hpm:=BT hp (show k<v.trams.length by omega)
  have hpl:=hp.few _ hpm
  have h60:=ht.leaves
  rw [←xX (show k<v.trams.length by omega)] at h60
  obtain ⟨q1,q2,q3⟩:=TZ (m:=m) (i:=k) (a:=oU v k) (l:=eO ps k) h1 (by omega) h60.1 h60.2 (fun r hr=>by
   have:=hp.rails _ hpm r hr
   exact hm r this.1 this.2)
  simp only [eL]
  refine ⟨HT q1 (by omega),fun c hc=>?_⟩
  rcases List.mem_append.1 hc with hc|hc
  ·exact h2 c hc
  ·simp only [List.mem_singleton] at hc
   subst hc
   omega
theorem SR {v:Net} (hv:Vd v):RunOk v (jM v):=by
 have key:∀ p∈jM v,p.length≤4∧∀ r∈p,0≤r∧r<v.rails.length:=by
  intro p hp
  simp only [jM,List.mem_map] at hp
  obtain ⟨t,ht,rfl⟩:=hp
  obtain ⟨i,hi,rfl⟩:=List.getElem_of_mem ht
  have:=wK hv hi
  exact ⟨this.len.2,this.path⟩
 exact ⟨by simp [jM],fun p hp=>(key p hp).1,fun p hp=>(key p hp).2⟩
theorem BL:∀ (l:List Int) (s:Span),s.lo≤s.hi→(l.foldl kF s).lo≤s.lo∧s.hi≤(l.foldl kF s).hi∧(∀ x∈l,(l.foldl kF s).lo≤x∧x≤(l.foldl kF s).hi)∧((l.foldl kF s).lo=s.lo∨(l.foldl kF s).lo∈l)∧((l.foldl kF s).hi=s.hi∨(l.foldl kF s).hi∈l)
 |[],s,h=>⟨Int.le_refl _,Int.le_refl _,fun x hx=>by simp at hx,.inl rfl,.inl rfl⟩
 |y::l,s,h=>by
  have hj:(kF s y).lo≤(kF s y).hi:=by simp only [kF];omega
  obtain ⟨a,b,c,d,e⟩:=BL l (kF s y) hj
  simp only [List.foldl_cons]
  have h1:(kF s y).lo≤s.lo∧(kF s y).lo≤y∧((kF s y).lo=s.lo∨(kF s y).lo=y):=by simp only [kF];omega
  have h2:s.hi≤(kF s y).hi∧y≤(kF s y).hi∧((kF s y).hi=s.hi∨(kF s y).hi=y):=by simp only [kF];omega
  refine ⟨by omega,by omega,fun x hx=>?_,?_,?_⟩
  ·rcases List.mem_cons.1 hx with rfl|hx
   ·omega
   ·exact c x hx
  ·rcases d with d|d
   ·rcases h1.2.2 with h|h
    ·left;omega
    ·right;rw [d,h];simp
   ·right;simp [d]
  ·rcases e with e|e
   ·rcases h2.2.2 with h|h
    ·left;omega
    ·right;rw [e,h];simp
   ·right;simp [e]
theorem rO {l:List Int} (h:l≠[]):(eQ l).lo∈l∧(eQ l).hi∈l∧∀ x∈l,(eQ l).lo≤x∧x≤(eQ l).hi:=by
 cases l with
 |nil=>exact absurd rfl h
 |cons x l =>
  obtain ⟨a,b,c,d,e⟩:=BL l ⟨x,x⟩ (Int.le_refl _)
  simp only [eQ]
  refine ⟨?_,?_,fun y hy=>?_⟩
  ·rcases d with d|d
   ·rw [d];simp
   ·simp [d]
  ·rcases e with e|e
   ·rw [e];simp
   ·simp [e]
  ·rcases List.mem_cons.1 hy with rfl|hy
   ·exact ⟨a,b⟩
   ·exact c y hy
theorem EQ {l k:List Int} (hl:l≠[]) (h:∀ x∈l,x∈k):(eQ k).lo≤(eQ l).lo∧(eQ l).hi≤(eQ k).hi:=by
 have hk:k≠[]:=by
  intro e;subst e
  exact absurd (h _ (rO hl).1) (by simp)
 have a:=rO hl
 have b:=rO hk
 exact ⟨(b.2.2 _ (h _ a.1)).1,(b.2.2 _ (h _ a.2.1)).2⟩
theorem SO {l k:List Int} (h:∀ x,x∈l↔x∈k):eQ l=eQ k:=by
 by_cases hl:l=[]
 ·subst hl
  have:k=[]:=by
   cases k with
   |nil=>rfl
   |cons y k=>exact absurd ((h y).2 (by simp)) (by simp)
  rw [this]
 ·have hk:k≠[]:=by
   intro e;subst e
   exact absurd ((h _).1 (rO hl).1) (by simp)
  have a:=EQ hl fun x hx=>(h x).1 hx
  have b:=EQ hk fun x hx=>(h x).2 hx
  obtain ⟨p,q⟩:(eQ l).lo=(eQ k).lo∧(eQ l).hi=(eQ k).hi:=⟨by omega,by omega⟩
  generalize eQ l=x at *
  generalize eQ k=y at *
  cases x;cases y;simp only at p q;rw [p,q]
theorem B3 {α:Type} {p:α→Bool} {l:List α}:(l.filter p).length=l.length↔∀ x∈l,p x=true:=by
 rw [List.length_filter_eq_length_iff]
theorem sX {α:Type} {p:α→Bool} {l:List α}:eC (l.filter p).length l.length=1↔∀ x∈l,p x=true:=by
 rw [←B3]
 unfold eC
 split
 ·rename_i h;simp [h]
 ·rename_i h
  split
  ·simp [h]
  ·simp [h]
theorem sV {α:Type} {p:α→Bool} {l:List α}:eC (l.filter p).length l.length=2↔l≠[]∧∀ x∈l,p x=false:=by
 unfold eC
 split
 ·rename_i h
  simp only [show ¬(1:Int)=2 by omega,false_iff]
  rintro ⟨h1,h2⟩
  rw [B3] at h
  cases l with
  |nil=>exact h1 rfl
  |cons x l =>
   have a:=h x (by simp)
   have b:=h2 x (by simp)
   rw [a] at b;cases b
 ·rename_i h
  split
  ·rename_i h0
   simp only [true_iff]
   refine ⟨fun e=>?_,fun x hx=>?_⟩
   ·subst e;simp at h
   ·have:=List.eq_nil_of_length_eq_zero h0
    rw [List.filter_eq_nil_iff] at this
    simpa using this x hx
  ·rename_i h0
   simp only [show ¬(0:Int)=2 by omega,false_iff]
   rintro ⟨h1,h2⟩
   apply h0
   rw [List.length_eq_zero_iff,List.filter_eq_nil_iff]
   intro x hx
   simp [h2 x hx]
theorem pO (a b:Nat):eC a b=0∨eC a b=1∨eC a b=2:=by
 unfold eC;split
 ·simp
 ·split<;>simp
theorem KH {α β:Type} {p:α→Bool} {q:β→Bool} {l:List α} {k:List β} (h1:∀ x∈l,∃ y∈k,q y=p x) (h2:∀ y∈k,∃ x∈l,p x=q y):eC (l.filter p).length l.length=eC (k.filter q).length k.length:=by
 have a:eC (l.filter p).length l.length=1↔eC (k.filter q).length k.length=1:=by
  rw [sX,sX]
  constructor
  ·intro h y hy;obtain ⟨x,hx,e⟩:=h2 y hy;rw [←e];exact h x hx
  ·intro h x hx;obtain ⟨y,hy,e⟩:=h1 x hx;rw [←e];exact h y hy
 have b:eC (l.filter p).length l.length=2↔eC (k.filter q).length k.length=2:=by
  rw [sV,sV]
  constructor
  ·rintro ⟨hn,h⟩
   refine ⟨fun e=>?_,fun y hy=>?_⟩
   ·subst e
    obtain ⟨x,hx⟩:=List.exists_mem_of_ne_nil l hn
    obtain ⟨y,hy,_⟩:=h1 x hx
    simp at hy
   ·obtain ⟨x,hx,e⟩:=h2 y hy;rw [←e];exact h x hx
  ·rintro ⟨hn,h⟩
   refine ⟨fun e=>?_,fun x hx=>?_⟩
   ·subst e
    obtain ⟨y,hy⟩:=List.exists_mem_of_ne_nil k hn
    obtain ⟨x,hx,_⟩:=h2 y hy
    simp at hx
   ·obtain ⟨y,hy,e⟩:=h1 x hx;rw [←e];exact h y hy
 rcases pO (l.filter p).length l.length with h|h|h<;>rcases pO (k.filter q).length k.length with h'|h'|h'<;>simp_all
def chP (r:Rail):List Int:=(if r.shut=0 then [] else [0])++(if r.shut=1 then [] else BP r.mins)
def gE:List Rail→List Int→List (List Int)
 |[],l=>[l]
 |r::rs,l=>(chP r).flatMap fun n=>gE rs (l++[n])
def rlI (c:List Int) (r:Int):Int:=(c[r.toNat]?).getD 0
def tA (s:State):List Int:=(s.closed.zip s.mins).map fun x=>if x.1=true then 0 else x.2
theorem KW {s:State} (h:s.closed.length=s.mins.length):eff s=rlI (tA s):=by
 funext r
 simp only [eff,rlI,tA,List.getElem?_map,List.getElem?_zip_eq_some,List.zip]
 obtain ⟨i,hi⟩:∃ i,r.toNat=i:=⟨_,rfl⟩
 rw [hi]
 by_cases hl:i<s.closed.length
 ·have hm:i<s.mins.length:=by omega
  have e:(List.zipWith Prod.mk s.closed s.mins)[i]? = some (s.closed[i],s.mins[i]):=by
   rw [List.getElem?_zipWith];simp [hl,hm]
  rw [e]
  simp [hl,hm]
 ·have hm:¬i<s.mins.length:=by omega
  have e:(List.zipWith Prod.mk s.closed s.mins)[i]? = none:=by
   rw [List.getElem?_zipWith];simp [show s.closed.length≤i by omega]
  rw [e]
  simp [show s.closed.length≤i by omega,show s.mins.length≤i by omega]
theorem oY {s:Span} {x:Int}:x∈BP s↔s.lo≤x∧x≤s.hi:=by
 rw [BP,dM];omega
theorem AY {l:List Int} {x:Int} {k:Nat} (h:l.length=k):((l++[x])[k]?).getD 0=x:=by subst h;simp
def RJ (rs:List Rail) (k:Nat) (c:List Int):Prop:=c.length=k∧∀ i (h:i<k) (hr:i<rs.length),(c[i]?).getD 0∈chP rs[i]
theorem yF (s:State) (h:s.closed.length=s.mins.length) (c:Bool) (m:Int):tA ⟨s.closed++[c],s.mins++[m]⟩=tA s++[if c=true then 0 else m]:=by
 simp only [tA,List.zip]
 rw [List.zipWith_append h]
 simp
theorem vS {rs:List Rail}:∀ k,k≤rs.length→∀ s∈nW rs k,s.closed.length=k∧s.mins.length=k∧RJ rs k (tA s)
 |0,_,s,h=>by
  simp [nW] at h
  subst h
  exact ⟨rfl,rfl,rfl,fun i h=>by omega⟩
 |k+1,hk,s,h=>by
  have hk1:k<rs.length:=by omega
  simp only [nW,List.getElem?_eq_getElem hk1,List.mem_flatMap,zW,List.mem_map,List.mem_filter] at h
  obtain ⟨s0,hs0,m,hm,c,⟨_,hc⟩,rfl⟩:=h
  obtain ⟨h1,h2,h3,h4⟩:=vS k (by omega) s0 hs0
  rw [yF s0 (by omega)]
  refine ⟨by simp [h1],by simp [h2],by simp [h3],fun i hi hr=>?_⟩
  by_cases e:i=k
  ·subst e
   rw [AY h3]
   simp only [chP,List.mem_append]
   simp only [uW,Bool.not_eq_true',Bool.or_eq_false_iff,Bool.and_eq_false_iff,decide_eq_false_iff_not] at hc
   cases c
   ·simp only [Bool.not_false,false_or,Bool.true_eq_false] at hc
    simp only [Bool.false_eq_true,if_false]
    exact .inr (by rw [if_neg hc.2];exact hm)
   ·simp only [Bool.true_eq_false,false_or] at hc
    simp only [if_true]
    exact .inl (by rw [if_neg hc.1];simp)
  ·rw [List.getElem?_append_left (by omega)]
   exact h4 i (by omega) hr
theorem RZ {rs:List Rail} (hr:∀ r∈rs,r.mins.lo≤r.mins.hi∧1≤r.mins.lo):∀ k,k≤rs.length→∀ c,RJ rs k c→∃ s∈nW rs k,tA s=c
 |0,_,c,h=>⟨⟨[],[]⟩,by simp [nW],by have:=h.1;rw [List.length_eq_zero_iff.1 this];rfl⟩
 |k+1,hk,c,h=>by
  have hk1:k<rs.length:=by omega
  obtain ⟨hl,hc⟩:=h
  obtain ⟨d,x,rfl⟩:∃ d x,c=d++[x]:=by
   rcases List.eq_nil_or_concat c with rfl|⟨d,x,rfl⟩
   ·simp at hl
   ·exact ⟨d,x,by simp⟩
  have hd:d.length=k:=by simpa using hl
  obtain ⟨s,hs,he⟩:=RZ hr k (by omega) d ⟨hd,fun i hi hri=>by
   have:=hc i (by omega) hri
   rwa [List.getElem?_append_left (by omega)] at this⟩
  have hsl:=vS k (by omega) s hs
  have hx:=hc k (by omega) hk1
  rw [AY hd] at hx
  simp only [chP,List.mem_append] at hx
  have hrk:=hr _ (List.getElem_mem hk1)
  simp only [nW,List.getElem?_eq_getElem hk1]
  rcases hx with hx|hx
  ·split at hx
   ·cases hx
   ·rename_i h0
    simp only [List.mem_singleton] at hx
    subst hx
    refine ⟨⟨s.closed++[true],s.mins++[rs[k].mins.lo]⟩,?_,by rw [yF s (by omega),he];simp⟩
    simp only [List.mem_flatMap,zW,List.mem_map,List.mem_filter]
    exact ⟨s,hs,rs[k].mins.lo,oY.2 ⟨Int.le_refl _,hrk.1⟩,true,⟨by simp,by simp [uW,h0]⟩,rfl⟩
  ·split at hx
   ·cases hx
   ·rename_i h1
    refine ⟨⟨s.closed++[false],s.mins++[x]⟩,?_,by rw [yF s (by omega),he];simp⟩
    simp only [List.mem_flatMap,zW,List.mem_map,List.mem_filter]
    exact ⟨s,hs,x,hx,false,⟨by simp,by simp [uW,h1]⟩,rfl⟩
theorem kW:∀ (rs:List Rail) (l c:List Int),c∈gE rs l↔∃ t,c=l++t∧RJ rs rs.length t
 |[],l,c=>by
  simp only [gE,List.mem_singleton]
  constructor
  ·rintro rfl;exact ⟨[],by simp,rfl,fun i h=>by simp at h⟩
  ·rintro ⟨t,rfl,ht,_⟩
   simp at ht
   simp [ht]
 |r::rs,l,c=>by
  simp only [gE,List.mem_flatMap]
  constructor
  ·rintro ⟨n,hn,hc⟩
   obtain ⟨t,rfl,ht,hx⟩:=(kW rs _ c).1 hc
   refine ⟨n::t,by simp,by simp [ht],fun i h hr=>?_⟩
   cases i with
   |zero=>exact hn
   |succ i=>exact hx i (by simpa using h) (by simpa using hr)
  ·rintro ⟨t,rfl,ht,hx⟩
   cases t with
   |nil=>simp at ht
   |cons n t =>
    refine ⟨n,hx 0 (by simp) (by simp),(kW rs _ _).2 ⟨t,by simp,by simpa using ht,fun i h hr=>?_⟩⟩
    exact hx (i+1) (by simpa using h) (by simpa using hr)
theorem DI {rs:List Rail} {l c:List Int} (h:c∈gE rs l):c.length=l.length+rs.length:=by
 obtain ⟨t,rfl,ht,_⟩:=(kW rs l c).1 h
 simp [ht]
theorem aCO {r:Rail} (h:1≤r.mins.lo):(chP r).Pairwise (·≠·):=by
 have hn:∀ (n:Nat) (a:Int),(aR a n).Pairwise (·≠·):=by
  intro n
  induction n with
  |zero=>intro a;exact List.Pairwise.nil
  |succ n ih =>
   intro a
   simp only [aR]
   refine List.Pairwise.cons (fun x hx=>?_) (ih (a+1))
   have:=(dM _ _ _).1 hx
   omega
 unfold chP
 rw [List.pairwise_append]
 refine ⟨by split<;>simp,by split;exact List.Pairwise.nil;exact hn _ _,fun a ha b hb=>?_⟩
 split at ha
 ·cases ha
 ·simp only [List.mem_singleton] at ha
  subst ha
  split at hb
  ·cases hb
  ·have:=oY.1 hb;omega
theorem GB:∀ (rs:List Rail) (l:List Int),(∀ r∈rs,1≤r.mins.lo)→(gE rs l).Pairwise (·≠·)
 |[],l,_=>by simp [gE]
 |r::rs,l,h=>by
  simp only [gE]
  rw [List.pairwise_flatMap]
  refine ⟨fun n _=>GB rs _ (fun x hx=>h x (by simp [hx])),List.Pairwise.imp ?_ (aCO (h r (by simp)))⟩
  intro n m hnm x hx y hy e
  obtain ⟨t,rfl,_⟩:=(kW _ _ _).1 hx
  obtain ⟨u,hu,_⟩:=(kW _ _ _).1 hy
  have e2:=e.trans hu
  rw [List.append_assoc,List.append_assoc] at e2
  have:=List.append_cancel_left e2
  simp at this
  exact hnm this.1
def d5 (v:Net) (c:List Int):List Int:=iE v (jM v) (rlI c)
def sF (v:Net) (but c:List Int):Bool:=lT v but (d5 v c)
def TL (v:Net) (but:List Int):List (List Int):=(gE v.rails []).filter (sF v but)
theorem qI {s:State} (h:s.closed.length=s.mins.length) (v:Net):jL v s=d5 v (tA s):=by rw [jL,d5,KW h]
theorem oQ {v:Net} {s:State} (h:s∈kK v):s.closed.length=v.rails.length∧s.mins.length=v.rails.length:=by
 have:=vS v.rails.length (Nat.le_refl _) s h
 exact ⟨this.1,this.2.1⟩
theorem HU {v:Net} {s:State} (h:s∈kK v):tA s∈gE v.rails []:=by
 have:=vS v.rails.length (Nat.le_refl _) s h
 exact (kW _ _ _).2 ⟨tA s,by simp,this.2.2⟩
theorem KD {v:Net} (hv:Vd v) {c:List Int} (h:c∈gE v.rails []):∃ s∈kK v,tA s=c:=by
 obtain ⟨t,e,ht⟩:=(kW _ _ _).1 h
 rw [List.nil_append] at e
 subst e
 exact RZ (fun r hr=>by have:=(hv.ra r hr).mins;omega) v.rails.length (Nat.le_refl _) c ht
theorem w5 {v:Net} {bl:List Int} {s:State} (h:s∈bH v bl):tA s∈TL v bl:=by
 obtain ⟨h1,h2⟩:=List.mem_filter.1 h
 have hl:=oQ h1
 refine List.mem_filter.2 ⟨HU h1,?_⟩
 rw [sF,←qI (by omega)]
 exact h2
theorem sQ {v:Net} (hv:Vd v) {bl:List Int} {c:List Int} (h:c∈TL v bl):∃ s∈bH v bl,tA s=c:=by
 obtain ⟨h1,h2⟩:=List.mem_filter.1 h
 obtain ⟨s,hs,he⟩:=KD hv h1
 have hl:=oQ hs
 refine ⟨s,List.mem_filter.2 ⟨hs,?_⟩,he⟩
 rw [qI (by omega),he]
 exact h2
theorem uC {v:Net} {bl:List Int} {s:State} (h:s∈bH v bl):s.closed.length=v.rails.length∧s.mins.length=v.rails.length:=oQ (List.mem_filter.1 h).1
theorem K7 {v:Net} (hv:Vd v) (bl:List Int):(TL v bl).isEmpty=(bH v bl).isEmpty:=by
 rw [Bool.eq_iff_iff,List.isEmpty_iff,List.isEmpty_iff,List.eq_nil_iff_forall_not_mem,List.eq_nil_iff_forall_not_mem]
 constructor
 ·intro h s hs;exact h _ (w5 hs)
 ·intro h c hc
  obtain ⟨s,hs,_⟩:=sQ hv hc
  exact h s hs
theorem I2 {v:Net} (hv:Vd v) (bl:List Int) (p:State→Bool) (q:List Int→Bool) (h:∀ s∈bH v bl,p s=q (tA s)):(bH v bl).all p=(TL v bl).all q:=by
 rw [Bool.eq_iff_iff,List.all_eq_true,List.all_eq_true]
 constructor
 ·intro a c hc
  obtain ⟨s,hs,rfl⟩:=sQ hv hc
  rw [←h s hs]
  exact a s hs
 ·intro a s hs
  rw [h s hs]
  exact a _ (w5 hs)
theorem TC {v:Net} (hv:Vd v) (bl:List Int) (p:State→Bool) (q:List Int→Bool) (h:∀ s∈bH v bl,p s=q (tA s)):(bH v bl).any p=(TL v bl).any q:=by
 rw [Bool.eq_iff_iff,List.any_eq_true,List.any_eq_true]
 constructor
 ·rintro ⟨s,hs,a⟩
  exact ⟨_,w5 hs,by rw [←h s hs];exact a⟩
 ·rintro ⟨c,hc,a⟩
  obtain ⟨s,hs,rfl⟩:=sQ hv hc
  exact ⟨s,hs,by rw [h s hs];exact a⟩
def lS (v:Net):Nat→List (List Int)→List (List (List Int))
 |0,p=>[p]
 |k+1,p=>(dQ v (gO v p.length) []).flatMap fun w=>lS v k (p++[w])
theorem tV (v:Net):∀ k,∀ p∈gR v k,p.length=k
 |0,p,h=>by simp [gR] at h;simp [h]
 |k+1,p,h=>by
  simp only [gR,List.mem_flatMap,List.mem_map] at h
  obtain ⟨a,ha,w,_,rfl⟩:=h
  simp [tV v k a ha]
theorem lR {α β:Type} {f g:α→List β}:∀ {l:List α},(∀ x∈l,f x=g x)→l.flatMap f=l.flatMap g
 |[],_=>rfl
 |x::l,h=>by rw [List.flatMap_cons,List.flatMap_cons,h x (by simp),lR fun y hy=>h y (by simp [hy])]
theorem wH {α:Type}:∀ l:List α,(l.flatMap fun x=>[x])=l
 |[]=>rfl
 |x::l=>by rw [List.flatMap_cons,wH l];rfl
theorem EE (v:Net):∀ k j,(gR v j).flatMap (lS v k)=gR v (j+k)
 |0,j=>by
  have:lS v 0=fun x=>[x]:=by funext x;rfl
  rw [this,wH];rfl
 |k+1,j=>by
  rw [show j+(k+1)=(j+1)+k by omega,←EE v k (j+1)]
  simp only [gR]
  rw [List.flatMap_assoc]
  refine lR fun p hp=>?_
  rw [lS,tV v j p hp,List.flatMap_map]
theorem xS (v:Net):lU v=lS v v.trams.length []:=by
 have:=EE v v.trams.length 0
 simp only [gR,List.flatMap_cons,List.flatMap_nil,List.append_nil,Nat.zero_add] at this
 exact this.symm
def iL (v:Net) (t:Nat) (w:List Int):Nat:=if w=eO (jM v) t then 0 else 1
def mvd (v:Net) (p:List (List Int)):Nat:=(gT v p).length
theorem I4 {p:List (List Int)} {t:Nat} (h:t<p.length) (w:List Int):eO (p++[w]) t=eO p t:=by simp [eO,List.getElem?_append_left h]
theorem KX (v:Net) (p:List (List Int)) (w:List Int):gT v (p++[w])=gT v p++(if w=eO (jM v) p.length then [] else [(p.length:Int)]):=by
 simp only [gT,List.length_append,List.length_cons,List.length_nil,Nat.zero_add,xK,List.filter_append,Int.zero_add]
 congr 1
 ·refine List.filter_congr fun t ht=>?_
  have:=(dM _ _ _).1 ht
  rw [I4 (by omega)]
 ·have:eO (p++[w]) p.length=w:=by simp [eO]
  simp only [List.filter_cons,List.filter_nil,Int.toNat_natCast,this]
  split<;>rename_i h
  ·split
   ·rename_i e;simp [e] at h
   ·rfl
  ·split
   ·rfl
   ·rename_i e;simp [e] at h
theorem BZ (v:Net) (p:List (List Int)) (w:List Int):mvd v (p++[w])=mvd v p+iL v p.length w:=by
 rw [mvd,KX,List.length_append,mvd,iL]
 split<;>simp
theorem LO (v:Net):∀ k p,∀ P∈lS v k p,mvd v p≤mvd v P
 |0,p,P,h=>by simp [lS] at h;subst h;exact Nat.le_refl _
 |k+1,p,P,h=>by
  simp only [lS,List.mem_flatMap] at h
  obtain ⟨w,_,hP⟩:=h
  have:=LO v k _ P hP
  rw [BZ] at this
  omega
def dfs (v:Net) (q:List (List Int)→Bool):Nat→List (List Int)→Nat→Option (List (List Int))
 |0,p,left=>if (decide (left=0)&&q p)=true then some p else none
 |k+1,p,left=>(dQ v (gO v p.length) []).findSome? fun w=>if iL v p.length w≤left then dfs v q k (p++[w]) (left-iL v p.length w) else none
theorem EV {α β:Type} (q:β→Bool) (f:α→List β):∀ l:List α,(l.flatMap f).find? q=l.findSome? fun x=>(f x).find? q
 |[]=>rfl
 |x::l=>by
  rw [List.flatMap_cons,List.find?_append,List.findSome?_cons,EV q f l]
  cases (f x).find? q<;>rfl
theorem sC {α β:Type} {f g:α→Option β}:∀ {l:List α},(∀ x∈l,f x=g x)→l.findSome? f=l.findSome? g
 |[],_=>rfl
 |x::l,h=>by rw [List.findSome?_cons,List.findSome?_cons,h x (by simp),sC fun y hy=>h y (by simp [hy])]
theorem CX (v:Net) (q:List (List Int)→Bool):∀ k p left,dfs v q k p left=(lS v k p).find? fun P=>(mvd v P==mvd v p+left)&&q P
 |0,p,left=>by
  have h:decide (left=0)=(mvd v p==mvd v p+left):=by
   rw [Bool.eq_iff_iff,decide_eq_true_eq,beq_iff_eq];omega
  simp only [dfs,lS,List.find?_cons,List.find?_nil]
  rw [←h]
  cases (decide (left=0)&&q p)<;>rfl
 |k+1,p,left=>by
  simp only [dfs,lS]
  rw [EV]
  refine sC fun w _=>?_
  split
  ·rename_i h
   rw [CX v q k,BZ,show mvd v p+iL v p.length w+(left-iL v p.length w)=mvd v p+left by omega]
  ·rename_i h
   symm
   rw [List.find?_eq_none]
   intro P hP
   have:=LO v k _ P hP
   rw [BZ] at this
   simp only [Bool.and_eq_true,beq_iff_eq]
   omega
def vI (v:Net) (q:List (List Int)→Bool):Nat→Nat→Option (List (List Int))
 |0,_=>none
 |k+1,m=>match dfs v q v.trams.length [] m with|some p=>some p|none=>vI v q k (m+1)
theorem LE {v:Net} {l:List State} {q:List (List Int)→Bool} (h:∀ p∈lU v,zJ v l p=q p):∀ k m,jB v l k m=vI v q k m
 |0,m=>rfl
 |k+1,m=>by
  have e:(lU v).find? (rM v l m)=dfs v q v.trams.length [] m:=by
   have hf:∀ (L:List (List (List Int))) (f g:List (List Int)→Bool),(∀ x∈L,f x=g x)→L.find? f=L.find? g:=by
    intro L f g
    induction L with
    |nil=>intro _;rfl
    |cons x L ih =>
     intro hh
     rw [List.find?_cons,List.find?_cons,hh x (by simp),ih fun y hy=>hh y (by simp [hy])]
   rw [CX,←xS]
   refine hf _ _ _ fun p hp=>?_
   have h0:mvd v []=0:=rfl
   rw [rM,h p hp,h0,Nat.zero_add]
   rfl
  simp only [jB,vI,e]
  cases dfs v q v.trams.length [] m with
  |none=>exact LE h k (m+1)
  |some p=>rfl
def GV (v:Net) (ps:List (List Int)) (c:List Int):Bool:=(List.range v.trams.length).all fun t=>kU v t (fV (iE v ps (rlI c)) t)
def oL (v:Net) (ps:List (List Int)):Bool:=(TL v []).all (GV v ps)
theorem VY {v:Net} (hv:Vd v) (ps:List (List Int)):zJ v (bH v []) ps=oL v ps:=by
 refine I2 hv [] _ _ fun s hs=>?_
 have hl:=uC hs
 rw [A5,GV,KW (by omega)]
theorem TQ {v:Net} (hv:Vd v):l0 v (bH v [])=vI v (oL v) (v.trams.length+1) 0:=LE (fun p _=>VY hv p) _ _
theorem xG (v:Net) (but:List Int):∀ k,∀ l∈gD v but k,∀ r∈l,0≤r∧r<v.rails.length
 |0,l,h,r,hr=>by simp [gD] at h;subst h;cases hr
 |k+1,l,h,r,hr=>by
  simp only [gD,List.mem_flatMap,sK,List.mem_map,List.mem_filter,dM] at h
  obtain ⟨a,ha,x,⟨hx,_⟩,rfl⟩:=h
  rcases List.mem_append.1 hr with hr|hr
  ·exact xG v but k a ha r hr
  ·simp only [List.mem_singleton] at hr;subst hr;omega
theorem EL {v:Net} {s:Int} {but:List Int}:∀ k,∀ l∈fD v s but k,l.length≤k∧∀ r∈l,0≤r∧r<v.rails.length
 |0,l,h=>by simp [fD] at h
 |k+1,l,h=>by
  simp only [fD,List.mem_append,List.mem_filter] at h
  rcases h with h|⟨h,_⟩
  ·have:=EL k l h
   exact ⟨by omega,this.2⟩
  ·refine ⟨?_,xG v but (k+1) l h⟩
   have key:∀ k,∀ l∈gD v but k,l.length=k:=by
    intro k
    induction k with
    |zero=>intro l h;simp [gD] at h;simp [h]
    |succ k ih =>
     intro l h
     simp only [gD,List.mem_flatMap,sK,List.mem_map] at h
     obtain ⟨a,ha,r,_,rfl⟩:=h
     simp [ih a ha]
   have:=key (k+1) l h
   omega
theorem AE {v:Net} {s:Int} {but l:List Int} (h:l∈dQ v s but):l.length≤4∧∀ r∈l,0≤r∧r<v.rails.length:=EL 4 l h
theorem k7 (v:Net) (but:List Int) (h5:v.rails.length≤5):∀ k,(gD v but k).length≤5^k
 |0=>by simp [gD]
 |k+1=>by
  have h:=uL (sK v but) 5 (gD v but k) fun l _=>by
   have:=List.length_filter_le (sR v but l) (aR 0 v.rails.length)
   rw [iV] at this
   simp only [sK,List.length_map]
   omega
  have:=k7 v but h5 k
  rw [Nat.pow_succ]
  simp only [gD]
  exact Nat.le_trans h (Nat.mul_le_mul_right 5 this)
theorem sU {v:Net} (h5:v.rails.length≤5) (s:Int) (but:List Int):(dQ v s but).length≤1000:=by
 have c1:=k7 v but h5 1
 have c2:=k7 v but h5 2
 have c3:=k7 v but h5 3
 have c4:=k7 v but h5 4
 have f:=fun (l:List (List Int))=>List.length_filter_le (fP v s) l
 have f1:=f (gD v but 1)
 have f2:=f (gD v but 2)
 have f3:=f (gD v but 3)
 have f4:=f (gD v but 4)
 have e:dQ v s but=((([]++(gD v but 1).filter (fP v s))++(gD v but 2).filter (fP v s))++(gD v but 3).filter (fP v s))++(gD v but 4).filter (fP v s):=rfl
 rw [e]
 simp only [List.length_append,List.length_nil]
 have p1:(5:Nat)^1=5:=rfl
 have p2:(5:Nat)^2=25:=rfl
 have p3:(5:Nat)^3=125:=rfl
 have p4:(5:Nat)^4=625:=rfl
 omega
theorem LT {v:Net}:∀ k p,∀ P∈lS v k p,P.length=p.length+k∧∀ w∈P,w∈p∨∃ s,w∈dQ v s []
 |0,p,P,h=>by simp [lS] at h;subst h;exact ⟨rfl,fun w hw=>.inl hw⟩
 |k+1,p,P,h=>by
  simp only [lS,List.mem_flatMap] at h
  obtain ⟨w,hw,hP⟩:=h
  obtain ⟨h1,h2⟩:=LT k _ P hP
  refine ⟨by rw [h1];simp;omega,fun x hx=>?_⟩
  rcases h2 x hx with q|q
  ·rcases List.mem_append.1 q with q|q
   ·exact .inl q
   ·simp only [List.mem_singleton] at q
    subst q
    exact .inr ⟨_,hw⟩
  ·exact .inr q
theorem F5q {v:Net} {P:List (List Int)} (h:P∈lU v):RunOk v P:=by
 rw [xS] at h
 obtain ⟨h1,h2⟩:=LT _ _ P h
 refine ⟨by simpa using h1,fun p hp=>?_,fun p hp=>?_⟩
 ·rcases h2 p hp with q|⟨s,q⟩
  ·cases q
  ·exact (AE q).1
 ·rcases h2 p hp with q|⟨s,q⟩
  ·cases q
  ·exact (AE q).2
end Go.Am.Room
set_option maxRecDepth 4000
namespace Go.Am.Room
theorem vQ {v:Net} (h5:v.rails.length≤5) (s:Int) (but:List Int) {k:Nat} (hk:k≤4):(fD v s but k).length≤1000:=by
 have st:∀ j,(fD v s but j).length≤(fD v s but (j+1)).length:=fun j=>by simp only [fD,List.length_append];omega
 have:=sU h5 s but
 rw [dQ] at this
 have a0:(fD v s but 0).length≤(fD v s but 1).length:=st 0
 have a1:(fD v s but 1).length≤(fD v s but 2).length:=st 1
 have a2:(fD v s but 2).length≤(fD v s but 3).length:=st 2
 have a3:(fD v s but 3).length≤(fD v s but 4).length:=st 3
 have:k=0∨k=1∨k=2∨k=3∨k=4:=by omega
 rcases this with rfl|rfl|rfl|rfl|rfl<;>omega
def oO (x:List (List Int)×Int):AV:=.tuple [aJ x.1,.int .i64 x.2]
end Go.Am.Room
set_option maxRecDepth 4000
namespace Go.Am.Room
theorem DC {a b:Int} (h:a≤b):aR a (b+1-a).toNat=a::aR (a+1) (b+1-(a+1)).toNat:=by
 have:(b+1-a).toNat=(b+1-(a+1)).toNat+1:=by omega
 rw [this,aR]
theorem HD {a b:Int} (h:¬a≤b):aR a (b+1-a).toNat=[]:=by
 have:(b+1-a).toNat=0:=by omega
 rw [this,aR]
end Go.Am.Room
set_option maxRecDepth 4000
namespace Go.Am.Room
theorem BX {α:Type} {p:α→Bool} {l:List α} {k:Nat} (h:k<l.length):(l.take (k+1)).any p=((l.take k).any p||p l[k]):=by
 rw [List.take_succ_eq_append_getElem h,List.any_append];simp
def OP (ss:List Stay) (rail m s r:Int) (k:Nat) (n:Int):Prop:=(n=r∧(ss.take k).any (iW rail r m)=false)∨(r<n∧qY ss rail m s n)
end Go.Am.Room
set_option maxRecDepth 4000
namespace Go.Am.Room
theorem IH (v:Net) (m:Int→Int) (ps:List (List Int)) (k:Nat):eL v m ps (k+1)=((nM m k (oU v k) (eO ps k) (eL v m ps k).1).1,(eL v m ps k).2++[(nM m k (oU v k) (eO ps k) (eL v m ps k).1).2]):=rfl
end Go.Am.Room
set_option maxRecDepth 4000
namespace Go.Am.Room
instance (l:List Bool):Dats (l.map .bool):=⟨cV uG l⟩
def oE (v:Net) (but cs:List Int) (n:Nat):Bool:=(List.range n).all fun k=>match v.seen[k]? with|some x=>but.contains (k:Int)||fV cs x.tram==x.minute|none=>true
theorem vM (v:Net) (but cs:List Int):oE v but cs v.seen.length=lT v but cs:=rfl
theorem y4 {v:Net} {k:Nat} (hk:k<v.seen.length) (but cs:List Int):oE v but cs (k+1)=(oE v but cs k&&(but.contains (k:Int)||fV cs v.seen[k].tram==v.seen[k].minute)):=by
 simp [oE,List.range_succ,List.all_append,hk]
theorem uJ {a:Nat} (h:a<9223372036854775808):(BitVec.ofInt 64 (a:Int)).toNat=a:=by
 rw [BitVec.toNat_ofInt]
 omega
theorem aAN (a b:Nat) (ha:a<4611686018427387904) (hb:b<4611686018427387904):gU .or (.int .i64 (a:Int)) (.int .i64 (b:Int))=some (.int .i64 ((a|||b:Nat):Int)):=by
 have h1:(BitVec.ofInt 64 (a:Int)|||BitVec.ofInt 64 (b:Int)).toNat=a|||b:=by rw [BitVec.toNat_or,uJ (by omega),uJ (by omega)]
 have h2:a|||b<2^62:=Nat.or_lt_two_pow (by omega) (by omega)
 have h3:Go.Am.bits .or .i64 (a:Int) (b:Int)=((a|||b:Nat):Int):=by
  show IntKind.i64.wrap (((BitVec.ofInt 64 (a:Int)|||BitVec.ofInt 64 (b:Int)).toNat:Nat):Int)=_
  rw [h1]
  exact eA ⟨by omega,by omega⟩
 simp [gU,nN,h3]
def C2 (a b:Nat):Nat:=a &&& (2^64-(b+1))
theorem G5 {b:Nat} (hb:b<9223372036854775808) (a i:Nat) (ha:a<9223372036854775808):(C2 a b).testBit i=(a.testBit i&&!b.testBit i):=by
 rw [C2,Nat.testBit_and,Nat.testBit_two_pow_sub_succ (by omega)]
 by_cases hi:i<64
 ·simp [hi]
 ·have:a.testBit i=false:=Nat.testBit_lt_two_pow (Nat.lt_of_lt_of_le (show a<2^63 by omega) (Nat.pow_le_pow_right (by omega) (by omega)))
  simp [this]
theorem LV (a b:Nat):C2 a b≤a:=Nat.and_le_left
theorem IN (a b:Nat) (ha:a<9223372036854775808) (hb:b<9223372036854775808):gU .andNot (.int .i64 (a:Int)) (.int .i64 (b:Int))=some (.int .i64 ((C2 a b:Nat):Int)):=by
 have h1:(BitVec.ofInt 64 (a:Int) &&& ~~~BitVec.ofInt 64 (b:Int)).toNat=C2 a b:=by
  rw [BitVec.toNat_and,BitVec.toNat_not,uJ ha,uJ hb,C2]
  congr 1
  omega
 have h2:=LV a b
 have h3:Go.Am.bits .andNot .i64 (a:Int) (b:Int)=((C2 a b:Nat):Int):=by
  show IntKind.i64.wrap (((BitVec.ofInt 64 (a:Int) &&& ~~~BitVec.ofInt 64 (b:Int)).toNat:Nat):Int)=_
  rw [h1]
  exact eA ⟨by omega,by omega⟩
 simp [gU,nN,h3]
theorem kX {i:Nat} (h:i≤60):2^i≤1152921504606846976:=by
 calc 2^i≤2^60:=Nat.pow_le_pow_right (by omega) h
  _=1152921504606846976:=by decide
theorem vU (i:Nat) (h:i≤60):gU .shl (.int .i64 1) (.int .i64 (i:Int))=some (.int .i64 ((2^i:Nat):Int)):=by
 have hm:Nat.min i 64=i:=Nat.min_eq_left (by omega)
 have h0:¬(i:Int)<0:=by omega
 have hp:=kX h
 have hc:(1:Int)*2^i=((2^i:Nat):Int):=by rw [Int.one_mul];exact (Int.natCast_pow 2 i).symm
 simp only [gU,h0,if_false,IntKind.bits,Int.toNat_natCast,hm,hc]
 generalize 2^i=q at hp
 rw [eA ⟨by omega,by omega⟩]
theorem xA (a i:Nat):a.testBit i=decide (a/2^i%2=1):=Nat.testBit_eq_decide_div_mod_eq
theorem LI {n s:Nat} {x:Int}:x∈lst n s↔(0≤x∧x<n)∧s.testBit x.toNat=true:=by
 simp only [lst,List.mem_filter,dM,xA]
 constructor
 ·rintro ⟨h1,h2⟩;exact ⟨by omega,h2⟩
 ·rintro ⟨h1,h2⟩;exact ⟨by omega,h2⟩
theorem UN {n s i:Nat} (h:i<n):(lst n s).contains (i:Int)=s.testBit i:=by
 rw [Bool.eq_iff_iff,List.contains_iff_mem,LI]
 simp only [Int.toNat_natCast]
 constructor
 ·rintro ⟨_,h2⟩;exact h2
 ·intro h2;exact ⟨⟨by omega,by omega⟩,h2⟩
theorem FP (a:Nat):((a:Int)==0)=decide (a=0):=by rw [Bool.eq_iff_iff];simp
structure ButIs (b:Nat) (bl:List Int):Prop where
 lt:b<9223372036854775808
 bit:∀ i:Nat,i<5→(((b/2^i%2:Nat):Int)==0) = !bl.contains (i:Int)
theorem ML:ButIs 0 []:=⟨by omega,fun i hi=>by simp⟩
theorem V8 {n set:Nat} (hn:n≤5) (hs:set<2^n):ButIs set (lst n set):=by
 have hp:2^n≤2^5:=Nat.pow_le_pow_right (by omega) hn
 refine ⟨by omega,fun i hi=>?_⟩
 have e:(((set/2^i%2:Nat):Int)==0) = !set.testBit i:=by
  rw [xA,FP,Bool.eq_iff_iff]
  simp
 rw [e]
 by_cases h:i<n
 ·rw [UN h]
 ·have h1:set.testBit i=false:=Nat.testBit_lt_two_pow (Nat.lt_of_lt_of_le hs (Nat.pow_le_pow_right (by omega) (by omega)))
  have h2:(lst n set).contains (i:Int)=false:=by
   rw [Bool.eq_false_iff]
   intro hc
   rw [List.contains_iff_mem,LI] at hc
   omega
  rw [h1,h2]
theorem qR {σ:St} {i:Nat} {cs:List AV} (h:aM σ i=some cs):i<σ.length:=by
 unfold aM at h
 by_cases hi:i<σ.length
 ·exact hi
 ·rw [List.getElem?_eq_none (by omega)] at h
  cases h
theorem lG {σ:St} {i:Nat} {cs:List AV} (h:aM σ i=some cs) (τ:St):aM (σ++τ) i=some cs:=by
 have hl:=qR h
 simp only [aM] at h ⊢
 rw [List.getElem?_append_left hl]
 exact h
end Go.Am.Room
namespace Go.Am.Room
structure MemAt {M:Type} (S:M→St) (obj:List AV) (es:M→List (AV×AV)) (p m N:Nat):Prop where
 len:∀ M,(S M).length=N
 at0:∀ M,aM (S M) p=some obj
 map0:∀ M,(S M)[m]? = some (.map (es M))
 mset:∀ M M',(S M).set m (.map (es M'))=S M'
 ok:∀ M k,aH k (.map (es M))
 pl:p<N
 ml:m<N
namespace MemAt
variable {M:Type} {S:M→St} {obj:List AV} {es:M→List (AV×AV)} {p m N:Nat}
theorem base (h:MemAt S obj es p m N) (A:M) (τ:St) (k:Nat):aM (S A++τ) (N+k)=aM τ k:=by rw [←h.len A];exact tB _ _ _
theorem base0 (h:MemAt S obj es p m N) (A:M) (τ:St):aM (S A++τ) N=aM τ 0:=h.base A τ 0
theorem bset (h:MemAt S obj es p m N) (A:M) (τ:St) (k:Nat) (x:ABlk):(S A++τ).set (N+k) x=S A++τ.set k x:=by rw [←h.len A];exact pW _ _ _ _
theorem bset0 (h:MemAt S obj es p m N) (A:M) (τ:St) (x:ABlk):(S A++τ).set N x=S A++τ.set 0 x:=h.bset A τ 0 x
theorem at1 (h:MemAt S obj es p m N) (A:M) (τ:St):aM (S A++τ) p=some (obj):=by
 have:=h.at0 A
 have hl:=h.pl
 rw [←h.len A] at hl
 simp only [aM] at this ⊢
 rw [List.getElem?_append_left hl]
 exact this
theorem map1 (h:MemAt S obj es p m N) (A:M) (τ:St):(S A++τ)[m]? = some (.map (es A)):=by
 have hl:=h.ml
 rw [←h.len A] at hl
 rw [List.getElem?_append_left hl]
 exact h.map0 A
theorem mset1 (h:MemAt S obj es p m N) (A B:M) (τ:St):(S A++τ).set m (.map (es B))=S B++τ:=by
 have hl:=h.ml
 rw [←h.len A] at hl
 rw [List.set_append_left _ _ hl,h.mset]
theorem keep (h:MemAt S obj es p m N) (A B:M) (i:Nat) (hi:i≠m):(S B)[i]? = (S A)[i]?:=by
 rw [←h.mset A B,List.getElem?_set_ne (fun e=>hi e.symm)]
theorem kept (h:MemAt S obj es p m N) {A B:M} {σ τ:St} (hσ:σ=S B++τ):∀ i,i<(S A).length→fI (S A) σ (S A).length i:=by
 intro i hi
 rw [hσ]
 have hl:i<(S B).length:=by rw [h.len] at hi ⊢;exact hi
 by_cases him:i=m
 ·subst him
  refine .inr (.inl ⟨.map (es B),?_,h.ok B _⟩)
  rw [List.getElem?_append_left hl,h.map0]
 ·refine .inl ?_
  rw [List.getElem?_append_left hl,h.keep A B i him]
theorem app (h:MemAt S obj es p m N) (τ:St):MemAt (fun A=>S A++τ) obj es p m (N+τ.length) :=
 ⟨fun A=>by rw [List.length_append,h.len],fun A=>h.at1 A τ,fun A=>h.map1 A τ,fun A B=>h.mset1 A B τ,h.ok,by have:=h.pl;omega,by have:=h.ml;omega⟩
theorem eqS (h:MemAt S obj es p m N) (k:Nat) (A B:M) (x y z:St):EqS k (S A++x) (S B++y) (S B++z)=EqS k x y z:=by
 rw [←h.mset A B]
 exact LU k _ (h.ok B k) _ _ _ _ _
end MemAt
theorem yX {M:Type} {S:M→St} {obj:List AV} {es:M→List (AV×AV)} {p m N:Nat} (hR:MemAt S obj es p m N) {f:FuncId} {first cap args:List AV} {af:AFunc} {v:AV} {A B:M} (hf:T f=some af) (hn:(first++args++cap).length≤af.ntmps)
  (h:wp T af.body (gS 0 (first++args++cap)) (S A) (fun j e σ1=>(j=none∨j=some .ret)∧∃ v0 τ,iH af.results e σ1=some v0∧σ1=S B++τ∧cX σ1 N 20 v0=some v)):BI T (.func f first cap) args (S A) v (S B):=by
 refine .callf (.call hf hn (kE h fun o ho=>ho) fun o ho=>?_)
 obtain ⟨hj,v0,τ,hres,hσ,h4⟩:=ho
 refine ⟨hj,v0,hres,?_⟩
 unfold cX at h4
 cases hs:snap o.σ N 20 v0 with
 |none=>rw [hs] at h4;cases h4
 |some v1 =>
  rw [hs] at h4
  simp at h4
  refine .inr ⟨20,v1,v,by rw [hR.len];exact hs,.inr h4.symm,hR.kept hσ,?_,rfl,?_⟩
  ·rw [hσ,List.length_append,hR.len,hR.len];omega
  ·rw [hσ,hR.len,←hR.len B,List.take_left]
def cL {A X:Type} (f:A→X→X×Bool):List A→X→X×Bool
 |[],x=>(x,true)
 |a::az,x=>if (f a x).2=true then cL f az (f a x).1 else ((f a x).1,false)
theorem yP {A X:Type} (f:A→X→X×Bool):∀ (az bs:List A) (x:X),cL f (az++bs) x=if (cL f az x).2=true then cL f bs (cL f az x).1 else ((cL f az x).1,false)
 |[],bs,x=>by simp [cL]
 |a::az,bs,x=>by
  simp only [List.cons_append,cL]
  split
  ·exact yP f az bs _
  ·simp
structure Fam {X:Type} (Z ZD:X→St) (obj:List AV) (p q N:Nat):Prop where
 len:∀ x,(Z x).length=N
 lenD:∀ x,(ZD x).length=N
 at0:∀ x,aM (Z x) p=some obj
 atq0:∀ x,aM (Z x) q=some [.ptr p 0]
 keep:∀ x y k i,N≤k→i<N→fI (Z x) (Z y) k i
 keepD:∀ x y k i,N≤k→i<N→fI (Z x) (ZD y) k i
 pl:p<N
 ql:q<N
namespace Fam
variable {X:Type} {Z ZD:X→St} {obj:List AV} {p q N:Nat}
theorem base (h:Fam Z ZD obj p q N) (x:X) (τ:St) (k:Nat):aM (Z x++τ) (N+k)=aM τ k:=by rw [←h.len x];exact tB _ _ _
theorem base0 (h:Fam Z ZD obj p q N) (x:X) (τ:St):aM (Z x++τ) N=aM τ 0:=h.base x τ 0
theorem bset (h:Fam Z ZD obj p q N) (x:X) (τ:St) (k:Nat) (y:ABlk):(Z x++τ).set (N+k) y=Z x++τ.set k y:=by rw [←h.len x];exact pW _ _ _ _
theorem bset0 (h:Fam Z ZD obj p q N) (x:X) (τ:St) (y:ABlk):(Z x++τ).set N y=Z x++τ.set 0 y:=h.bset x τ 0 y
theorem at1 (h:Fam Z ZD obj p q N) (x:X) (τ:St):aM (Z x++τ) p=some obj:=by
 have:=h.at0 x
 have hl:=h.pl
 rw [←h.len x] at hl
 simp only [aM] at this ⊢
 rw [List.getElem?_append_left hl]
 exact this
theorem atq1 (h:Fam Z ZD obj p q N) (x:X) (τ:St):aM (Z x++τ) q=some [.ptr p 0]:=by
 have:=h.atq0 x
 have hl:=h.ql
 rw [←h.len x] at hl
 simp only [aM] at this ⊢
 rw [List.getElem?_append_left hl]
 exact this
def out (Z ZD:X→St) (r:X×Bool):St:=if r.2=true then Z r.1 else ZD r.1
end Fam
theorem MR {A X:Type} (f:A→X→X×Bool) (a:A) (x:X):cL f [a] x=f a x:=by
 simp only [cL]
 obtain ⟨y,bb⟩:=f a x
 cases bb<;>simp
structure Fam1 {X:Type} {M:Type} (Z ZD:X→M→St) (obj:List AV) (es:M→List (AV×AV)) (p m q N:Nat):Prop where
 ship:∀ x,MemAt (Z x) obj es p m N
 lenD:∀ x A,(ZD x A).length=N
 atq0:∀ x A,aM (Z x A) q=some [.ptr p 0]
 keep:∀ x A y B k i,N≤k→i<N→fI (Z x A) (Z y B) k i
 keepD:∀ x A y B k i,N≤k→i<N→fI (Z x A) (ZD y B) k i
 ql:q<N
 pl:p<N
namespace Fam1
variable {X:Type} {M:Type} {Z ZD:X→M→St} {obj:List AV} {es:M→List (AV×AV)} {p m q N:Nat}
theorem atq1 (h:Fam1 Z ZD obj es p m q N) (x:X) (A:M) (τ:St):aM (Z x A++τ) q=some [.ptr p 0]:=by
 have:=h.atq0 x A
 have hl:=h.ql
 rw [←(h.ship x).len A] at hl
 simp only [aM] at this ⊢
 rw [List.getElem?_append_left hl]
 exact this
def out (Z ZD:X→M→St) (r:X×Bool) (A:M):St:=if r.2=true then Z r.1 A else ZD r.1 A
end Fam1
def wW {X A M:Type} (Z ZD:X→M→St) (id:Nat) (args:A→Bool→Option Nat→List AV) (P:A→Prop) (f:A→X→X×Bool):Prop :=
 ∀ t,P t→∀ (fl:Bool) (tk:Option Nat) x B τ,Run T (.callv (.yield id) (args t fl tk) (Z x B++τ)) fun o=>o.v = .bool (f t x).2∧∃ τ',o.σ=Fam1.out Z ZD (f t x) B++(τ++τ')
theorem UJ {X:Type} {M:Type} {S:M→St} {obj:List AV} {es:M→List (AV×AV)} {p m N:Nat} (hS:MemAt S obj es p m N) (U UD:X→St) (n:Nat) (hU:∀ x,(U x).length=n) (hUD:∀ x,(UD x).length=n) (ok:∀ x y,y∈U x→∀ k,N≤k→aH k y) (okD:∀ x y,y∈UD x→∀ k,N≤k→aH k y)
  (env:Env) (ps:List Nat) (a bb:ACode) (st st':LS) (pe pe':Option AJump) :
  Fam1 (fun x A=>S A++(U x++[.cells [.ptr p 0],.loop st pe env ps a bb])) (fun x A=>S A++(UD x++[.cells [.ptr p 0],.loop st' pe' env ps a bb])) obj es p m (N+n) (N+n+2):=by
 have hpl:=hS.pl
 have low:∀ (A B:M) (C D:St) (k i:Nat),i<N→fI (S A++C) (S B++D) k i:=by
  intro A B C D k i hi
  have e1:(S A++C)[i]? = (S A)[i]?:=List.getElem?_append_left (by rw [hS.len];exact hi)
  have e2:(S B++D)[i]? = (S B)[i]?:=List.getElem?_append_left (by rw [hS.len];exact hi)
  simp only [fI,e1,e2]
  by_cases him:i=m
  ·subst him
   exact .inr (.inl ⟨_,hS.map0 B,hS.ok B k⟩)
  ·exact .inl (hS.keep A B i him)
 have high:∀ (A B:M) (C D:St) (l1 l2:ABlk) (k i:Nat),C.length=n→D.length=n→(∀ y∈D,aH k y)→N≤i→i<N+n+2→(l1=l2∨∃ st pe st' pe' env ps a b,l1 = .loop st pe env ps a b∧l2 = .loop st' pe' env ps a b) →
   fI (S A++(C++[.cells [.ptr p 0],l1])) (S B++(D++[.cells [.ptr p 0],l2])) k i:=by
  intro A B C D l1 l2 k i hA hB hk h1 h2 hl
  have e1:(S A++(C++[.cells [.ptr p 0],l1]))[i]? = (C++[.cells [.ptr p 0],l1])[i-N]?:=by rw [List.getElem?_append_right (by rw [hS.len];exact h1),hS.len]
  have e2:(S B++(D++[.cells [.ptr p 0],l2]))[i]? = (D++[.cells [.ptr p 0],l2])[i-N]?:=by rw [List.getElem?_append_right (by rw [hS.len];exact h1),hS.len]
  simp only [fI,e1,e2]
  obtain ⟨j,hj⟩:∃ j,i-N=j:=⟨_,rfl⟩
  rw [hj]
  by_cases hjn:j<n
  ·right;left
   have hb:j<D.length:=by omega
   refine ⟨D[j],?_,hk _ (List.getElem_mem hb)⟩
   rw [List.getElem?_append_left hb,List.getElem?_eq_getElem hb]
  ·have:j=n∨j=n+1:=by omega
   rcases this with rfl|rfl
   ·left
    rw [List.getElem?_append_right (by omega),List.getElem?_append_right (by omega),hA,hB]
    simp
   ·rw [List.getElem?_append_right (by omega),List.getElem?_append_right (by omega),hA,hB]
    simp only [Nat.add_sub_cancel_left,List.getElem?_cons_succ,List.getElem?_cons_zero]
    rcases hl with rfl|⟨_,_,_,_,_,_,_,_,rfl,rfl⟩
    ·exact .inl rfl
    ·exact .inr (.inr ⟨_,_,_,_,_,_,_,_,rfl,rfl⟩)
 refine ⟨fun x=>?_,fun x A=>?_,fun x A=>?_,fun x A y B k i hk hi=>?_,fun x A y B k i hk hi=>?_,by omega,by omega⟩
 ·have:=hS.app (U x++[.cells [.ptr p 0],.loop st pe env ps a bb])
  rw [List.length_append,hU] at this
  exact this
 ·simp [hS.len,hUD];omega
 ·have e:N+n=(S A).length+n:=by rw [hS.len]
  rw [e,tB]
  have:n=(U x).length:=by rw [hU]
  rw [this]
  exact jZ _ _
 ·by_cases h:i<N
  ·exact low _ _ _ _ _ _ h
  ·exact high _ _ _ _ _ _ _ _ (hU x) (hU y) (fun z hz=>ok y z hz k (by omega)) (by omega) hi (.inl rfl)
 ·by_cases h:i<N
  ·exact low _ _ _ _ _ _ h
  ·exact high _ _ _ _ _ _ _ _ (hU x) (hUD y) (fun z hz=>okD y z hz k (by omega)) (by omega) hi (.inr ⟨_,_,_,_,_,_,_,_,rfl,rfl⟩)
theorem PV {X A M:Type} {S:M→St} {obj:List AV} {es:M→List (AV×AV)} {p m N:Nat} (hS:MemAt S obj es p m N) (U UD:X→St) (n:Nat) (hU:∀ x,(U x).length=n) (hUD:∀ x,(UD x).length=n)
  (J:AJump) (e:Env) (k:Nat) (ps:List Nat) (a bb:ACode) (g:FuncId) (ek:Env.get e k = .func g [] [.ptr (N+n) 0]) (r:X×Bool) (B':M) (x:X) (B:M)
  (hrun:Run T (.call g [.yield (N+n+1),.ptr (N+n) 0] (S B++(U x++[.cells [.ptr p 0],.loop .ready none e ps a bb]))) fun o=>∃ τ',o.σ=Fam1.out (fun x A=>S A++(U x++[.cells [.ptr p 0],.loop .ready none e ps a bb])) (fun x A=>S A++(UD x++[.cells [.ptr p 0],.loop .done (some J) e ps a bb])) r B'++τ') (K:KJ)
  (hT:∀ τ,r.2=true→K none e (S B'++(U r.1++(.cells [.ptr p 0]::.dead::τ))))
  (hD:∀ τ,r.2=false→K (some J) e (S B'++(UD r.1++(.cells [.ptr p 0]::.dead::τ)))) :
  rK (K:=⟨K⟩) T (.rangeFunc (.t k) ps a bb) e (S B++(U x++[.cells [.ptr p 0]])):=by
 have hlen:(S B++(U x++[ABlk.cells [.ptr p 0]])).length=N+n+1:=by simp [hS.len,hU];omega
 have hout:∀ (A W:St) (lp:ABlk) (τ':St),A.length=N→W.length=n→(A++(W++[ABlk.cells [.ptr p 0],lp])++τ')[N+n+1]? = some lp∧(A++(W++[ABlk.cells [.ptr p 0],lp])++τ').set (N+n+1) .dead=A++(W++(.cells [.ptr p 0]::.dead::τ')):=by
  intro A W lp τ' hA hW
  have h1:N+n+1=(A++W).length+1:=by simp [hA,hW]
  have h2:A++(W++[ABlk.cells [.ptr p 0],lp])++τ'=(A++W)++(.cells [.ptr p 0]::lp::τ'):=by simp
  rw [h1,h2]
  constructor
  ·rw [sS];rfl
  ·rw [pW];simp
 refine HE (by rw [Q3,ek]) (by
  rw [hlen,List.append_assoc (S B),List.append_assoc (U x)]
  exact hrun) fun o ho=>?_
 obtain ⟨τ',hσ⟩:=ho
 rw [hlen,hσ]
 cases hr2:r.2
 ·have hD':=hD τ' hr2
  obtain ⟨g1,g2⟩:=hout (S B') (UD r.1) (.loop .done (some J) e ps a bb) τ' (hS.len _) (hUD _)
  simp only [Fam1.out,hr2,Bool.false_eq_true,if_false]
  rw [g1,g2]
  exact ⟨_,_,_,_,_,_,rfl,by simp,hD'⟩
 ·have hT':=hT τ' hr2
  obtain ⟨g1,g2⟩:=hout (S B') (U r.1) (.loop .ready none e ps a bb) τ' (hS.len _) (hU _)
  simp only [Fam1.out,hr2,if_true]
  rw [g1,g2]
  exact ⟨_,_,_,_,_,_,rfl,by simp,hT'⟩
theorem OQ {X A M:Type} {S:M→St} {obj:List AV} {es:M→List (AV×AV)} {p m N:Nat} (hS:MemAt S obj es p m N) (U UD:X→St) (n:Nat) (hU:∀ x,(U x).length=n) (hUD:∀ x,(UD x).length=n) (J:AJump) (e:Env) (ps:List Nat) (args:A→Bool→Option Nat→List AV) (hps:∀ t fl tk,ps.length=(args t fl tk).length) (a bb:ACode) {P:A→Prop} {f:A→X→X×Bool}
  (h:∀ t,P t→∀ (fl:Bool) (tk:Option Nat) x B τ,wp T a (lJ e ps (args t fl tk)) (S B++(U x++(.cells [.ptr p 0]::.loop .ready none e ps a bb::τ))) (fun j e' σ'=>j=none∧σ'=S B++(U x++(.cells [.ptr p 0]::.loop .ready none e ps a bb::τ)) ∧
   wp T bb e' (S B++(U x++(.cells [.ptr p 0]::.loop .busy none e ps a bb::τ))) (fun j e'' σ''=>((f t x).2=true∧j=none∧∃ τ',σ''=S B++(U (f t x).1++(.cells [.ptr p 0]::.loop .busy none e ps a bb::(τ++τ')))) ∨
    ((f t x).2=false∧j=some J∧∃ τ',σ''=S B++(UD (f t x).1++(.cells [.ptr p 0]::.loop .busy none e ps a bb::(τ++τ'))))))) :
  wW (fun x B=>S B++(U x++[.cells [.ptr p 0],.loop .ready none e ps a bb])) (fun x B=>S B++(UD x++[.cells [.ptr p 0],.loop .done (some J) e ps a bb])) (N+n+1) args P f:=by
 intro t ht fl tk x B τ
 have hget:∀ (A W:St) (lp:ABlk) (υ:St),A.length=N→W.length=n→(A++(W++(ABlk.cells [.ptr p 0]::lp::υ)))[N+n+1]? = some lp:=by
  intro A W lp υ hA hW
  have h1:N+n+1=(A++W).length+1:=by simp [hA,hW]
  rw [h1,←List.append_assoc,sS];rfl
 have hset:∀ (A W:St) (lp l2:ABlk) (υ:St),A.length=N→W.length=n→(A++(W++(ABlk.cells [.ptr p 0]::lp::υ))).set (N+n+1) l2=A++(W++(ABlk.cells [.ptr p 0]::l2::υ)):=by
  intro A W lp l2 υ hA hW
  have h1:N+n+1=(A++W).length+1:=by simp [hA,hW]
  rw [h1,←List.append_assoc,pW]
  simp
 obtain ⟨r,hr⟩:∃ r,f t x=r:=⟨_,rfl⟩
 have h:=h t ht fl tk x B τ
 rw [hr] at h ⊢
 have hst:(fun x B=>S B++(U x++[ABlk.cells [.ptr p 0],.loop .ready none e ps a bb])) x B++τ=S B++(U x++(.cells [.ptr p 0]::.loop .ready none e ps a bb::τ)):=by simp
 rw [hst]
 refine .round (env:=e) (ps:=ps) (a:=a) (b:=bb)
  (R:=fun o=>o.j=none∧o.σ=S B++(U x++(.cells [.ptr p 0]::.loop .ready none e ps a bb::τ))∧wp T bb o.env (S B++(U x++(.cells [.ptr p 0]::.loop .busy none e ps a bb::τ))) (fun j e'' σ''=>(r.2=true∧j=none∧∃ τ',σ''=S B++(U r.1++(.cells [.ptr p 0]::.loop .busy none e ps a bb::(τ++τ')))) ∨
    (r.2=false∧j=some J∧∃ τ',σ''=S B++(UD r.1++(.cells [.ptr p 0]::.loop .busy none e ps a bb::(τ++τ'))))))
  (S:=fun o=>(r.2=true∧o.j=none∧∃ τ',o.σ=S B++(U r.1++(.cells [.ptr p 0]::.loop .busy none e ps a bb::(τ++τ'))))∨(r.2=false∧o.j=some J∧∃ τ',o.σ=S B++(UD r.1++(.cells [.ptr p 0]::.loop .busy none e ps a bb::(τ++τ'))))) (hget _ _ _ _ (hS.len _) (hU _)) (by rw [hps t fl tk]) (kE h fun o ho=>ho) ?_ ?_ ?_
 ·rintro o ⟨hj,hσ,_⟩
  exact ⟨hj,by rw [hσ];exact hget _ _ _ _ (hS.len _) (hU _)⟩
 ·rintro o ⟨_,hσ,hw⟩
  rw [hσ,hset _ _ _ _ _ (hS.len _) (hU _)]
  exact kE hw fun o ho=>ho
 ·rintro o (⟨hr2,hj,τ',hσ⟩|⟨hr2,hj,τ',hσ⟩)
  ·rw [hσ,hj,hget _ _ _ _ (hS.len _) (hU _),hset _ _ _ _ _ (hS.len _) (hU _)]
   refine ⟨rfl,by rw [hr2];rfl,τ',?_⟩
   simp [Fam1.out,hr2]
  ·rw [hσ,hj,hget _ _ _ _ (hS.len _) (hUD _),hset _ _ _ _ _ (hS.len _) (hUD _)]
   refine ⟨rfl,by rw [hr2];rfl,τ',?_⟩
   simp [Fam1.out,hr2]
theorem CC {A X:Type} {f:A→X→X×Bool} (h:∀ a x,(f a x).2=true):∀ (l:List A) (x:X),cL f l x=(l.foldl (fun x a=>(f a x).1) x,true)
 |[],x=>rfl
 |a::az,x=>by simp only [cL,h,if_true,List.foldl_cons];exact CC h az _
end Go.Am.Room
namespace Go.Am.Room
def eK (fine:Nat→Bool):Nat→Nat×Nat→Nat×Nat
 |0,x=>x
 |k+1,x=>if fine k=true then (C2 (eK fine k x).1 (2^k),(eK fine k x).2) else ((eK fine k x).1,(eK fine k x).2|||2^k)
theorem qK (fine:Nat→Bool) {n:Nat} {x:Nat×Nat} (h:x.1<2^n∧x.2<2^n):∀ k,k≤n→(eK fine k x).1<2^n∧(eK fine k x).2<2^n
 |0,_=>h
 |k+1,hk=>by
  obtain ⟨h1,h2⟩:=qK fine h k (by omega)
  simp only [eK]
  split
  ·exact ⟨Nat.lt_of_le_of_lt (LV _ _) h1,h2⟩
  ·exact ⟨h1,Nat.or_lt_two_pow h2 (Nat.pow_lt_pow_right (by omega) (by omega))⟩
theorem B2 (fine:Nat→Bool) {n:Nat} (hn:n≤60) {x:Nat×Nat} (h:x.1<2^n∧x.2<2^n) (i:Nat):∀ k,k≤n→(eK fine k x).1.testBit i=(x.1.testBit i&&!(decide (i<k)&&fine i))∧(eK fine k x).2.testBit i=(x.2.testBit i||(decide (i<k)&&!fine i))
 |0,_=>by simp [eK]
 |k+1,hk=>by
  obtain ⟨h1,h2⟩:=B2 fine hn h i k (by omega)
  obtain ⟨l1,l2⟩:=qK fine h k (by omega)
  have hp:=kX (show k≤60 by omega)
  have hpn:=kX hn
  simp only [eK]
  by_cases e:i=k
  ·subst e
   cases hf:fine i
   ·simp only [Bool.false_eq_true,if_false]
    rw [Nat.testBit_or,h1,h2,Nat.testBit_two_pow_self]
    simp
   ·simp only [if_true]
    rw [G5 (by omega) _ _ (by omega),h1,h2,Nat.testBit_two_pow_self]
    simp
  ·have hd:decide (i<k+1)=decide (i<k):=by rw [decide_eq_decide];omega
   split
   ·rw [G5 (by omega) _ _ (by omega),h1,h2,Nat.testBit_two_pow_of_ne (Ne.symm e),hd]
    simp
   ·rw [Nat.testBit_or,h1,h2,Nat.testBit_two_pow_of_ne (Ne.symm e),hd]
    simp
abbrev B64:={ x:Nat×Nat // x.1<2^6∧x.2<2^6 }
def pJ {A:Type} (fine:A→Nat→Bool) (n:Nat) (a:A) (x:B64):B64×Bool:=if hn:n≤6 then (⟨eK (fine a) n x.1,qK (fine a) x.2 n hn⟩,true) else (x,true)
theorem AQ {A:Type} (fine:A→Nat→Bool) (n:Nat) (a:A) (x:B64):(pJ fine n a x).2=true:=by unfold pJ;split<;>rfl
theorem yA {A:Type} (fine:A→Nat→Bool) {n:Nat} (hn:n≤6) (a:A) (x:B64):(pJ fine n a x).1.1=eK (fine a) n x.1:=by unfold pJ;rw [dif_pos hn]
def nP {A:Type} (fine:A→Nat→Bool) (n:Nat) (l:List A) (x:B64):B64:=l.foldl (fun x a=>(pJ fine n a x).1) x
theorem yC {A:Type} (fine:A→Nat→Bool) {n:Nat} (hn:n≤6) {i:Nat} (hi:i<n):∀ (l:List A) (x:B64),(nP fine n l x).1.1.testBit i=(x.1.1.testBit i&&l.all fun a=>!fine a i)∧(nP fine n l x).1.2.testBit i=(x.1.2.testBit i||l.any fun a=>!fine a i)
 |[],x=>by simp [nP]
 |a::l,x=>by
  obtain ⟨h1,h2⟩:=yC fine hn hi l (pJ fine n a x).1
  obtain ⟨q1,q2⟩:=B2 (fine a) (n:=6) (by omega) x.2 i n hn
  simp only [nP,List.foldl_cons,List.all_cons,List.any_cons] at h1 h2 ⊢
  rw [h1,h2,yA fine hn,q1,q2]
  simp only [hi,decide_true,Bool.true_and]
  exact ⟨by rw [Bool.and_assoc],by rw [Bool.or_assoc]⟩
def mH (n:Nat) (hn:n≤6):B64:=⟨(2^n-1,0),by
 have:2^n≤2^6:=Nat.pow_le_pow_right (by omega) hn
 have:=Nat.two_pow_pos n
 exact ⟨by simp only;omega,by simp⟩⟩
theorem GW {A:Type} (fine:A→Nat→Bool) {n:Nat} (hn:n≤6) (l:List A):lst n (nP fine n l (mH n hn)).1.1=(aR 0 n).filter (fun i=>l.all fun a=>!fine a i.toNat)∧lst n (nP fine n l (mH n hn)).1.2=(aR 0 n).filter (fun i=>l.any fun a=>!fine a i.toNat):=by
 simp only [lst]
 constructor
 ·refine List.filter_congr fun x hx=>?_
  have hxr:=(dM _ _ _).1 hx
  have hi:x.toNat<n:=by omega
  rw [←xA,(yC fine hn hi l _).1]
  simp only [mH,Nat.testBit_two_pow_sub_one,hi,decide_true,Bool.true_and]
 ·refine List.filter_congr fun x hx=>?_
  have hxr:=(dM _ _ _).1 hx
  have hi:x.toNat<n:=by omega
  rw [←xA,(yC fine hn hi l _).2]
  simp only [mH,Nat.zero_testBit,Bool.false_or]
def iD (v:Net) (c:List Int) (t:Nat):Bool:=kU v t (fV (d5 v c) t)
theorem H5 {v:Net} {bl:List Int} {t:Nat}:∀ s∈bH v bl,nK v (t:Int) s = !iD v (tA s) t:=fun s hs=>by
 have hl:=uC hs
 simp only [nK,iD,qI (show s.closed.length=s.mins.length by omega),Int.toNat_natCast]
theorem HQ {v:Net} (hv:Vd v) (h3:v.trams.length≤6):lst v.trams.length (nP (iD v) v.trams.length (TL v []) (mH _ h3)).1.1=AP v (bH v [])∧lst v.trams.length (nP (iD v) v.trams.length (TL v []) (mH _ h3)).1.2=vZ v (bH v []):=by
 obtain ⟨h1,h2⟩:=GW (iD v) h3 (TL v [])
 rw [h1,h2,AP,vZ]
 constructor
 ·refine List.filter_congr fun x hx=>?_
  have hxr:=(dM _ _ _).1 hx
  obtain ⟨t,rfl⟩:∃ t:Nat,x=t:=⟨x.toNat,by omega⟩
  rw [qJ,Int.toNat_natCast]
  exact (I2 hv [] _ _ H5).symm
 ·refine List.filter_congr fun x hx=>?_
  have hxr:=(dM _ _ _).1 hx
  obtain ⟨t,rfl⟩:∃ t:Nat,x=t:=⟨x.toNat,by omega⟩
  rw [rL,Int.toNat_natCast]
  exact (TC hv [] _ _ H5).symm
def jS (c:List Int) (r:Nat):Bool:=!((c[r]?).getD 0==0)
theorem AZ {v:Net} (hv:Vd v) {bl:List Int} {r:Nat} (hr:r<v.rails.length):∀ s∈bH v bl,fL (r:Int) s = !jS (tA s) r:=fun s hs=>by
 have hs1:=(List.mem_filter.1 hs).1
 have hl:=oQ hs1
 have hst:∀ k,k≤v.rails.length→∀ s∈nW v.rails k,∀ i,i<k→1≤(s.mins[i]?).getD 0:=by
  intro k
  induction k with
  |zero=>intro _ s _ i hi;omega
  |succ k ih =>
   intro hk s h i hi
   have hk1:k<v.rails.length:=by omega
   simp only [nW,List.getElem?_eq_getElem hk1,List.mem_flatMap,zW,List.mem_map,List.mem_filter] at h
   obtain ⟨s0,hs0,m,hm,c,_,rfl⟩:=h
   have hl0:=(vS k (by omega) s0 hs0).2.1
   by_cases e:i=k
   ·subst e
    rw [AY hl0]
    have:=(hv.ra _ (List.getElem_mem hk1)).mins
    have:=oY.1 hm
    omega
   ·rw [List.getElem?_append_left (by omega)]
    exact ih (by omega) s0 hs0 i (by omega)
 have hm:=hst v.rails.length (Nat.le_refl _) s hs1 r hr
 have he:=congrFun (KW (s:=s) (by omega)) (r:Int)
 simp only [rlI,Int.toNat_natCast] at he
 simp only [jS,←he,eff,fL,Int.toNat_natCast,Bool.not_not]
 split
 ·rename_i h;rw [h];rfl
 ·rename_i h
  rw [Bool.not_eq_true] at h
  rw [h]
  symm
  simp only [beq_eq_false_iff_ne]
  omega
theorem Q8 {v:Net} (hv:Vd v) (h6:v.rails.length≤6):lst v.rails.length (nP jS v.rails.length (TL v []) (mH _ h6)).1.1=EW v (bH v [])∧lst v.rails.length (nP jS v.rails.length (TL v []) (mH _ h6)).1.2=OD v (bH v []):=by
 obtain ⟨h1,h2⟩:=GW jS h6 (TL v [])
 rw [h1,h2,EW,OD]
 constructor
 ·refine List.filter_congr fun x hx=>?_
  have hxr:=(dM _ _ _).1 hx
  obtain ⟨t,rfl⟩:∃ t:Nat,x=t:=⟨x.toNat,by omega⟩
  rw [Int.toNat_natCast]
  exact (I2 hv [] _ _ (AZ hv (by omega))).symm
 ·refine List.filter_congr fun x hx=>?_
  have hxr:=(dM _ _ _).1 hx
  obtain ⟨t,rfl⟩:∃ t:Nat,x=t:=⟨x.toNat,by omega⟩
  rw [Int.toNat_natCast]
  exact (TC hv [] _ _ (AZ hv (by omega))).symm
def C7 (v:Net) (l:List (List Int)) (t:Nat):List Int:=l.map fun c=>fV (d5 v c) t
theorem UI {v:Net} (hv:Vd v) (bl:List Int) (t:Nat) (x:Int):x∈sE v (bH v bl) t↔x∈C7 v (TL v bl) t:=by
 simp only [sE,C7,List.mem_map]
 constructor
 ·rintro ⟨s,hs,rfl⟩
  have hl:=uC hs
  exact ⟨_,w5 hs,by rw [qI (by omega)]⟩
 ·rintro ⟨c,hc,rfl⟩
  obtain ⟨s,hs,rfl⟩:=sQ hv hc
  have hl:=uC hs
  exact ⟨s,hs,by rw [qI (by omega)]⟩
theorem IZ {l k:List Int} (h:∀ x,x∈l↔x∈k):mK l=mK k:=by
 have h1:eQ (dR l)=eQ (dR k):=SO fun x=>by simp only [dR,List.mem_filter,h]
 have h2:eC (dR l).length l.length=eC (dR k).length k.length:=KH (fun x hx=>⟨x,(h x).1 hx,rfl⟩) (fun x hx=>⟨x,(h x).2 hx,rfl⟩)
 rw [mK,mK,h1,h2]
def P0 (a:Int) (x:Span×Bool×Bool):Span×Bool×Bool:=if a = -1 then (x.1,x.2.1,true) else if x.2.1=false then (⟨a,a⟩,true,x.2.2) else (kF x.1 a,true,x.2.2)
theorem CJ (l:List Int) (a:Int):eQ (l++[a])=if l=[] then ⟨a,a⟩ else kF (eQ l) a:=by
 cases l with
 |nil=>simp [eQ]
 |cons x l=>simp [eQ,List.foldl_append]
theorem TI (l:List Int):∀ (k:List Int),l.foldl (fun x a=>P0 a x) (eQ (dR k),!(dR k).isEmpty,k.contains (-1))=(eQ (dR (k++l)),!(dR (k++l)).isEmpty,(k++l).contains (-1)):=by
 induction l with
 |nil=>intro k;simp
 |cons a l ih =>
  intro k
  rw [List.foldl_cons,show k++a::l=(k++[a])++l by simp,←ih (k++[a])]
  congr 1
  simp only [dR,List.filter_append,P0]
  by_cases h:a = -1
  ·subst h;simp
  ·have hc:(k++[a]).contains (-1)=k.contains (-1):=by
    rw [Bool.eq_iff_iff,List.contains_iff_mem,List.contains_iff_mem]
    simp;omega
   have hf:[a].filter (fun c=>!decide (c = -1))=[a]:=by simp [h]
   rw [hf,hc,CJ,if_neg h]
   by_cases h2:k.filter (fun c=>!decide (c = -1))=[]
   ·simp [h2]
   ·have:(k.filter (fun c=>!decide (c = -1))).isEmpty=false:=by simpa using h2
    simp [h2,this]
theorem W2 (l:List Int):l.foldl (fun x a=>P0 a x) (⟨0,0⟩,false,false)=(eQ (dR l),!(dR l).isEmpty,l.contains (-1)):=TI l []
theorem G6 {l:List Int} (h:l≠[]):eC (dR l).length l.length=if l.contains (-1)=false then 1 else if (dR l).isEmpty=true then 2 else 0:=by
 have h1:eC (dR l).length l.length=1↔∀ x∈l,(!decide (x = -1))=true:=sX
 have h2:eC (dR l).length l.length=2↔l≠[]∧∀ x∈l,(!decide (x = -1))=false:=sV
 have h3:=pO (dR l).length l.length
 have he:(dR l).isEmpty=true↔∀ x∈l,(!decide (x = -1))=false:=by
  rw [List.isEmpty_iff,dR,List.filter_eq_nil_iff]
  simp
 by_cases a:l.contains (-1)=false
 ·rw [if_pos a]
  refine h1.2 fun x hx=>?_
  simp only [Bool.not_eq_true',decide_eq_false_iff_not]
  rintro rfl
  rw [←Bool.not_eq_true,List.contains_iff_mem] at a
  exact a hx
 ·rw [if_neg a]
  have n1:¬eC (dR l).length l.length=1:=by
   rw [h1]
   intro q
   rw [Bool.not_eq_false,List.contains_iff_mem] at a
   have:=q _ a
   simp at this
  by_cases b:(dR l).isEmpty=true
  ·rw [if_pos b]
   exact h2.2 ⟨h,he.1 b⟩
  ·rw [if_neg b]
   rcases h3 with h3|h3|h3
   ·exact h3
   ·exact absurd h3 n1
   ·exact absurd (he.2 (h2.1 h3).2) b
def mS (f:Nat→Int) (i:Nat) (v:Int):Nat→Int:=fun j=>if j=i then v else f j
def bX (n:Nat) (f:Nat→Int):List AV:=(List.range n).map fun i=>.int .i64 (f i)
theorem eM (n:Nat) (f:Nat→Int):(bX n f).length=n:=by simp [bX]
theorem i7 (n:Nat) (f:Nat→Int) {i:Nat} (h:i<n):(bX n f)[i]? = some (.int .i64 (f i)):=by simp [bX,h]
theorem vH {n:Nat} {f g:Nat→Int} (h:∀ i,i<n→f i=g i):bX n f=bX n g:=by
 refine List.map_congr_left fun i hi=>?_
 rw [h i (by simpa using hi)]
theorem qA (n:Nat) (f:Nat→Int) (v:Int) {i:Nat} (h:i<n):(bX n f).take i++[AV.int .i64 v]++(bX n f).drop (i+1)=bX n (mS f i v):=by
 have h1:(bX n f).take i++[AV.int .i64 v]++(bX n f).drop (i+1)=(bX n f).set i (.int .i64 v):=by
  rw [List.set_eq_take_append_cons_drop,if_pos (by rw [eM];exact h)];simp
 rw [h1]
 refine List.ext_getElem? fun j=>?_
 by_cases hj:j<n
 ·rw [i7 n _ hj,List.getElem?_set]
  by_cases e:i=j
  ·subst e;simp [eM,hj,mS]
  ·rw [if_neg e,i7 n _ hj];simp [mS,show ¬j=i from fun q=>e q.symm]
 ·rw [List.getElem?_eq_none (by rw [List.length_set,eM];omega),List.getElem?_eq_none (by rw [eM];omega)]
theorem oD (n:Nat) (f:Nat→Int):nS (bX n f):=cV (enc:=fun i:Nat=>AV.int .i64 (f i)) (fun i=>dJ _ _) (List.range n)
instance (n:Nat) (f:Nat→Int):Dats (bX n f):=⟨oD n f⟩
theorem m4 (n:Nat) (f:Nat→Int) (m:Nat):okVs m (bX n f):=ID (oD n f) m
theorem kT (n:Nat) (f:Nat→Int) (σ:St) (m d:Nat):dG σ m d (bX n f)=some (bX n f):=jX (oD n f) σ m d
theorem fM (n:Nat) (f:Nat→Int):cJ (bX n f)=true:=aBM _ _ fun i=>by simp [AV.cell]
theorem fX (n:Nat) (f:Nat→Int):(bX n f).take n=bX n f:=List.take_of_length_le (by rw [eM];exact Nat.le_refl n)
theorem fZ (n:Nat) (f:Nat→Int):(bX n f).drop n=[]:=List.drop_eq_nil_of_le (by rw [eM];exact Nat.le_refl n)
theorem IB (f g:Nat→Int):∀ l:List Nat,cB (List.replicate l.length .i) (l.map fun i=>.int .i64 (f i)) (l.map fun i=>.int .i64 (g i))=some (l.all fun i=>f i==g i)
 |[]=>rfl
 |x::l=>by
  simp only [List.length_cons,List.replicate_succ,List.map_cons,PL,Y7,IB f g l,OZ,List.all_cons]
theorem LY (n:Nat) (f g:Nat→Int):cB (List.replicate n .i) (bX n f) (bX n g)=some ((List.range n).all fun i=>f i==g i):=by
 have:=IB f g (List.range n)
 rwa [List.length_range] at this
section
variable {K:Type} [DecidableEq K]
def oJ (M:List K) (w:K):List K:=if w∈M then M else M++[w]
structure KeyIs (sh:EqTy) (enc val:K→AV):Prop where
 eq:∀ w x,kR sh (enc w) (enc x)=some (decide (w=x))
 dk:∀ w,lX (enc w)
 dv:∀ w,lX (val w)
variable {sh:EqTy} {enc val:K→AV}
def sH (enc val:K→AV) (M:List K):List (AV×AV):=M.map fun w=>(enc w,val w)
theorem LZ (h:KeyIs sh enc val) (w:K):∀ M:List K,findKey sh (enc w) (sH enc val M)=some (if w∈M then some (val w) else none)
 |[]=>by simp [sH,findKey]
 |x::M=>by
  have ih:=LZ h w M
  simp only [sH,List.map_cons,findKey,h.eq] at ih ⊢
  by_cases e:w=x
  ·subst e;simp
  ·simp only [e,decide_false,ih,List.mem_cons,false_or]
theorem P2 (h:KeyIs sh enc val) (w:K):∀ M:List K,w∉M→oK sh (enc w) (val w) (sH enc val M)=some (sH enc val (M++[w]))
 |[],_=>by simp [sH,oK]
 |x::M,hn=>by
  have ih:=P2 h w M (fun q=>hn (List.mem_cons_of_mem _ q))
  have hx:w≠x:=fun e=>hn (by rw [e];simp)
  simp only [sH,List.map_cons,oK,h.eq,List.cons_append] at ih ⊢
  simp only [hx,decide_false,ih,Option.map_some]
theorem aCU (h:KeyIs sh enc val) (M:List K) (k:Nat):aH k (.map (sH enc val M)):=by
 simp only [aH,sH]
 intro q hq
 obtain ⟨w,hw,rfl⟩:=List.mem_map.1 hq
 exact ⟨AF (h.dk w) k,AF (h.dv w) k⟩
variable {S:List K→St} {obj:List AV} {p m N:Nat}
theorem UG (hk:KeyIs sh enc val) (h:MemAt S obj (sH enc val) p m N) (M:List K) (τ:St) (w:K):vC sh (S M++τ) (.map m) (enc w)=some (if w∈M then some (val w) else none):=by
 simp only [vC,h.map1,LZ hk,hk.eq]
 simp
theorem Z5 (hk:KeyIs sh enc val) (h:MemAt S obj (sH enc val) p m N) (M:List K) (τ:St) (w:K) (hw:w∉M):AC sh (S M++τ) (.map m) (enc w) (val w)=some (S (M++[w])++τ):=by
 simp only [AC,hk.eq,h.map1,P2 hk w M hw,Option.map_some,h.mset1]
 simp
end
end Go.Am.Room
set_option maxRecDepth 4000
namespace Go.Am.Room
def jH (x:List Int×List Int×Int):AV:=.tuple [ints x.1,ints x.2.1,.int .i64 x.2.2]
def qD (x:Int×Int):AV:=.tuple [.int .i64 x.1,.int .i64 x.2]
def kS (x:Span×Int×Int):AV:=.tuple [nX x.1,.int .i64 x.2.1,.int .i64 x.2.2]
end Go.Am.Room
set_option maxRecDepth 4000
namespace Go.Am.Room
theorem lE {n:Nat} {k:Nat} (h:k<n) (p:Int→Bool):(aR (k:Int) ((n:Int)-k).toNat).filter p=(if p (k:Int)=true then [(k:Int)] else [])++(aR ((k+1:Nat):Int) ((n:Int)-((k+1:Nat):Int)).toNat).filter p:=by
 rw [lN (by omega),List.filter_cons,show (k:Int)+1=((k+1:Nat):Int) by omega]
 split<;>rfl
theorem xB {n k:Nat} (h:k=n) (p:Int→Bool):(aR (k:Int) ((n:Int)-k).toNat).filter p=[]:=by
 rw [jY (by omega)];rfl
theorem rF {v:Net} {l:List Int} {k:Nat} (h:k<l.length) (b:Int):iF v (l.drop k) b=iF v (l.drop (k+1)) (if b<0∨w7 v l[k].toNat<w7 v b.toNat then l[k] else b):=by
 rw [List.drop_eq_getElem_cons h,iF]
theorem FR {v:Net} {t:Nat} (h:t<v.trams.length):w7 v t=v.trams[t].due:=by simp [w7,h]
theorem LF {v:Net} {l:List State}:∀ t∈vZ v l,0≤t∧t<v.trams.length:=fun t ht=>by
 have:=(dM _ _ _).1 (List.mem_filter.1 ht).1
 omega
theorem GY (v:Net) (l:List State):(vZ v l).length≤v.trams.length:=by
 have:=List.length_filter_le (rL v l) (aR 0 v.trams.length)
 rw [iV] at this
 exact this
end Go.Am.Room
set_option maxRecDepth 4000
namespace Go.Am.Room
instance (l:List (List (List Int))):Dats (l.map aJ):=⟨cV oS l⟩
theorem bJ (l:List (List Int)):aJ l = .lit (l.map ints) false none:=by simp only [aJ]
def mZ (x:List (List Int)×List Int×Int):AV:=.tuple [aJ x.1,ints x.2.1,.int .i64 x.2.2]
def nH (v:Net) (cs:List Int) (n:Nat):Bool:=(List.range n).all fun t=>kU v t (fV cs t)
theorem y0 (v:Net) (cs:List Int) (n:Nat):nH v cs (n+1)=(nH v cs n&&kU v n (fV cs n)):=by simp [nH,List.range_succ,List.all_append]
theorem DV {v:Net} {cs:List Int} {k:Nat} (h:nH v cs k=false) {j:Nat} (hj:k≤j):nH v cs j=false:=by
 simp only [nH,List.all_eq_false,List.mem_range] at h ⊢
 obtain ⟨a,ha,h1⟩:=h
 exact ⟨a,by omega,h1⟩
theorem yV {v:Net} {t:Nat} {z:Tram} (h:v.trams[t]? = some z) (c:Int):kU v t c=(!decide (c = -1)&&decide (c≤z.due)):=by simp only [kU,w7,h]
theorem FX {v:Net} {t:Nat} (h:t<v.trams.length):eO (jM v) t=v.trams[t].path:=by simp [eO,jM,h]
theorem FH {ps:List (List Int)} {t:Nat} (h:t<ps.length):eO ps t=ps[t]:=by simp [eO,h]
def HK (v:Net) (ps:List (List Int)) (t:Int):Bool:=!decide (eO ps t.toNat=eO (jM v) t.toNat)
theorem xF {v:Net} {t:Nat} (h:t<v.trams.length):gO v t=v.trams[t].frm:=by simp [gO,h]
end Go.Am.Room
set_option maxRecDepth 4000
namespace Go.Am.Room
instance (l:List (List Int)):Dats (l.map ints):=⟨cV j8 l⟩
def u7 (x:List Int×Int):AV:=.tuple [ints x.1,.int .i64 x.2]
def oN (x:Int×Int×Int):AV:=.tuple [.int .i64 x.1,.int .i64 x.2.1,.int .i64 x.2.2]
theorem j4 {v:Net} (h:dB v=0):Vd v∧bH v []≠[]:=by
 have hta:dB v=cC v (bY v).2.2:=rfl
 rw [hta,cC] at h
 split at h
 ·rename_i q
  refine ⟨dI q,fun e=>?_⟩
  rw [e] at h;simp at h
 ·rename_i q;exact absurd h q
end Go.Am.Room
set_option maxRecDepth 4000
namespace Go.Am.Room
def pF (v:Net) (r:Int) (k:Nat):Nat:=((List.range k).filter fun t=>(dQ v (gO v t) [r]).isEmpty).length
theorem B4 (v:Net) (r:Int) (k:Nat):pF v r (k+1)=pF v r k+(if (dQ v (gO v k) [r]).isEmpty=true then 1 else 0):=by
 rw [pF,List.range_succ,List.filter_append,List.length_append,pF]
 by_cases e:(dQ v (gO v k) [r]).isEmpty=true
 ·simp [e]
 ·simp [e]
theorem GH (v:Net) (r:Int) (k:Nat):pF v r k≤k:=by
 have:=List.length_filter_le (fun t=>(dQ v (gO v t) [r]).isEmpty) (List.range k)
 rw [List.length_range] at this
 exact this
theorem zO {v:Net} {k:Nat} (h:k<v.rails.length) (b:Int×Int):oZ v (aR (k:Int) ((v.rails.length:Int)-k).toNat) b=oZ v (aR ((k+1:Nat):Int) ((v.rails.length:Int)-((k+1:Nat):Int)).toNat) (if v.rails[k].shut=1 then b else if b.1<0∨b.2<tF v k then ((k:Int),tF v k) else b):=by
 rw [lN (by omega),oZ,show (k:Int)+1=((k+1:Nat):Int) by omega,wL h]
end Go.Am.Room
set_option maxRecDepth 4000
namespace Go.Am.Room
def o0 {α:Type} (p:α→Bool):List α→Nat→Int
 |[],_=>-1
 |x::xs,k=>if p x then k else o0 p xs (k+1)
theorem xV {α:Type} (p:α→Bool):∀ (l:List α) (k:Nat),decide (0≤o0 p l k)=l.any p
 |[],k=>by simp [o0]
 |x::xs,k=>by
  cases h:p x
  ·simp [o0,h,xV p xs (k+1)]
  ·simp [o0,h]
theorem N3 (σ:St) (f:AV) (l:List Int) (p:Int→Bool) (hl:l.length<9223372036854775808) (hk:u4 σ f) (h:∀ x∈l,j9 T f [.int .i64 x] σ (.bool (p x))):j9 T (.func 114 [] []) [ints l,f] σ (.int .i64 (o0 p l 0)):=by
 refine eX (af:=a114) rfl (by simp [a114]) ?_
 have hk0:=hk.nil
 (repeat (first|simp only [↓QA,QB,Nat.reduceLT,reduceIte,Nat.reduceEqDiff,Nat.reduceAdd,Nat.reduceLeDiff,Nat.reduceMul,Nat.reduceBEq,a114]|refine rd0 rfl ?_))
 refine bT (S:=Nat) 0 (fun k=>k≤l.length∧o0 p (l.drop k) k=o0 p l 0) (fun k=>l.length-k) (fun k=>[(0,ints l),(1,f),(7,.int .i64 l.length),(8,.int .i64 k)]) (fun _=>σ) ⟨Nat.zero_le _,by simp⟩ rfl ?_ fun k hk1=>?_
 ·try simp only [aC,QE,Nat.reduceLT,reduceIte,Nat.reduceEqDiff,Nat.reduceAdd,Nat.reduceLeDiff,Nat.reduceMul,Nat.reduceBEq]
  try simp
 ·obtain ⟨hkl,hi⟩:=hk1
  (repeat (first|simp only [↓QA,QB,Nat.reduceLT,reduceIte,Nat.reduceEqDiff,Nat.reduceAdd,Nat.reduceLeDiff,Nat.reduceMul,Nat.reduceBEq,RX]|refine rd0 rfl ?_))
  refine aG (fun hd=>?_) fun hd=>?_
  ·have hlt:k<l.length:=by simpa using hd
   rw [List.drop_eq_getElem_cons hlt] at hi
   simp only [o0] at hi
   have hw:=bP hlt hl
   (repeat (first|simp only [↓QA,QB,Nat.reduceLT,reduceIte,Nat.reduceEqDiff,Nat.reduceAdd,Nat.reduceLeDiff,Nat.reduceMul,Nat.reduceBEq,hlt]|refine rd0 rfl ?_))
   refine cM (h l[k] (List.getElem_mem hlt)) ?_
   (repeat (first|simp only [↓QA,QB,Nat.reduceLT,reduceIte,Nat.reduceEqDiff,Nat.reduceAdd,Nat.reduceLeDiff,Nat.reduceMul,Nat.reduceBEq]|refine rd0 rfl ?_))
   cases hp:p l[k]
   ·(repeat (first|simp only [↓QA,QB,Nat.reduceLT,reduceIte,Nat.reduceEqDiff,Nat.reduceAdd,Nat.reduceLeDiff,Nat.reduceMul,Nat.reduceBEq,hw]|refine rd0 rfl ?_))
    refine ⟨k+1,⟨by omega,by rw [←hi,hp];rfl⟩,by omega,?_⟩
    try simp only [aC,QE,Nat.reduceLT,reduceIte,Nat.reduceEqDiff,Nat.reduceAdd,Nat.reduceLeDiff,Nat.reduceMul,Nat.reduceBEq,hw,hk0,Nat.le_refl]
   ·(repeat (first|simp only [↓QA,QB,Nat.reduceLT,reduceIte,Nat.reduceEqDiff,Nat.reduceAdd,Nat.reduceLeDiff,Nat.reduceMul,Nat.reduceBEq]|refine rd0 rfl ?_))
    refine fQ [] (by first|rfl|simp) ?_
    rw [←hi,hp]
    try simp only [QS,QC,Nat.reduceLT,reduceIte,Nat.reduceEqDiff,Nat.reduceAdd,Nat.reduceLeDiff,Nat.reduceMul,Nat.reduceBEq]
  ·have hlt:k=l.length:=by simp at hd;omega
   (repeat (first|simp only [↓QA,QB,Nat.reduceLT,reduceIte,Nat.reduceEqDiff,Nat.reduceAdd,Nat.reduceLeDiff,Nat.reduceMul,Nat.reduceBEq]|refine rd0 rfl ?_))
   refine fQ [] (by first|rfl|simp) ?_
   rw [←hi,hlt,List.drop_length]
   try simp only [QS,QC,Nat.reduceLT,reduceIte,Nat.reduceEqDiff,Nat.reduceAdd,Nat.reduceLeDiff,Nat.reduceMul,Nat.reduceBEq,o0]
theorem rT (σ:St) (f:AV) (l:List Int) (p:Int→Bool) (hl:l.length<9223372036854775808) (hk:u4 σ f) (h:∀ x∈l,j9 T f [.int .i64 x] σ (.bool (p x))):j9 T (.func 98 [] []) [ints l,f] σ (.bool (l.any p)):=by
 refine eX (af:=a98) rfl (by simp [a98]) ?_
 (repeat (first|simp only [↓QA,QB,Nat.reduceLT,reduceIte,Nat.reduceEqDiff,Nat.reduceAdd,Nat.reduceLeDiff,Nat.reduceMul,Nat.reduceBEq,a98]|refine rd0 rfl ?_))
 refine cM (N3 σ f l p hl hk h) ?_
 (repeat (first|simp only [↓QA,QB,Nat.reduceLT,reduceIte,Nat.reduceEqDiff,Nat.reduceAdd,Nat.reduceLeDiff,Nat.reduceMul,Nat.reduceBEq]|refine rd0 rfl ?_))
 refine fQ [] (by first|rfl|simp) ?_
 rw [←xV p l 0]
 try simp only [QS,QC,Nat.reduceLT,reduceIte,Nat.reduceEqDiff,Nat.reduceAdd,Nat.reduceLeDiff,Nat.reduceMul,Nat.reduceBEq]
def mX (lo hi n:Int):Bool:=decide (n<lo)||decide (hi<n)
theorem I3 (lo hi n:Int):j9 T (.func 99 [] [.ptr 0 0,.ptr 1 0]) [.int .i64 n] [.cells [.int .i64 lo],.cells [.int .i64 hi]] (.bool (mX lo hi n)):=by
 refine eX (af:=a99) rfl (by simp [a99]) ?_
 (repeat (first|simp only [↓QA,QB,Nat.reduceLT,reduceIte,Nat.reduceEqDiff,Nat.reduceAdd,Nat.reduceLeDiff,Nat.reduceMul,Nat.reduceBEq,a99]|refine rd0 rfl ?_))
 refine aG (fun h=>?_) fun h=>?_
 all_goals
  (repeat (first|simp only [↓QA,QB,Nat.reduceLT,reduceIte,Nat.reduceEqDiff,Nat.reduceAdd,Nat.reduceLeDiff,Nat.reduceMul,Nat.reduceBEq,h]|refine rd0 rfl ?_))
  refine fQ [] (by first|rfl|simp) ?_
  try simp only [QS,QC,Nat.reduceLT,reduceIte,Nat.reduceEqDiff,Nat.reduceAdd,Nat.reduceLeDiff,Nat.reduceMul,Nat.reduceBEq,mX,h]
  try simp
def pS (lo hi:Int) (ns:List Int):Bool:=ns.any (mX lo hi)
theorem cG (lo hi:Int) (ns:List Int) (hl:ns.length<9223372036854775808):dL T 63 [.int .i64 lo,.int .i64 hi,ints ns] (.bool (pS lo hi ns)):=by
 refine aU (af:=a63) rfl (by simp [a63]) dd ?_
 (repeat (first|simp only [↓QA,QB,Nat.reduceLT,reduceIte,Nat.reduceEqDiff,Nat.reduceAdd,Nat.reduceLeDiff,Nat.reduceMul,Nat.reduceBEq,a63]|refine rd0 rfl ?_))
 refine cM (rT _ _ ns (mX lo hi) hl (fun τ=>?_) fun x _=>I3 lo hi x) ?_
 ·try simp only [QS,QC,Nat.reduceLT,reduceIte,Nat.reduceEqDiff,Nat.reduceAdd,Nat.reduceLeDiff,Nat.reduceMul,Nat.reduceBEq]
 ·(repeat (first|simp only [↓QA,QB,Nat.reduceLT,reduceIte,Nat.reduceEqDiff,Nat.reduceAdd,Nat.reduceLeDiff,Nat.reduceMul,Nat.reduceBEq,pS]|refine rd0 rfl ?_))
theorem TS (lo hi n:Int):j9 T (.func 115 [] [.ptr 0 0,.ptr 1 0]) [.int .i64 n] [.cells [.int .i64 lo],.cells [.int .i64 hi]] (.bool (mX lo hi n)):=by
 refine eX (af:=a115) rfl (by simp [a115]) ?_
 (repeat (first|simp only [↓QA,QB,Nat.reduceLT,reduceIte,Nat.reduceEqDiff,Nat.reduceAdd,Nat.reduceLeDiff,Nat.reduceMul,Nat.reduceBEq,a115]|refine rd0 rfl ?_))
 refine aG (fun h=>?_) fun h=>?_
 all_goals
  (repeat (first|simp only [↓QA,QB,Nat.reduceLT,reduceIte,Nat.reduceEqDiff,Nat.reduceAdd,Nat.reduceLeDiff,Nat.reduceMul,Nat.reduceBEq,h]|refine rd0 rfl ?_))
  refine fQ [] (by first|rfl|simp) ?_
  try simp only [QS,QC,Nat.reduceLT,reduceIte,Nat.reduceEqDiff,Nat.reduceAdd,Nat.reduceLeDiff,Nat.reduceMul,Nat.reduceBEq,mX,h]
  try simp
theorem P4 (lo hi:Int) (ns:List Int) (hl:ns.length<9223372036854775808):dL T 100 [.int .i64 lo,.int .i64 hi,ints ns] (.bool (pS lo hi ns)):=by
 refine aU (af:=a100) rfl (by simp [a100]) dd ?_
 (repeat (first|simp only [↓QA,QB,Nat.reduceLT,reduceIte,Nat.reduceEqDiff,Nat.reduceAdd,Nat.reduceLeDiff,Nat.reduceMul,Nat.reduceBEq,a100]|refine rd0 rfl ?_))
 refine cM (rT _ _ ns (mX lo hi) hl (fun τ=>?_) fun x _=>TS lo hi x) ?_
 ·try simp only [QS,QC,Nat.reduceLT,reduceIte,Nat.reduceEqDiff,Nat.reduceAdd,Nat.reduceLeDiff,Nat.reduceMul,Nat.reduceBEq]
 ·(repeat (first|simp only [↓QA,QB,Nat.reduceLT,reduceIte,Nat.reduceEqDiff,Nat.reduceAdd,Nat.reduceLeDiff,Nat.reduceMul,Nat.reduceBEq,pS]|refine rd0 rfl ?_))
theorem y8 (s:ByteArray):∀ n k,k≤n→iI s k=false→iI s n=false
  | 0, k, h, h1 => by have : k = 0 := by omega
                      subst this;exact h1
  |n+1,k,h,h1=>by
    by_cases hk:k=n+1
    · subst hk;exact h1
    · simp [iI,y8 s n k (by omega) h1]
theorem kO (lo hi n:Int):pS lo hi [n] = !inR n lo hi:=by
 rw [Bool.eq_iff_iff];simp [pS,mX,inR]
theorem L9 (lo hi n m:Int):pS lo hi [n,m]=(!inR n lo hi||!inR m lo hi):=by
 rw [Bool.eq_iff_iff];simp [pS,mX,inR]
theorem y7 (s:ByteArray) (hs:s.size<9223372036854775808):dL T 68 [.str s] (.bool (pT s)):=by
 refine aU (af:=a68) rfl (by simp [a68]) dd ?_
 (repeat (first|simp only [↓QA,QB,Nat.reduceLT,reduceIte,Nat.reduceEqDiff,Nat.reduceAdd,Nat.reduceLeDiff,Nat.reduceMul,Nat.reduceBEq,a68]|refine rd0 rfl ?_))
 refine bT (S:=Nat) 0 (fun k=>k≤s.size∧iI s k=true) (fun k=>s.size-k) (fun k=>[(0,.str s),(7,.ptr 0 0)]) (fun k=>[.siter s k]) ⟨Nat.zero_le _,rfl⟩ rfl ?_ fun k hk=>?_
 ·try simp only [aC,QE,Nat.reduceLT,reduceIte,Nat.reduceEqDiff,Nat.reduceAdd,Nat.reduceLeDiff,Nat.reduceMul,Nat.reduceBEq]
  try simp
 ·obtain ⟨hkl,hok⟩:=hk
  by_cases hk1:k<s.size
  ·obtain ⟨R,hR⟩:∃ R:Int,((Utf8.decode s k).1:Int)=R:=⟨_,rfl⟩
   obtain ⟨W,hW⟩:∃ W,(Utf8.decode s k).2=W:=⟨_,rfl⟩
   have hstep:iI s (k+1)=BD k (eY s k):=by simp [iI,hok]
   have hbl:=EI s k
   have key:(97≤R∧R≤122∨0<k∧(R=46∨48≤R∧R≤57))→W=1∧iI s (k+1)=true:=by
    intro h
    by_cases hb:eY s k<128
    ·have:=wZ hk1 hb
     rw [this] at hR hW
     have hR':R=eY s k:=by simp at hR;omega
     refine ⟨hW.symm,?_⟩
     rw [hstep,BD,←hR']
     simp [inR]
     omega
    ·have:=HF hk1 (by omega)
     omega
   have key2:¬(97≤R∧R≤122∨0<k∧(R=46∨48≤R∧R≤57))→pT s=false:=by
    intro h
    have:iI s (k+1)=false:=by
     rw [hstep,BD]
     by_cases hb:eY s k<128
     ·have:=wZ hk1 hb
      rw [this] at hR hW
      have hR':R=eY s k:=by simp at hR;omega
      rw [←hR']
      simp [inR]
      omega
     ·simp [inR];omega
    simp [pT,y8 s s.size (k+1) (by omega) this]
   have go:∀ (e:Env),W=1∧iI s (k+1)=true→Env.get e 0 = .str s→Env.get e 7 = .ptr 0 0→∃ s',(s'≤s.size∧iI s s'=true)∧s.size-s'<s.size-k∧aC [.siter s k] e [.siter s (k+W)] [(0,.str s),(7,.ptr 0 0)] [.siter s s']:=by
    intro e h e0 e7
    refine ⟨k+1,⟨by omega,h.2⟩,by omega,?_⟩
    try simp only [aC,QE,Nat.reduceLT,reduceIte,Nat.reduceEqDiff,Nat.reduceAdd,Nat.reduceLeDiff,Nat.reduceMul,Nat.reduceBEq,e0,e7,h.1]
    try simp [aH]
   (repeat (first|simp only [↓QA,QB,Nat.reduceLT,reduceIte,Nat.reduceEqDiff,Nat.reduceAdd,Nat.reduceLeDiff,Nat.reduceMul,Nat.reduceBEq,RO,R9 hk1,hR,hW]|refine rd0 rfl ?_))
   cases h1:decide (97≤R)
   ·have h1':¬97≤R:=by simpa using h1
    (repeat (first|simp only [↓QA,QB,Nat.reduceLT,reduceIte,Nat.reduceEqDiff,Nat.reduceAdd,Nat.reduceLeDiff,Nat.reduceMul,Nat.reduceBEq,h1]|refine rd0 rfl ?_))
    cases h3:((k:Int)==0)
    ·have h3':0<k:=by simp at h3;omega
     (repeat (first|simp only [↓QA,QB,Nat.reduceLT,reduceIte,Nat.reduceEqDiff,Nat.reduceAdd,Nat.reduceLeDiff,Nat.reduceMul,Nat.reduceBEq,h3]|refine rd0 rfl ?_))
     cases h4:(R==46)
     ·have h4':R≠46:=by simpa using h4
      (repeat (first|simp only [↓QA,QB,Nat.reduceLT,reduceIte,Nat.reduceEqDiff,Nat.reduceAdd,Nat.reduceLeDiff,Nat.reduceMul,Nat.reduceBEq,h4]|refine rd0 rfl ?_))
      cases h5:decide (R<48)
      ·have h5':¬R<48:=by simpa using h5
       (repeat (first|simp only [↓QA,QB,Nat.reduceLT,reduceIte,Nat.reduceEqDiff,Nat.reduceAdd,Nat.reduceLeDiff,Nat.reduceMul,Nat.reduceBEq,h5]|refine rd0 rfl ?_))
       cases h6:decide (57<R)
       ·have h6':¬57<R:=by simpa using h6
        (repeat (first|simp only [↓QA,QB,Nat.reduceLT,reduceIte,Nat.reduceEqDiff,Nat.reduceAdd,Nat.reduceLeDiff,Nat.reduceMul,Nat.reduceBEq,h6]|refine rd0 rfl ?_))
        exact go _ (key (by omega)) (by try simp only [aC,QE,Nat.reduceLT,reduceIte,Nat.reduceEqDiff,Nat.reduceAdd,Nat.reduceLeDiff,Nat.reduceMul,Nat.reduceBEq]) (by try simp only [aC,QE,Nat.reduceLT,reduceIte,Nat.reduceEqDiff,Nat.reduceAdd,Nat.reduceLeDiff,Nat.reduceMul,Nat.reduceBEq])
       ·have h6':57<R:=by simpa using h6
        rw [key2 (by omega)]
        (repeat (first|simp only [↓QA,QB,Nat.reduceLT,reduceIte,Nat.reduceEqDiff,Nat.reduceAdd,Nat.reduceLeDiff,Nat.reduceMul,Nat.reduceBEq,h6]|refine rd0 rfl ?_))
      ·have h5':R<48:=by simpa using h5
       rw [key2 (by omega)]
       (repeat (first|simp only [↓QA,QB,Nat.reduceLT,reduceIte,Nat.reduceEqDiff,Nat.reduceAdd,Nat.reduceLeDiff,Nat.reduceMul,Nat.reduceBEq,h5]|refine rd0 rfl ?_))
     ·have h4':R=46:=by simpa using h4
      (repeat (first|simp only [↓QA,QB,Nat.reduceLT,reduceIte,Nat.reduceEqDiff,Nat.reduceAdd,Nat.reduceLeDiff,Nat.reduceMul,Nat.reduceBEq,h4]|refine rd0 rfl ?_))
      exact go _ (key (by omega)) (by try simp only [aC,QE,Nat.reduceLT,reduceIte,Nat.reduceEqDiff,Nat.reduceAdd,Nat.reduceLeDiff,Nat.reduceMul,Nat.reduceBEq]) (by try simp only [aC,QE,Nat.reduceLT,reduceIte,Nat.reduceEqDiff,Nat.reduceAdd,Nat.reduceLeDiff,Nat.reduceMul,Nat.reduceBEq])
    ·have h3':k=0:=by simp at h3;omega
     rw [key2 (by omega)]
     (repeat (first|simp only [↓QA,QB,Nat.reduceLT,reduceIte,Nat.reduceEqDiff,Nat.reduceAdd,Nat.reduceLeDiff,Nat.reduceMul,Nat.reduceBEq,h3]|refine rd0 rfl ?_))
   ·have h1':97≤R:=by simpa using h1
    (repeat (first|simp only [↓QA,QB,Nat.reduceLT,reduceIte,Nat.reduceEqDiff,Nat.reduceAdd,Nat.reduceLeDiff,Nat.reduceMul,Nat.reduceBEq,h1]|refine rd0 rfl ?_))
    cases h2:decide (R≤122)
    ·have h2':¬R≤122:=by simpa using h2
     (repeat (first|simp only [↓QA,QB,Nat.reduceLT,reduceIte,Nat.reduceEqDiff,Nat.reduceAdd,Nat.reduceLeDiff,Nat.reduceMul,Nat.reduceBEq,h2]|refine rd0 rfl ?_))
     cases h3:((k:Int)==0)
     ·have h3':0<k:=by simp at h3;omega
      (repeat (first|simp only [↓QA,QB,Nat.reduceLT,reduceIte,Nat.reduceEqDiff,Nat.reduceAdd,Nat.reduceLeDiff,Nat.reduceMul,Nat.reduceBEq,h3]|refine rd0 rfl ?_))
      cases h4:(R==46)
      ·have h4':R≠46:=by simpa using h4
       (repeat (first|simp only [↓QA,QB,Nat.reduceLT,reduceIte,Nat.reduceEqDiff,Nat.reduceAdd,Nat.reduceLeDiff,Nat.reduceMul,Nat.reduceBEq,h4]|refine rd0 rfl ?_))
       cases h5:decide (R<48)
       ·have h5':¬R<48:=by simpa using h5
        (repeat (first|simp only [↓QA,QB,Nat.reduceLT,reduceIte,Nat.reduceEqDiff,Nat.reduceAdd,Nat.reduceLeDiff,Nat.reduceMul,Nat.reduceBEq,h5]|refine rd0 rfl ?_))
        cases h6:decide (57<R)
        ·have h6':¬57<R:=by simpa using h6
         (repeat (first|simp only [↓QA,QB,Nat.reduceLT,reduceIte,Nat.reduceEqDiff,Nat.reduceAdd,Nat.reduceLeDiff,Nat.reduceMul,Nat.reduceBEq,h6]|refine rd0 rfl ?_))
         exact go _ (key (by omega)) (by try simp only [aC,QE,Nat.reduceLT,reduceIte,Nat.reduceEqDiff,Nat.reduceAdd,Nat.reduceLeDiff,Nat.reduceMul,Nat.reduceBEq]) (by try simp only [aC,QE,Nat.reduceLT,reduceIte,Nat.reduceEqDiff,Nat.reduceAdd,Nat.reduceLeDiff,Nat.reduceMul,Nat.reduceBEq])
        ·have h6':57<R:=by simpa using h6
         rw [key2 (by omega)]
         (repeat (first|simp only [↓QA,QB,Nat.reduceLT,reduceIte,Nat.reduceEqDiff,Nat.reduceAdd,Nat.reduceLeDiff,Nat.reduceMul,Nat.reduceBEq,h6]|refine rd0 rfl ?_))
       ·have h5':R<48:=by simpa using h5
        rw [key2 (by omega)]
        (repeat (first|simp only [↓QA,QB,Nat.reduceLT,reduceIte,Nat.reduceEqDiff,Nat.reduceAdd,Nat.reduceLeDiff,Nat.reduceMul,Nat.reduceBEq,h5]|refine rd0 rfl ?_))
      ·have h4':R=46:=by simpa using h4
       (repeat (first|simp only [↓QA,QB,Nat.reduceLT,reduceIte,Nat.reduceEqDiff,Nat.reduceAdd,Nat.reduceLeDiff,Nat.reduceMul,Nat.reduceBEq,h4]|refine rd0 rfl ?_))
       exact go _ (key (by omega)) (by try simp only [aC,QE,Nat.reduceLT,reduceIte,Nat.reduceEqDiff,Nat.reduceAdd,Nat.reduceLeDiff,Nat.reduceMul,Nat.reduceBEq]) (by try simp only [aC,QE,Nat.reduceLT,reduceIte,Nat.reduceEqDiff,Nat.reduceAdd,Nat.reduceLeDiff,Nat.reduceMul,Nat.reduceBEq])
     ·have h3':k=0:=by simp at h3;omega
      rw [key2 (by omega)]
      (repeat (first|simp only [↓QA,QB,Nat.reduceLT,reduceIte,Nat.reduceEqDiff,Nat.reduceAdd,Nat.reduceLeDiff,Nat.reduceMul,Nat.reduceBEq,h3]|refine rd0 rfl ?_))
    ·have h2':R≤122:=by simpa using h2
     (repeat (first|simp only [↓QA,QB,Nat.reduceLT,reduceIte,Nat.reduceEqDiff,Nat.reduceAdd,Nat.reduceLeDiff,Nat.reduceMul,Nat.reduceBEq,h2]|refine rd0 rfl ?_))
     exact go _ (key (by omega)) (by try simp only [aC,QE,Nat.reduceLT,reduceIte,Nat.reduceEqDiff,Nat.reduceAdd,Nat.reduceLeDiff,Nat.reduceMul,Nat.reduceBEq]) (by try simp only [aC,QE,Nat.reduceLT,reduceIte,Nat.reduceEqDiff,Nat.reduceAdd,Nat.reduceLeDiff,Nat.reduceMul,Nat.reduceBEq])
  ·have hk2:k=s.size:=by omega
   (repeat (first|simp only [↓QA,QB,Nat.reduceLT,reduceIte,Nat.reduceEqDiff,Nat.reduceAdd,Nat.reduceLeDiff,Nat.reduceMul,Nat.reduceBEq,RO,PK hk1]|refine rd0 rfl ?_))
   ((first|refine eT (P4 1 16 [(s.size:Int)] (by simp)) (by simp [clr,clrs,ints]) (by simp [okV,okVs]) ?_|refine fH (P4 1 16 [(s.size:Int)] (by simp)) (by simp [clr,clrs,ints]) (by simp [okV,okVs]) ?_);(repeat (first|simp only [↓QA,QB,Nat.reduceLT,reduceIte,Nat.reduceEqDiff,Nat.reduceAdd,Nat.reduceLeDiff,Nat.reduceMul,Nat.reduceBEq]|refine rd0 rfl ?_)))
   rw [kO]
   (repeat (first|simp only [↓QA,QB,Nat.reduceLT,reduceIte,Nat.reduceEqDiff,Nat.reduceAdd,Nat.reduceLeDiff,Nat.reduceMul,Nat.reduceBEq]|refine rd0 rfl ?_))
   simp [pT,←hk2,hok]
def vO (x:Int×Int):AV:=.tuple [.int .i64 x.1,.int .i64 x.2]
theorem CR {α:Type} (f:α→ByteArray) (s:ByteArray):∀ l:List α,l.any (fun x=>decide (f x=s))=decide (lD s (l.map f)≠(l.map f).length)
 |[]=>by simp [lD]
 |x::xs=>by
  simp only [List.any_cons,CR f s xs,List.map_cons,lD,List.length_cons]
  by_cases h:f x=s
  ·simp [h]
  ·simp [h]
end Go.Am.Room
