/- A part of the proof of TopRipening: an abstract machine, or what functions come to on it. -/
import Derived.Test.YtckllniniolhcaaGreatTopRipeningQ1
import Derived.DeepKeys3
import Derived.OrdersIn
import Derived.RangeFuncRecord
import Derived.RangeFuncLeaves
set_option linter.unusedVariables false
set_option linter.unusedSimpArgs false
set_option linter.defProp false
namespace Go.Am
variable {P:Program} {hh:String→Bool} {G:Gh} {w:World} {σ σ':St} {env:Env}
def wW (P:Program) (hh:String→Bool) (G:Gh) (w:World) (v:AV) (σ':St) (r:Result Next):Prop :=
 ∃ nx w' G',r = .ok nx w'∧((∃ u,nx = .value u∧RelV G' w' v u)∨(nx = .skip∧v = .tuple []))∧RelS P hh G' w' σ'∧Evo G w G' w'
theorem wW.val {v:AV} {u:Value} (hS:RelS P hh G w σ) (h:RelV G w v u):wW P hh G w v σ (.ok (.value u) w) :=
 ⟨_,w,G,rfl,.inl ⟨u,rfl,h⟩,hS,.refl _ _⟩
theorem BY {t:TypeId} {z:AV} (h:JM P t=some z):∃ i v,P.info? t=some i∧i.zero=some v∧ofValue v=some z∧∀ w,(zeroValue t).run P w = .ok v w:=by
 unfold JM at h
 split at h
 ·rename_i i hi
  split at h
  ·rename_i v hv
   exact ⟨i,v,hi,hv,h,fun w=>by simp [zeroValue,typeInfo,hi,hv]⟩
  ·cases h
 ·cases h
theorem i0 {t:TypeId} {z:List AV} (h:fV P t=some z) :
  ∃ i v,P.info? t=some i∧i.zero=some v∧i.size=z.length∧0<z.length∧(∀ w,(zeroValue t).run P w = .ok v w)∧v.cells.size=z.length∧z.all (·.cell)=true ∧
   ∀ G w,(∀ (i:Nat) (x:AV) (u:Value),z[i]? = some x→v.cells[i]? = some u→RelV G w x u)∧∀ u∈v.cells.toList,u.oneCell'=true:=by
 unfold fV at h
 split at h
 ·rename_i y n h1 h2
  split at h
  ·rename_i hc
   cases h
   obtain ⟨i,v,hi,hz,hv,hrun⟩:=BY h1
   obtain ⟨_,hn,j,hj,hjs⟩:=eX (P:=P) h2 default
   rw [hi] at hj
   cases hj
   have hr:∀ G w,RelV G w y v:=fun G w=>uA hv
   have hcells:=fun G w=>(hr G w).cells hc.2
   refine ⟨i,v,hi,hz,by rw [hjs,hc.1],by rw [hc.1];exact hn,hrun,(hcells ⟨fun _=>none,fun _=>none,fun _=>none,fun _=>none,fun _=>False,0,#[],fun _=>none⟩ default).1,hc.2,fun G w=>⟨(hcells G w).2.1,(hcells G w).2.2⟩⟩
  ·cases h
 ·cases h
theorem FT {t:TypeId} {z:List AV} (h:fV P t=some z) (w:World) :
  ∃ vs:Array Value,(Instr.alloc t true (.tuple #[])).run P w = .ok (.pointer (some ⟨w.heap.size,0,none⟩)) (w.alloc (.cells vs t))∧vs.size=z.length ∧
   ∀ G w,(∀ (i:Nat) (x:AV) (u:Value),z[i]? = some x→vs[i]? = some u→RelV G w x u):=by
 obtain ⟨i,v,hi,hz,hs,h0,hrun,hsz,hcell,hr⟩:=i0 h
 exact ⟨v.cells,by simp [Instr.alloc,hrun,newVar,newRow],hsz,fun G w=>(hr G w).1⟩
theorem ES {cs:List AV} {vs:Array Value} {T:TypeId} (hl:cs.length≤vs.size) (hr:∀ (i:Nat) (x:AV) (u:Value),cs[i]? = some x→vs[i]? = some u→RelV G (w.alloc (.cells vs T)) x u) :
  g7 P hh G (w.alloc (.cells vs T)) (.cells cs) w.heap.size :=
 ⟨vs,T,by rw [d9,if_pos rfl],hl,hr⟩
theorem t9 {cs:List AV} {vs:Array Value} {T:TypeId} (hS:RelS P hh G w σ) (hl:cs.length≤vs.size) (hr:∀ (i:Nat) (x:AV) (u:Value),cs[i]? = some x→vs[i]? = some u→RelV G w x u) :
  RelS P hh (G.withLoc σ.length w.heap.size) (w.alloc (.cells vs T)) (σ++[.cells cs])∧Evo G w (G.withLoc σ.length w.heap.size) (w.alloc (.cells vs T)):=by
 have he:=(kS hS (.cells vs T)).trans (m8 (b:=w.heap.size) (tA hS (Nat.le_refl _)))
 exact hS.new (ES hl fun i x u h1 h2=>(hr i x u h1 h2).mono he)
theorem eI {id b:Nat}:(G.withLoc id b).loc id=some b:=by simp [Gh.withLoc]
theorem OY (vs:List Value):∀ (k:Nat) (cs:Array Value) (off:Nat),off+k+vs.length≤cs.size →
  ((vs.zipIdx k).foldl (fun cs (p:Value×Nat)=>cs.setIfInBounds (off+p.2) p.1) cs).toList=cs.toList.take (off+k)++vs++cs.toList.drop (off+k+vs.length):=by
 induction vs with
 |nil=>intro k cs off h;simp
 |cons v vs ih =>
  intro k cs off h
  simp only [List.zipIdx_cons,List.foldl_cons]
  rw [ih (k+1) _ off (by simp at h ⊢;omega),Array.toList_setIfInBounds]
  have e:=list_seg_step cs.toList (off+k) v vs (by simp at h ⊢;omega)
  simpa [Nat.add_assoc] using e
theorem EM {place:Nat→Option (Nat×Nat)} {cells:Array Value} {i off n:Nat} {v:Value} {rest:List (Nat×Value)} (hp:place i=some (off,n)) (hn:v.cells.size=n) (hle:off+n≤cells.size) :
  Instr.fill place cells ((i,v)::rest)=Instr.fill place (cells.toList.take off++v.cells.toList++cells.toList.drop (off+n)).toArray rest:=by
 have h1:¬(v.cells.size≠n∨cells.size<off+v.cells.size):=by omega
 have h2:=OY v.cells.toList 0 cells off (by simp;omega)
 simp only [Instr.fill,hp]
 rw [if_neg (by simpa using h1)]
 congr 1
 apply Array.ext'
 rw [←Array.foldl_toList]
 simp only [Array.toList_zipIdx]
 rw [h2]
 simp [hn]
theorem wB {t:TypeId} {place:Nat→Option (Nat×Nat)} {n:Nat} {a:Act} (hE:eT G w n env a.tmps)
  (hplace:∀ i off m,(match P.underlying t with
   |some (.struct fs)=>match fs[i]? with|some f=>(match fG P f.type with|some n=>some (f.offset,n)|none=>none)|none=>none
   |some (.array n e)=>if i<n then (match fG P e with|some m=>some (i*m,m)|none=>none) else none
   |_=>none)=some (off,m)→place i=some (off,m)) :
  ∀ {ops:List (Nat×Operand)} {ps:List (Nat×Nat×AOpd)} {cs cs':List AV} {vs:Array Value},mG P t ops=some ps→cF env cs ps=some cs'→cs.length=vs.size →
   (∀ (i:Nat) (x:AV) (u:Value),cs[i]? = some x→vs[i]? = some u→RelV G w x u) →
   ∃ vs',Instr.fill place vs (ops.map fun p=>(p.1,a.eval p.2))=some vs'∧cs'.length=vs'.size∧∀ (i:Nat) (x:AV) (u:Value),cs'[i]? = some x→vs'[i]? = some u→RelV G w x u
 |[],ps,cs,cs',vs,h1,h2,h3,h4=>by
  simp [mG] at h1
  subst h1
  simp [cF] at h2
  subst h2
  exact ⟨vs,rfl,h3,h4⟩
 |(i,x)::ops,ps,cs,cs',vs,h1,h2,h3,h4=>by
  simp only [mG] at h1
  split at h1
  ·rename_i off m b r hp hx hr
   cases h1
   simp only [cF] at h2
   split at h2
   ·rename_i hc
    simp only [Bool.and_eq_true,beq_iff_eq] at hc
    split at h2
    ·rename_i ds hset
     obtain ⟨q1,q2,q3⟩:=pY hset
     have hv:=cI (x:=x) hx hE
     obtain ⟨k1,k2,k3⟩:=hv.cells hc.2
     have hsz:(a.eval x).cells.size=m:=by rw [k1,hc.1]
     have hle:off+m≤vs.size:=by rw [hc.1] at q1;omega
     have hrel:=N0 (cs:=cs) (vs:=(b.ev env).cells) (cur:=vs.toList) (us:=(a.eval x).cells.toList) (G:=G) (w:=w) (off:=off) (by simpa using k1) q1 (by simp;omega)
      (fun i a v e1 e2=>h4 i a v e1 (by simpa using e2)) (fun i a v e1 e2=>k2 i a v e1 (by simpa using e2))
     simp only [List.map_cons]
     rw [EM (hplace _ _ _ hp) hsz hle]
     refine wB hE hplace hr h2 ?_ ?_
     ·rw [q3];simp;omega
     ·intro i y u e1 e2
      rw [q2] at e1
      refine hrel i y u e1 ?_
      simpa [hsz] using e2
    ·cases h2
   ·cases h2
  ·cases h1
theorem AL {w:World}:∀ {fs:List Field},fs.all (fun f=>(P.info? f.type).isSome)=true →
  (fs.mapM (fun f=>do pure (f.offset,←sizeOf f.type)):Sem (List (Nat×Nat))).run P w = .ok (fs.map fun f=>(f.offset,P.cellsOf f.type)) w
 |[],_=>by simp
 |f::fs,h=>by
  simp only [List.all_cons,Bool.and_eq_true] at h
  obtain ⟨i,hi⟩:=Option.isSome_iff_exists.1 h.1
  have ih:=AL (w:=w) h.2
  simp only [List.mapM_cons,Sem.run_bind,sizeOf,typeInfo,run_program,Result.andThen_ok,hi,Sem.run_pure]
  simp only [sizeOf,typeInfo] at ih
  rw [ih]
  simp [Program.cellsOf,hi]
theorem J9 {t:TypeId} {n:Nat} {a:Act} {parts:Array (Nat×Operand)} {z cs:List AV} {ps:List (Nat×Nat×AOpd)} (hS:RelS P hh G w σ) (hE:eT G w n env a.tmps)
  (hz:fV P t=some z) (hf:DW P t=true) (hp:mG P t parts.toList=some ps) (hb:cF env z ps=some cs) :
  ∃ u,(Instr.build t (parts.map fun (i,x)=>(i,a.eval x))).run P w = .ok u w∧RelV G w (.agg cs) u:=by
 obtain ⟨i,v,hi,hzv,hs,h0,hrun,hsz,hcell,hr⟩:=i0 hz
 have hlist:(parts.map fun (i,x)=>(i,a.eval x)).toList=parts.toList.map fun p=>(p.1,a.eval p.2):=by simp
 unfold DW at hf
 cases hu:P.underlying t with
 |none=>simp [hu] at hf
 |some d =>
  cases d<;>simp only [hu] at hf<;>try (cases hf;done)
  case array len e =>
   obtain ⟨ie,hie⟩:=Option.isSome_iff_exists.1 hf
   have hpl:∀ i off m,(match P.underlying t with
     |some (.struct fs)=>match fs[i]? with|some f=>(match fG P f.type with|some n=>some (f.offset,n)|none=>none)|none=>none
     |some (.array n e)=>if i<n then (match fG P e with|some m=>some (i*m,m)|none=>none) else none
     |_=>none)=some (off,m)→(fun i=>some (i*ie.size,ie.size)) i=some (off,m):=by
    intro i off m h
    simp only [hu] at h
    split at h
    ·cases hse:fG P e with
     |none=>simp [hse] at h
     |some q =>
      simp only [hse] at h
      cases h
      have:ie.size=m:=by
       unfold fG at hse
       simp only [hie] at hse
       split at hse
       ·cases hse
       ·cases hse;rfl
      simp [this]
    ·cases h
   obtain ⟨vs',e1,e2,e3⟩:=wB hE hpl hp hb hsz.symm (hr G w).1
   refine ⟨.agg vs',?_,.agg e2.symm e3⟩
   simp only [Instr.build,Sem.run_bind,hrun,Result.andThen_ok,run_underlying hu,sizeOf,typeInfo,run_program,hie,Sem.run_pure,hlist,e1]
  case struct fs =>
   have hpl:∀ i off m,(match P.underlying t with
     |some (.struct fs)=>match fs[i]? with|some f=>(match fG P f.type with|some n=>some (f.offset,n)|none=>none)|none=>none
     |some (.array n e)=>if i<n then (match fG P e with|some m=>some (i*m,m)|none=>none) else none
     |_=>none)=some (off,m)→(fun i=>(fs.map fun f=>(f.offset,P.cellsOf f.type))[i]?) i=some (off,m):=by
    intro i off m h
    simp only [hu] at h
    split at h
    ·rename_i f hfi
     split at h
     ·rename_i k hk
      cases h
      have:P.cellsOf f.type=m:=by
       obtain ⟨_,_,j,hj,hjs⟩:=eX (P:=P) hk default
       simp [Program.cellsOf,hj,hjs]
      simp [hfi,this]
     ·cases h
    ·cases h
   obtain ⟨vs',e1,e2,e3⟩:=wB hE hpl hp hb hsz.symm (hr G w).1
   refine ⟨.agg vs',?_,.agg e2.symm e3⟩
   have hm:=AL (P:=P) (w:=w) hf
   have hm':(fs.mapM (fun f=>do pure (f.offset,←sizeOf f.type)):Sem (Array (Nat×Nat))).run P w = .ok (fs.map fun f=>(f.offset,P.cellsOf f.type)) w:=by
    rw [Array.mapM_eq_mapM_toList,Sem.run_map,hm,Result.andThen_ok]
    congr 1
    apply Array.ext'
    simp
   simp only [Instr.build,Sem.run_bind,hrun,Result.andThen_ok,run_underlying hu,hm',hlist,e1,Sem.run_pure]
end Go.Am
namespace Go.Am
variable {P:Program} {hh:String→Bool} {G:Gh} {w:World} {σ σ':St} {env:Env}
theorem rQ {n:Nat} {xs:List AV} (h:aU n xs=true) {x:AV} (hx:x∈xs):x.cells.length=n∧x.cells.all (·.cell)=true:=by
 have:=List.all_eq_true.1 h x hx
 simp only [Bool.and_eq_true,beq_iff_eq] at this
 exact this
theorem lF {n:Nat} {xs:List AV} (h:aU n xs=true) {i:Nat} {x:AV} (hx:xs[i]? = some x):x.cells.length=n∧x.cells.all (·.cell)=true :=
 rQ h (List.mem_of_getElem? hx)
theorem i6 {n:Nat} {x:AV} {xs:List AV} (h:aU n (x::xs)=true):(x.cells.length=n∧x.cells.all (·.cell)=true)∧aU n xs=true :=
 ⟨rQ h (by simp),by simp only [aU,List.all_cons,Bool.and_eq_true] at h ⊢;exact h.2⟩
theorem sR {n:Nat} {xs ys:List AV}:aU n (xs++ys)=true↔aU n xs=true∧aU n ys=true:=by
 simp [aU,List.all_append]
theorem MC {x:AV} (h:x.cell=true):x.cells=[x]:=by cases x<;>first|rfl|simp [AV.cell] at h
theorem fD {n:Nat}:∀ {xs:List AV},aU n xs=true→(xs.flatMap AV.cells).length=xs.length*n
 |[],_=>by simp
 |x::xs,h=>by
  obtain ⟨h1,h2⟩:=i6 h
  simp only [List.flatMap_cons,List.length_append,h1.1,fD h2,List.length_cons,Nat.add_mul]
  omega
theorem yG {n:Nat}:∀ {xs:List AV},aU n xs=true→∀ {i j:Nat} {x c:AV},xs[i]? = some x→x.cells[j]? = some c→(xs.flatMap AV.cells)[i*n+j]? = some c
 |[],_,i,j,x,c,hx,_=>by simp at hx
 |y::xs,h,i,j,x,c,hx,hc=>by
  obtain ⟨h1,h2⟩:=i6 h
  simp only [List.flatMap_cons]
  cases i with
  |zero =>
   simp at hx
   subst hx
   rw [Nat.zero_mul,Nat.zero_add,List.getElem?_append_left (List.getElem?_eq_some_iff.1 hc).1]
   exact hc
  |succ i =>
   simp at hx
   rw [List.getElem?_append_right (by rw [h1.1,Nat.add_mul];omega),h1.1,show (i+1)*n+j-n=i*n+j from by rw [Nat.add_mul];omega]
   exact yG h2 hx hc
theorem KL {n:Nat}:∀ {xs:List AV},aU n xs=true→∀ {p:Nat} {c:AV},(xs.flatMap AV.cells)[p]? = some c→∃ i j x,xs[i]? = some x∧x.cells[j]? = some c∧p=i*n+j
 |[],_,p,c,hp=>by simp at hp
 |y::xs,h,p,c,hp=>by
  obtain ⟨h1,h2⟩:=i6 h
  simp only [List.flatMap_cons] at hp
  by_cases hlt:p<n
  ·rw [List.getElem?_append_left (by omega)] at hp
   exact ⟨0,p,y,rfl,hp,by omega⟩
  ·rw [List.getElem?_append_right (by omega),h1.1] at hp
   obtain ⟨i,j,x,e1,e2,e3⟩:=KL h2 hp
   exact ⟨i+1,j,x,by simpa using e1,e2,by rw [Nat.add_mul];omega⟩
theorem UM {n:Nat} {xs:List AV} (h:aU n xs=true):∀ c∈xs.flatMap AV.cells,c.cell=true:=by
 intro c hc
 obtain ⟨x,hx,hcx⟩:=List.mem_flatMap.1 hc
 exact List.all_eq_true.1 (rQ h hx).2 c hcx
theorem EO {sz n:Nat} {a:Act} (hE:eT G w n env a.tmps):∀ {parts:List (Nat×Operand)} {k:Nat} {xs:List AOpd} {vs:Array Value},
  lX k parts=some xs→aU sz (xs.map (·.ev env))=true→(k+xs.length)*sz≤vs.size →
  ∃ vs',Instr.fill (fun i=>some (i*sz,sz)) vs (parts.map fun p=>(p.1,a.eval p.2))=some vs'∧vs'.size=vs.size∧(∀ p,p<k*sz→vs'[p]? = vs[p]?) ∧
   ∀ (p:Nat) (c:AV) (u:Value),((xs.map (·.ev env)).flatMap AV.cells)[p]? = some c→vs'[k*sz+p]? = some u→RelV G w c u
 |[],k,xs,vs,h1,h2,h3=>by
  simp [lX] at h1
  subst h1
  exact ⟨vs,rfl,rfl,fun _ _=>rfl,fun p c u h=>by simp at h⟩
 |(i,x)::parts,k,xs,vs,h1,h2,h3=>by
  simp only [lX] at h1
  split at h1
  ·rename_i hik
   subst hik
   split at h1
   ·rename_i b ys hx hys
    cases h1
    obtain ⟨c1,c2⟩:=i6 h2
    obtain ⟨k1,k2,k3⟩:=(cI (x:=x) hx hE).cells c1.2
    have hsz:(a.eval x).cells.size=sz:=by rw [k1,c1.1]
    have hle:i*sz+sz≤vs.size:=by
     simp only [List.length_cons] at h3
     have:(i+1)*sz≤(i+(ys.length+1))*sz:=Nat.mul_le_mul_right _ (by omega)
     rw [Nat.add_mul] at this
     omega
    simp only [List.map_cons]
    rw [EM (place:=fun i=>some (i*sz,sz)) (off:=i*sz) (n:=sz) rfl hsz hle]
    have hlen:((vs.toList.take (i*sz)++(a.eval x).cells.toList++vs.toList.drop (i*sz+sz)).toArray).size=vs.size:=by simp;omega
    obtain ⟨vs',q1,q2,q3,q4⟩:=EO (a:=a) hE (k:=i+1) (vs:=(vs.toList.take (i*sz)++(a.eval x).cells.toList++vs.toList.drop (i*sz+sz)).toArray) hys c2
     (by rw [hlen];simp only [List.length_cons] at h3;rw [show i+1+ys.length=i+(ys.length+1) from by omega];exact h3)
    refine ⟨vs',q1,by rw [q2,hlen],fun p hp=>?_,fun p c u hc hu=>?_⟩
    ·rw [q3 p (by rw [Nat.add_mul];omega)]
     simp only [List.getElem?_toArray]
     rw [List.append_assoc,List.getElem?_append_left (by simp;omega),List.getElem?_take,if_pos hp]
     simp
    ·simp only [List.map_cons,List.flatMap_cons] at hc
     by_cases hlt:p<sz
     ·rw [List.getElem?_append_left (by omega)] at hc
      rw [q3 _ (by rw [Nat.add_mul];omega)] at hu
      simp only [List.getElem?_toArray] at hu
      rw [List.append_assoc,List.getElem?_append_right (by simp;omega)] at hu
      simp only [List.length_take,Array.length_toList] at hu
      rw [show i*sz+p-min (i*sz) vs.size=p from by omega,List.getElem?_append_left (by simp;omega)] at hu
      exact k2 p c u hc (by simpa using hu)
     ·rw [List.getElem?_append_right (by omega),c1.1] at hc
      refine q4 (p-sz) c u hc ?_
      rw [←hu]
      congr 1
      rw [Nat.add_mul]
      omega
   ·cases h1
  ·cases h1
theorem YM {xs:List AV} {sz:Nat} {vs:Array Value} {T:TypeId} (hS:RelS P hh G w σ) (hx:aU sz xs=true) (hl:vs.size=xs.length*sz)
  (hr:∀ (p:Nat) (c:AV) (u:Value),(xs.flatMap AV.cells)[p]? = some c→vs[p]? = some u→RelV G w c u) :
  ∃ G',RelS P hh G' (w.alloc (.cells vs T)) σ∧Evo G w G' (w.alloc (.cells vs T))∧RelV G' (w.alloc (.cells vs T)) (.lit xs true none) (.slice (some ⟨w.heap.size,0,none⟩) xs.length xs.length):=by
 obtain ⟨h1,h2⟩:=hS.newLit vs T
 refine ⟨_,h1,h2,.lit (sz:=sz) ⟨Nat.le_refl _,fun _=>rfl,fun t e=>by cases e⟩ ⟨⟨vs.size,by simp [Gh.withLim],by omega⟩,fun t e=>?_,fun i x e=>(lF hx e).1,fun k hk=>?_⟩ fun i x j c u e1 e2 e3=>?_⟩
 ·have:=(hS.own _ _ (show G.own w.heap.size=some t from e)).1
  omega
 ·rw [Nat.zero_add,World.cell?_alloc_new]
  simp [Array.getElem?_eq_getElem (show k<vs.size by omega)]
 ·rw [Nat.zero_add,World.cell?_alloc_new] at e3
  exact (hr _ _ _ (yG hx e1 e2) e3).mono h2
theorem tR {t e:TypeId} {sz n m:Nat} {a:Act} {parts:Array (Nat×Operand)} {xs:List AOpd} {z:List AV} (hE:eT G w n env a.tmps)
  (ht:P.underlying t=some (.slice e)) (hz:fV P e=some z) (hs:fG P e=some sz) (hp:lX 0 parts.toList=some xs) (hn:xs.length=m) (hb:m*sz≤2^24)
  (hc:aU sz (xs.map (·.ev env))=true) :
  ∃ vs:Array Value,(Instr.buildSlice t m (parts.map fun (i,x)=>(i,a.eval x))).run P w = .ok (.slice (some ⟨w.heap.size,0,none⟩) m m) (w.alloc (.cells vs e))∧vs.size=m*sz ∧
   ∀ (p:Nat) (c:AV) (u:Value),((xs.map (·.ev env)).flatMap AV.cells)[p]? = some c→vs[p]? = some u→RelV G w c u:=by
 obtain ⟨i,v,hi,hzv,hsz,h0,hrun,hcs,hcell,hr⟩:=i0 hz
 obtain ⟨hso,_⟩:=eX hs w
 have hlist:(parts.map fun (i,x)=>(i,a.eval x)).toList=parts.toList.map fun p=>(p.1,a.eval p.2):=by simp
 have hbig:¬(m*sz > 2^24):=by omega
 by_cases hm0:m=0
 ·subst hm0
  have hxs:xs=[]:=List.eq_nil_of_length_eq_zero hn
  subst hxs
  have hps:parts.toList=[]:=by
   cases hq:parts.toList with
   |nil=>rfl
   |cons p ps =>
    rw [hq] at hp
    simp only [lX] at hp
    split at hp
    ·split at hp<;>cases hp
    ·cases hp
  refine ⟨#[],?_,by simp,fun p c u h=>by simp at h⟩
  rw [hps] at hlist
  simp only [Instr.buildSlice,Sem.run_bind,run_underlying ht,Result.andThen_ok,hso,Nat.zero_mul,hlist,List.map_nil,Instr.fill]
  simp [newRow,Array.range_zero']
 have h00:¬m*sz=0:=by
  intro e
  rcases Nat.mul_eq_zero.1 e with e|e
  ·exact hm0 e
  ·rw [←hsz,(eX hs w).2.2.choose_spec.1.symm.trans hi |> Option.some.inj |> fun e=>(congrArg TypeInfo.size e).symm,(eX hs w).2.2.choose_spec.2] at h0
   omega
 ·obtain ⟨vs',q1,q2,q3,q4⟩:=EO (sz:=sz) (a:=a) hE (vs:=((Array.range (m*sz)).map (v.cells[·%v.cells.size]!))) hp hc (by simp [hn])
  refine ⟨vs',?_,by rw [q2];simp,fun p c u h3 h4=>q4 p c u h3 (by simpa using h4)⟩
  simp only [Instr.buildSlice,Sem.run_bind,run_underlying ht,Result.andThen_ok,hso,hbig,if_false,Sem.run_pure,h00,hrun]
  simp only [hlist,q1,newRow,Sem.run_bind,run_newObj,Result.andThen_ok,Sem.run_pure,World.alloc_eq]
theorem qY {sz:Nat} (h0:0<sz):∀ {n:Nat} {cs:List AV},n*sz≤cs.length→aU sz (DA sz n cs)=true→(DA sz n cs).flatMap AV.cells=cs.take (n*sz)∧(DA sz n cs).length=n
 |0,cs,_,_=>by simp [DA]
 |n+1,cs,h,ha=>by
  rw [Nat.add_mul] at h
  simp only [DA] at ha ⊢
  obtain ⟨h1,h2⟩:=i6 ha
  obtain ⟨i1,i2⟩:=qY h0 (by simp;omega) h2
  refine ⟨?_,by simp [i2]⟩
  simp only [List.flatMap_cons,i1]
  have hx:AV.cells (if sz=1∧(cs.headD .undef).cell=true then cs.headD .undef else .agg (cs.take sz))=cs.take sz:=by
   split
   ·rename_i hs
    rw [MC hs.2,hs.1]
    cases cs with
    |nil=>simp at h;omega
    |cons c cs=>simp
   ·rfl
  rw [hx,←List.take_add]
  congr 1
  rw [Nat.add_mul]
  omega
theorem oQ {sz:Nat} {y:AV} {v:Value} {ys:List AV} (h0:0<sz) (hS:RelS P hh G w σ) (hy:RelV G w y v) (hv:o9 σ y=some ys) (hs:wM sz y=true) (ha:aU sz ys=true) :
  ∃ (base:Option Addr) (cap:Nat) (us:List Value),v = .slice base ys.length cap∧us.length=ys.length*sz∧(ys≠[]→∃ a:Addr,base=some a∧∀ (j:Nat) (u:Value),us[j]? = some u→w.cell? (a.add j)=some u) ∧
   (∀ (p:Nat) (c:AV) (u:Value),(ys.flatMap AV.cells)[p]? = some c→us[p]? = some u→RelV G w c u)∧∀ u∈us,u.oneCell'=true:=by
 have key:∀ {b o:Nat},xD G w (ys.flatMap AV.cells) b o→∃ us:List Value,us.length=ys.length*sz∧(∀ (j:Nat) (u:Value),us[j]? = some u→w.cell? ((⟨b,o,none⟩:Addr).add j)=some u) ∧
   (∀ (p:Nat) (c:AV) (u:Value),(ys.flatMap AV.cells)[p]? = some c→us[p]? = some u→RelV G w c u)∧∀ u∈us,u.oneCell'=true:=by
  intro b o hr
  obtain ⟨us,l,q1,q2⟩:=hr.list
  refine ⟨us,by rw [l,fD ha],q1,q2,fun u hu=>?_⟩
  obtain ⟨i,hi,rfl⟩:=List.getElem_of_mem hu
  have hi':i<(ys.flatMap AV.cells).length:=by omega
  exact ((q2 i _ _ (List.getElem?_eq_getElem hi') (List.getElem?_eq_getElem hi)).cell (UM ha _ (List.getElem_mem hi'))).1
 cases y<;>try (simp [o9] at hv;done)
 case lit xs full tk =>
  simp only [o9,Option.some.injEq] at hv
  subst hv
  cases hy with
  |nil ht hb=>exact ⟨_,_,[],rfl,by simp,fun h=>absurd rfl h,fun p c u h=>by simp at h,fun u h=>by simp at h⟩
  |lit ht hl hc =>
   rename_i b o sz' cap
   by_cases he:xs=[]
   ·subst he
    exact ⟨_,_,[],rfl,by simp,fun h=>absurd rfl h,fun p c u h=>by simp at h,fun u h=>by simp at h⟩
   ·have hsz:sz'=sz:=by
     cases xs with
     |nil=>exact absurd rfl he
     |cons y ys=>rw [←hl.size 0 y rfl];exact (lF (i:=0) ha rfl).1
    subst hsz
    obtain ⟨us,q1,q2,q3,q4⟩:=key (b:=b) (o:=o) fun p c hp=>by
     obtain ⟨i,j,x,e1,e2,e3⟩:=KL ha hp
     obtain ⟨u,hu⟩:=Option.isSome_iff_exists.1 (hl.cells _ (hl.cellOf e1 e2))
     exact ⟨u,by rw [e3];exact hu,hc i x j c u e1 e2 (by rw [←hu])⟩
    exact ⟨_,_,us,rfl,q1,fun _=>⟨_,rfl,q2⟩,q3,q4⟩
 case ref id off len sz' =>
  have hsz:sz'=sz:=by simpa [wM] using hs
  subst hsz
  simp only [o9] at hv
  split at hv
  ·rename_i cs hcs
   split at hv
   ·rename_i hle
    simp only [Option.some.injEq] at hv
    subst hv
    cases hy with
    |ref hl hb hcap hn =>
     rename_i b base cap
     obtain ⟨f1,f2⟩:=qY h0 (n:=len) (cs:=cs.drop off) (by simp;omega) ha
     obtain ⟨us,q1,q2,q3,q4⟩:=key (b:=b) (o:=off) (by
      rw [f1]
      have:=(pZ hS hl hcs).sub off (len*sz')
      rwa [Nat.zero_add] at this)
     refine ⟨base,cap,us,by rw [f2],q1,fun hne=>⟨_,hb fun e=>hne ?_,q2⟩,q3,q4⟩
     subst e
     rfl
   ·cases hv
  ·cases hv
end Go.Am
namespace Go.Am
variable {P:Program} {hh:String→Bool} {G:Gh} {w:World} {σ σ':St} {env:Env}
def Gh.withTok (G:Gh) (t b L:Nat) (p:Option Addr×Nat×Nat):Gh :=
 { G with lim:=fun i=>if i=b then some L else G.lim i,own:=fun i=>if i=b then some t else G.own i,tok:=fun i=>if i=t then some p else G.tok i }
theorem NH (h:RelS P hh G w σ) {t sz n:Nat} {ex:Bool} (e:σ[t]? = some (.tok sz n ex)):G.loc t=none:=by
 cases hl:G.loc t with
 |none=>rfl
 |some b=>exact (h.blk _ _ _ hl e).elim
theorem PW (h:RelS P hh G w σ):G.lim w.heap.size=none:=by
 cases e:G.lim w.heap.size with
 |none=>rfl
 |some L=>have:=rV h e;omega
theorem QW (h:RelS P hh G w σ) (t:Nat):G.own w.heap.size≠some t:=fun e=>by have:=(h.own _ _ e).1;omega
theorem RelS.newTok {t sz N c:Nat} {vs:Array Value} {T:TypeId} (h:RelS P hh G w σ) (hlen:σ.length≤σ'.length) (hsame:∀ i,i≠t→i<σ.length→σ'[i]? = σ[i]?)
  (ht:σ'[t]? = some (.tok sz N true)) (hloc:G.loc t=none) (hrt:∀ cs,G.res t≠some (some cs)) (hold:∀ b n c,G.tok t=some (b,n,c)→n<N) (hN:N*sz≤vs.size) (hc:c*sz≤vs.size) (hNc:N≤c) :
  RelS P hh (G.withTok t w.heap.size (N*sz) (some ⟨w.heap.size,0,none⟩,N,c)) (w.alloc (.cells vs T)) σ' ∧
   Evo G w (G.withTok t w.heap.size (N*sz) (some ⟨w.heap.size,0,none⟩,N,c)) (w.alloc (.cells vs T)):=by
 have hlf:=PW h
 have hof:=QW h
 have h1:=h.alloc (.cells vs T)
 have he0:=kS h (.cells vs T)
 have he:Evo G w (G.withTok t w.heap.size (N*sz) (some ⟨w.heap.size,0,none⟩,N,c)) (w.alloc (.cells vs T)):=by
  refine ⟨fun _ _ e=>e,fun b L e=>⟨L,?_,Nat.le_refl _,fun k _=>BO w _ _ (rV h e)⟩,fun u b n k e=>?_,fun b L u e1 e2=>?_,fun _ e=>e,rfl,rfl,rfl,rfl,rfl,by simp,fun _ _ e=>e⟩
  ·have:b≠w.heap.size:=fun e'=>by rw [e',hlf] at e;cases e
   simp [Gh.withTok,this,e]
  ·by_cases hu:u=t
   ·subst hu
    have:=hold _ _ _ e
    exact ⟨some ⟨w.heap.size,0,none⟩,N,c,by simp [Gh.withTok],by omega,fun e'=>by omega⟩
   ·exact ⟨b,n,k,by simp [Gh.withTok,hu,e],Nat.le_refl _,fun _=>⟨rfl,rfl⟩⟩
  ·have:b≠w.heap.size:=fun e'=>by rw [e',hlf] at e1;cases e1
   simpa [Gh.withTok,this] using e2
 refine ⟨⟨fun id b e=>Nat.lt_of_lt_of_le (h.lt id b e) hlen,fun id b x e1 e2=>?_,h.inj,fun id b e=>?_,fun b L e=>?_,fun u b n k e=>?_,fun b u e=>?_,fun r e=>?_,h1.base,h1.size,fun i r e=>?_⟩,he⟩
 ·have e1':G.loc id=some b:=e1
  have hne:id≠t:=fun e=>by rw [e,hloc] at e1';cases e1'
  rw [hsame id hne (h.lt _ _ e1')] at e2
  refine (h.blk id b x e1' e2).mono he ?_
  rw [d9,if_neg (by have:=(h.fresh _ _ e1').2.1;omega)]
 ·obtain ⟨q1,q2,q3,q4⟩:=h1.fresh id b e
  have:b≠w.heap.size:=by have:=(h.fresh id b e).2.1;omega
  exact ⟨q1,q2,by simp [Gh.withTok,this,q3],q4⟩
 ·by_cases hb:b=w.heap.size
  ·subst hb
   simp [Gh.withTok] at e
   subst e
   exact ⟨vs,T,(0,0),by rw [d9,if_pos rfl],hN,fun hlt=>absurd hlt (Nat.not_lt.2 h.size)⟩
  ·simp [Gh.withTok,hb] at e
   exact h1.lim b L e
 ·by_cases hu:u=t
  ·subst hu
   simp [Gh.withTok] at e
   obtain ⟨rfl,rfl,rfl⟩:=e
   exact ⟨sz,true,ht,hNc,by simp,fun _=>⟨w.heap.size,vs,T,rfl,by simp [Gh.withTok],by simp [Gh.withTok],h.size,by rw [d9,if_pos rfl],hc⟩⟩
  ·simp [Gh.withTok,hu] at e
   obtain ⟨sz',ex,q1,q2,q3,q4⟩:=h1.tok u b n k e
   refine ⟨sz',ex,?_,q2,q3,fun hx=>?_⟩
   ·rw [hsame u hu (List.getElem?_eq_some_iff.1 q1).1];exact q1
   ·obtain ⟨bb,vs',T',r1,r2,r3,r4,r5,r6⟩:=q4 hx
    have:bb≠w.heap.size:=fun e'=>by rw [e'] at r2;exact hof _ r2
    exact ⟨bb,vs',T',r1,by simp [Gh.withTok,this,r2],by simp [Gh.withTok,this,r3],r4,r5,r6⟩
 ·by_cases hb:b=w.heap.size
  ·subst hb
   simp [Gh.withTok] at e
   subst e
   exact ⟨by simp,(some ⟨w.heap.size,0,none⟩,N,c),by simp [Gh.withTok]⟩
  ·simp [Gh.withTok,hb] at e
   obtain ⟨q1,p,q2⟩:=h1.own b u e
   refine ⟨q1,?_⟩
   by_cases hu:u=t
   ·exact ⟨(some ⟨w.heap.size,0,none⟩,N,c),by simp [Gh.withTok,hu]⟩
   ·exact ⟨p,by simp [Gh.withTok,hu,q2]⟩
 ·obtain ⟨q1,q2,q3⟩:=h1.defs r e
  have:r≠w.heap.size:=by have:=(Array.getElem?_eq_some_iff.1 (h.defs _ e).1).1;omega
  exact ⟨q1,q2,by simp [Gh.withTok,this,q3]⟩
 ·obtain ⟨q1,q2,q3⟩:=h.res i r e
  refine ⟨q1,by omega,fun cs hc=>?_⟩
  have hi:i≠t:=fun hi=>by subst hi;subst hc;exact hrt _ e
  rw [hsame i hi q2]
  exact q3 cs hc
theorem RelS.growTok {t sz n c bb m:Nat} {vs vs':Array Value} {T:TypeId} (h:RelS P hh G w σ) (ht:∃ ex,σ[t]? = some (.tok sz n ex)) (hm:0<m) (hnc:n+m≤c)
  (htk:G.tok t=some (some ⟨bb,0,none⟩,n,c)) (hown:G.own bb=some t) (hlim:G.lim bb=some (n*sz)) (hB:G.B0≤bb) (hb:w.heap[bb]? = some (.cells vs T (0,0)))
  (hc:c*sz≤vs.size) (hs:vs'.size=vs.size) (hkeep:∀ k,k<n*sz→vs'[k]? = vs[k]?) :
  RelS P hh (G.withTok t bb ((n+m)*sz) (some ⟨bb,0,none⟩,n+m,c)) (w.setRow bb vs') (σ.set t (.tok sz (n+m) true)) ∧
   Evo G w (G.withTok t bb ((n+m)*sz) (some ⟨bb,0,none⟩,n+m,c)) (w.setRow bb vs'):=by
 obtain ⟨ex,ht⟩:=ht
 have hloc:=NH h ht
 have hp:=AF w bb vs'
 have hrow:=setRow_heap w bb vs vs' T (0,0) hb
 have hmul:n*sz≤(n+m)*sz:=Nat.mul_le_mul_right _ (by omega)
 have hfit:(n+m)*sz≤vs'.size:=by rw [hs];exact Nat.le_trans (Nat.mul_le_mul_right _ hnc) hc
 have he:Evo G w (G.withTok t bb ((n+m)*sz) (some ⟨bb,0,none⟩,n+m,c)) (w.setRow bb vs'):=by
  refine ⟨fun _ _ e=>e,fun b L e=>?_,fun u b k l e=>?_,fun b L u e1 e2=>?_,fun _ e=>e,rfl,rfl,rfl,rfl,rfl,by simp,fun _ _ e=>e⟩
  ·by_cases hbb:b=bb
   ·subst hbb
    rw [hlim] at e
    cases e
    refine ⟨(n+m)*sz,by simp [Gh.withTok],hmul,fun k hk=>?_⟩
    rw [cell_of_row _ _ _ _ _ _ hrow,cell_of_row _ _ _ _ _ _ hb]
    exact hkeep k hk
   ·exact ⟨L,by simp [Gh.withTok,hbb,e],Nat.le_refl _,fun k _=>hp.cell hbb⟩
  ·by_cases hu:u=t
   ·subst hu
    rw [htk] at e
    cases e
    exact ⟨some ⟨bb,0,none⟩,n+m,c,by simp [Gh.withTok],by omega,fun e'=>by omega⟩
   ·exact ⟨b,k,l,by simp [Gh.withTok,hu,e],Nat.le_refl _,fun _=>⟨rfl,rfl⟩⟩
  ·by_cases hbb:b=bb
   ·subst hbb
    simp [Gh.withTok] at e2
    subst e2
    exact hown
   ·simpa [Gh.withTok,hbb] using e2
 refine ⟨⟨fun id b e=>by have:=h.lt id b e;simpa using this,fun id b x e1 e2=>?_,h.inj,fun id b e=>?_,fun b L e=>?_,fun u b k l e=>?_,fun b u e=>?_,fun r e=>?_,fun b hb'=>?_,(by have:=h.size;simpa using this:G.B0≤(w.setRow bb vs').heap.size),fun i r e=>?_⟩,he⟩
 ·have e1':G.loc id=some b:=e1
  have hne:id≠t:=fun e=>by rw [e,hloc] at e1';cases e1'
  rw [List.getElem?_set_ne (Ne.symm hne)] at e2
  refine (h.blk id b x e1' e2).mono he (hp.other _ fun e=>?_)
  have:=(h.fresh _ _ e1').2.2.1
  rw [e,hlim] at this
  cases this
 ·obtain ⟨q1,q2,q3,q4⟩:=h.fresh id b e
  have:b≠bb:=fun e'=>by rw [e',hlim] at q3;cases q3
  exact ⟨q1,by simpa using q2,by simp [Gh.withTok,this,q3],q4⟩
 ·by_cases hbb:b=bb
  ·subst hbb
   simp [Gh.withTok] at e
   subst e
   exact ⟨vs',T,(0,0),hrow,hfit,fun hlt=>absurd hlt (Nat.not_lt.2 hB)⟩
  ·simp [Gh.withTok,hbb] at e
   obtain ⟨vs1,T1,fr,q1,q2⟩:=h.lim b L e
   exact ⟨vs1,T1,fr,by rw [hp.other _ hbb];exact q1,q2⟩
 ·by_cases hu:u=t
  ·subst hu
   simp [Gh.withTok] at e
   obtain ⟨rfl,rfl,rfl⟩:=e
   refine ⟨sz,true,by rw [List.getElem?_set_self (List.getElem?_eq_some_iff.1 ht).1],hnc,by simp,fun _=>⟨bb,vs',T,rfl,by simp [Gh.withTok],by simp [Gh.withTok],hB,hrow,by rw [hs];exact hc⟩⟩
  ·simp [Gh.withTok,hu] at e
   obtain ⟨sz',ex',q1,q2,q3,q4⟩:=h.tok u b k l e
   refine ⟨sz',ex',by rw [List.getElem?_set_ne (Ne.symm hu)];exact q1,q2,q3,fun hx=>?_⟩
   obtain ⟨b2,vs2,T2,r1,r2,r3,r4,r5,r6⟩:=q4 hx
   have:b2≠bb:=fun e'=>by rw [e',hown] at r2;cases r2;exact hu rfl
   exact ⟨b2,vs2,T2,r1,by simp [Gh.withTok,this,r2],by simp [Gh.withTok,this,r3],r4,by rw [hp.other _ this];exact r5,r6⟩
 ·by_cases hbb:b=bb
  ·subst hbb
   simp [Gh.withTok] at e
   subst e
   exact ⟨by simpa using (h.own _ _ hown).1,(some ⟨b,0,none⟩,n+m,c),by simp [Gh.withTok]⟩
  ·simp [Gh.withTok,hbb] at e
   obtain ⟨q1,p,q2⟩:=h.own b u e
   refine ⟨by simpa using q1,?_⟩
   by_cases hu:u=t
   ·exact ⟨(some ⟨bb,0,none⟩,n+m,c),by simp [Gh.withTok,hu]⟩
   ·exact ⟨p,by simp [Gh.withTok,hu,q2]⟩
 ·obtain ⟨q1,q2,q3⟩:=h.defs r e
  have:r≠bb:=fun e'=>by rw [e',hlim] at q3;cases q3
  exact ⟨by rw [hp.other _ this];exact q1,q2,by simp [Gh.withTok,this,q3]⟩
 ·have hb2:b<G.B0:=hb'
  have:b≠bb:=by omega
  rw [hp.other _ this]
  exact h.base b hb2
 ·obtain ⟨q1,q2,q3⟩:=h.res i r e
  refine ⟨q1,by simpa using q2,fun cs hc=>?_⟩
  have hi:i≠t:=fun hi=>by subst hi;rw [q3 cs hc] at ht;cases ht
  rw [List.getElem?_set_ne (Ne.symm hi)]
  exact q3 cs hc
theorem y5 {t ty e:TypeId} {i:TypeInfo} (ht:P.underlying t=some (.slice e)) (hi:P.info? e=some i)
  {g sLen sCap:Nat} {T:TypeId} {cur:Array Value} (hg:w.heap[g]? = some (.cells cur T (0,0)))
  {a:Addr} {m c:Nat} {news:List Value} (hl:news.length=m*i.size) (hnews:∀ (j:Nat) (u:Value),news[j]? = some u→w.cell? (a.add j)=some u) (h1:∀ u∈news,u.oneCell'=true)
  (hroom:sLen+m≤sCap) (hfit:sLen*i.size+news.length≤cur.size) :
  (Builtin.append_ #[t,t] ty #[.slice (some ⟨g,0,none⟩) sLen sCap,.slice (some a) m c]).run P w =
   .ok (.slice (some ⟨g,0,none⟩) (sLen+m) sCap) (w.setRow g (cur.toList.take (sLen*i.size)++news++cur.toList.drop (sLen*i.size+news.length)).toArray):=by
 have hf:=run_firstCells_some (P:=P) w i.size m a m c news hl hnews
 have hst:=run_storeCells_at P g (sLen*i.size) T news 0 cur w hg (by simpa using hfit) h1
 simp only [Nat.add_zero] at hst
 simp [Builtin.append_,run_underlying ht,sizeOf,typeInfo,hi,Builtin.lenOf,hroom,hf,Addr.add_lit,hst]
theorem sQ {t ty e:TypeId} {i:TypeInfo} (ht:P.underlying t=some (.slice e)) (hi:P.info? e=some i) {b b2:Option Addr} {n c c2:Nat} (hc:n≤c) :
  (Builtin.append_ #[t,t] ty #[.slice b n c,.slice b2 0 c2]).run P w = .ok (.slice b n c) w:=by
 have hf:(Builtin.firstCells i.size 0 (.slice b2 0 c2)).run P w = .ok #[] w:=by
  cases b2<;>simp [Builtin.firstCells,loadCells,loadCellsFrom]
 cases b<;>simp [Builtin.append_,run_underlying ht,sizeOf,typeInfo,hi,Builtin.lenOf,hc,hf,storeCells]
theorem tN {t ty e:TypeId} {i:TypeInfo} {z:Value} (ht:P.underlying t=some (.slice e)) (hi:P.info? e=some i) (hz:i.zero=some z) (hzs:z.cells.size=i.size)
  {b:Option Addr} {n c:Nat} {olds:List Value} (hnc:n≤c) (hb:b=none→c=0) (hlo:olds.length=n*i.size) (ho:∀ a,b=some a→∀ (j:Nat) (u:Value),olds[j]? = some u→w.cell? (a.add j)=some u)
  {a:Addr} {m c2:Nat} {news:List Value} (hl:news.length=m*i.size) (hnews:∀ (j:Nat) (u:Value),news[j]? = some u→w.cell? (a.add j)=some u) (hm:0<m)
  (hg:c<n+m) (hby:(n+m)*i.bytes≤room) (hbig:n+m≤room) :
  ∃ cap vs,(Builtin.append_ #[t,t] ty #[.slice b n c,.slice (some a) m c2]).run P w = .ok (.slice (some ⟨w.heap.size,0,none⟩) (n+m) cap) (w.drew.alloc (.cells vs e)) ∧
   n+m≤cap∧vs.size=cap*i.size∧∀ k,k<(n+m)*i.size→vs[k]? = (olds++news)[k]?:=by
 have hr:room=140737488355328:=by decide
 rw [hr] at hby hbig
 have get:∀ (x:Array Value) (k:Nat),k<(olds++news).length→(olds.toArray++news.toArray++x)[k]? = (olds++news)[k]?:=by
  intro x k hk
  rw [Array.getElem?_append_left (by simp at hk ⊢;omega)]
  simp
 have hlen:(olds++news).length=(n+m)*i.size:=by rw [List.length_append,hlo,hl,Nat.add_mul]
 cases b with
 |none =>
  have hc0:=hb rfl
  subst hc0
  have hn0:n=0:=by omega
  subst hn0
  have ho0:olds=[]:=List.eq_nil_of_length_eq_zero (by simpa using hlo)
  subst ho0
  have hrun:=run_append_nil (P:=P) w t ty e i z ht hi hz a m c2 news hl hnews hm (by omega) (by rw [Nat.zero_add] at hby;omega)
  refine ⟨_,_,by rw [Nat.zero_add];exact hrun,by rw [Nat.zero_add];exact grownCap_ge _ _ _ _,?_,fun k hk=>?_⟩
  ·have:=grownCap_ge w m 0 e
   simp only [Array.size_append,List.size_toArray,size_zeroCells,hzs,hl,←Nat.add_mul]
   congr 1
   omega
  ·have:=get (Builtin.zeroCells z.cells (grownCap w m 0 e-m)) k (by rw [hlen];exact hk)
   simpa using this
 |some b =>
  have hrun:=run_append_grow (P:=P) w t ty e i z ht hi hz b n c olds hlo (ho b rfl) a m c2 news hl hnews (by omega) (by omega) (growslice_fits (by omega) (by omega))
  refine ⟨_,_,hrun,grownCap_ge _ _ _ _,?_,fun k hk=>get _ k (by rw [hlen];exact hk)⟩
  have:=grownCap_ge w (n+m) c e
  simp only [Array.size_append,List.size_toArray,size_zeroCells,hzs,hlo,hl,←Nat.add_mul]
  congr 1
  omega
theorem xK {zs:List AV} {sz b t cap L:Nat} (ha:aU sz zs=true) (htk:G.tok t=some (some ⟨b,0,none⟩,zs.length,cap)) (hcap:zs.length≤cap) (hne:zs≠[])
  (hown:G.own b=some t) (hlim:G.lim b=some L) (hL:zs.length*sz≤L)
  (hcell:∀ (p:Nat) (c:AV),(zs.flatMap AV.cells)[p]? = some c→∃ u,w.cell? ⟨b,p,none⟩=some u∧RelV G w c u) :
  RelV G w (.lit zs false (some t)) (.slice (some ⟨b,0,none⟩) zs.length cap):=by
 refine .lit (sz:=sz) ⟨hcap,by simp,fun u e=>?_⟩ ⟨⟨L,hlim,by omega⟩,fun u e=>?_,fun i x e=>(lF ha e).1,fun k hk=>?_⟩ fun i x j c u e1 e2 e3=>?_
 ·cases e
  exact ⟨_,_,_,htk,Nat.le_refl _,fun _ _=>⟨rfl,rfl⟩⟩
 ·rw [hown] at e
  exact e
 ·rw [←fD ha] at hk
  obtain ⟨u,hu,_⟩:=hcell k _ (List.getElem?_eq_getElem hk)
  rw [Nat.zero_add,hu]
  rfl
 ·rw [Nat.zero_add] at e3
  obtain ⟨u',hu',hr⟩:=hcell _ _ (yG ha e1 e2)
  rw [e3] at hu'
  cases hu'
  exact hr
end Go.Am
namespace Go.Am
variable {P:Program} {hh:String→Bool} {G:Gh} {w:World} {σ σ':St} {env:Env}
theorem kX {xs:List AV} {full:Bool} {tk:Option Nat} {u:Value} (h:RelV G w (.lit xs full tk) u) :
  ∃ base cap,u = .slice base xs.length cap∧nB G full tk xs.length base cap∧(base=none→cap=0):=by
 cases h with
 |nil ht hb=>exact ⟨_,_,rfl,ht,hb⟩
 |lit ht hl hc=>exact ⟨_,_,rfl,ht,fun e=>by cases e⟩
theorem B6 {y:AV} {v:Value} (hy:RelV G w y v) (hv:o9 σ y=some []):∃ b c,v = .slice b 0 c:=by
 cases y<;>try (simp [o9] at hv;done)
 case lit xs full tk =>
  simp only [o9,Option.some.injEq] at hv
  subst hv
  obtain ⟨b,c,e,_⟩:=kX hy
  exact ⟨b,c,e⟩
 case ref id off len sz =>
  simp only [o9] at hv
  split at hv
  ·split at hv
   ·simp only [Option.some.injEq] at hv
    cases len with
    |zero=>cases hy with|ref h1 h2 h3=>exact ⟨_,_,rfl⟩
    |succ n=>simp [DA] at hv
   ·cases hv
  ·cases hv
theorem s8 {az bs:List AV} {us vs:List Value} (hl:us.length=az.length) (h1:∀ (p:Nat) (c:AV) (u:Value),az[p]? = some c→us[p]? = some u→RelV G w c u)
  (h2:∀ (p:Nat) (c:AV) (u:Value),bs[p]? = some c→vs[p]? = some u→RelV G w c u):∀ (p:Nat) (c:AV) (u:Value),(az++bs)[p]? = some c→(us++vs)[p]? = some u→RelV G w c u:=by
 intro p c u hc hu
 by_cases hp:p<az.length
 ·rw [List.getElem?_append_left hp] at hc
  rw [List.getElem?_append_left (by omega)] at hu
  exact h1 p c u hc hu
 ·rw [List.getElem?_append_right (by omega)] at hc
  rw [List.getElem?_append_right (by omega),hl] at hu
  exact h2 _ c u hc hu
theorem HG {t ty e:TypeId} {i:TypeInfo} {z:Value} {sz bytes:Nat} {x y r:AV} {u v:Value} (ht:P.underlying t=some (.slice e)) (hi:P.info? e=some i) (hz:i.zero=some z)
    (hzs:z.cells.size=i.size) (hsz:i.size=sz) (hby:i.bytes=bytes) (h0:0<sz) (hS:RelS P hh G w σ) (hx:RelV G w x u) (hy:RelV G w y v) (h:cZ sz bytes σ x y=some (r,σ')) :
    ∃ w' G' q,(Builtin.append_ #[t,t] ty #[u,v]).run P w = .ok q w'∧RelV G' w' r q∧RelS P hh G' w' σ'∧Evo G w G' w':=by
  subst hby
  cases x<;>try (simp [cZ] at h;done)
  case lit xs full tk =>
    obtain ⟨base,cap,rfl,htk,hbn⟩:=kX hx
    cases hv:o9 σ y with
    |none=>simp [cZ,hv] at h
    |some ys =>
      simp only [cZ,hv] at h
      split at h
      · rename_i hy0
        cases h
        have:ys=[]:=List.eq_nil_of_length_eq_zero hy0
        subst this
        obtain ⟨b2,c2,rfl⟩:=B6 hy hv
        exact ⟨w,G,_,sQ ht hi htk.1,hx,hS,.refl _ _⟩
      · rename_i hy0
        split at h
        · rename_i hcond
          simp only [Bool.and_eq_true,decide_eq_true_eq] at hcond
          obtain ⟨⟨⟨⟨c1,c2⟩,c3⟩,c4⟩,c5⟩:=hcond
          obtain ⟨base',cap',olds,e1,ol,oc,orr,o1⟩:=oQ (y:=.lit xs full tk) h0 hS hx rfl rfl c2
          cases e1
          obtain ⟨b2,cap2,news,rfl,nl,nc,nr,n1⟩:=oQ h0 hS hy hv c1 c3
          obtain ⟨a2,rfl,hnews⟩:=nc (fun e=>by rw [e] at hy0;exact hy0 rfl)
          have hm:0<ys.length:=Nat.pos_of_ne_zero hy0
          have hall:aU sz (xs++ys)=true:=sR.2 ⟨c2,c3⟩
          have hne:xs++ys≠[]:=by intro e;rw [List.append_eq_nil_iff] at e;rw [e.2] at hy0;exact hy0 rfl
          have hlen:(xs++ys).length=xs.length+ys.length:=List.length_append
          have hflat:(xs++ys).flatMap AV.cells=xs.flatMap AV.cells++ys.flatMap AV.cells:=List.flatMap_append
          have hrel:=s8 (G:=G) (w:=w) (az:=xs.flatMap AV.cells) (bs:=ys.flatMap AV.cells) (us:=olds) (vs:=news) (by rw [ol,fD c2]) orr nr
          have hcat:(olds++news).length=(xs.length+ys.length)*sz:=by rw [List.length_append,ol,nl,Nat.add_mul]
          -- into a new block,under a token
          have TF:∀ (tn:Nat) (σ1:St),cap<xs.length+ys.length→σ.length≤σ1.length→(∀ i,i≠tn→i<σ.length→σ1[i]? = σ[i]?)→σ1[tn]? = some (.tok sz (xs.length+ys.length) true) →
              G.loc tn=none→(∀ cs,G.res tn≠some (some cs))→(∀ b n c,G.tok tn=some (b,n,c)→n<xs.length+ys.length) →
              ∃ w' G' q,(Builtin.append_ #[t,t] ty #[.slice base xs.length cap,.slice (some a2) ys.length cap2]).run P w = .ok q w'∧RelV G' w' (.lit (xs++ys) false (some tn)) q∧RelS P hh G' w' σ1∧Evo G w G' w':=by
            intro tn σ1 hg k1 k2 k3 k4 k4' k5
            obtain ⟨c',vs,hrun,hc',hvs,hget⟩:=tN (P:=P) (w:=w) (ty:=ty) (olds:=olds) (news:=news) ht hi hz hzs htk.1 hbn (by rw [ol,hsz])
              (fun a ha j uu hj=>by
                by_cases hxs:xs=[]
                · subst hxs
                  have:olds=[]:=List.eq_nil_of_length_eq_zero (by simpa using ol)
                  rw [this] at hj
                  simp at hj
                · obtain ⟨a',ha',q⟩:=oc hxs
                  rw [ha] at ha'
                  cases ha'
                  exact q j uu hj) (by rw [nl,hsz]) hnews hm hg c4 c5
            rw [hsz] at hvs hget
            obtain ⟨r1,r2⟩:=(hS.drew).newTok (σ':=σ1) (t:=tn) (sz:=sz) (N:=xs.length+ys.length) (c:=c') (vs:=vs) (T:=e) k1 k2 k3 k4 k4' k5
              (by rw [hvs];exact Nat.mul_le_mul_right _ hc') (by rw [hvs];exact Nat.le_refl _) hc'
            have he:Evo G w _ _:=(oO (G:=G) (w:=w)).trans r2
            refine ⟨_,_,_,hrun,?_,r1,he⟩
            have hres:=xK (G:=G.withTok tn w.drew.heap.size ((xs.length+ys.length)*sz) (some ⟨w.drew.heap.size,0,none⟩,xs.length+ys.length,c')) (w:=w.drew.alloc (.cells vs e))
              (zs:=xs++ys) (b:=w.drew.heap.size) (t:=tn) (cap:=c') (L:=(xs.length+ys.length)*sz) hall (by rw [hlen];simp [Gh.withTok]) (by rw [hlen];exact hc') hne (by simp [Gh.withTok]) (by simp [Gh.withTok])
              (by rw [hlen];exact Nat.le_refl _) (fun p c hp=>by
                have hp':p<(xs.length+ys.length)*sz:=by rw [←hlen,←fD hall];exact (List.getElem?_eq_some_iff.1 hp).1
                refine ⟨(olds++news)[p]'(by omega),?_,RelV.mono he ?_⟩
                · rw [World.cell?_alloc_new,hget p hp']
                  exact List.getElem?_eq_getElem _
                · rw [hflat] at hp
                  exact hrel p c _ hp (List.getElem?_eq_getElem _))
            rw [hlen] at hres
            exact hres
          split at h
          · rename_i hfull
            cases h
            have hcap:cap=xs.length:=htk.2.1 hfull
            exact TF σ.length _ (by omega) (by simp) (fun i _ hi=>by rw [List.getElem?_append_left hi]) (by simp) (tA hS (Nat.le_refl _)) (fun cs e=>by rw [JA hS (Nat.le_refl _)] at e;cases e)
              (fun b n c e=>by obtain ⟨_,_,q,_⟩:=hS.tok _ _ _ _ e;have:=(List.getElem?_eq_some_iff.1 q).1;omega)
          · rename_i hfull
            split at h
            · rename_i t'
              split at h
              · rename_i sz' n ex hσ
                split at h
                · rename_i hq
                  obtain ⟨rfl,rfl⟩:=hq
                  cases h
                  obtain ⟨b,m,c,g1,g2,g3⟩:=htk.2.2 t' rfl
                  obtain ⟨sz2,ex2,s1,s2,s3,s4⟩:=hS.tok _ _ _ _ g1
                  rw [hσ] at s1
                  cases s1
                  obtain ⟨rfl,rfl⟩:=g3 (by simpa using hfull) rfl
                  by_cases hroom:xs.length+ys.length≤c
                  · have hex:ex=true:=by
                      cases ex with
                      |true=>rfl
                      |false=>have:=s3 rfl;omega
                    obtain ⟨bb,cur,T,rfl,p2,p3,p4,p5,p6⟩:=s4 hex
                    have hfit:xs.length*i.size+news.length≤cur.size:=by
                      rw [hsz,nl,←Nat.add_mul]
                      exact Nat.le_trans (Nat.mul_le_mul_right _ hroom) p6
                    have hrun:=y5 (P:=P) (w:=w) (ty:=ty) (c:=cap2) ht hi p5 (by rw [nl,hsz]) hnews n1 hroom hfit
                    rw [hsz] at hrun hfit
                    obtain ⟨r1,r2⟩:=hS.growTok (m:=ys.length) (vs':=(cur.toList.take (xs.length*sz')++news++cur.toList.drop (xs.length*sz'+news.length)).toArray) ⟨_,hσ⟩ hm hroom g1 p2 p3 p4 p5 p6
                      (by simp;omega) (fun k hk=>by
                        simp only [List.getElem?_toArray]
                        rw [List.append_assoc,List.getElem?_append_left (by simp;omega),List.getElem?_take,if_pos hk]
                        simp)
                    refine ⟨_,_,_,hrun,?_,r1,r2⟩
                    have hrow:=setRow_heap w bb cur (cur.toList.take (xs.length*sz')++news++cur.toList.drop (xs.length*sz'+news.length)).toArray T (0,0) p5
                    have hres:=xK (G:=G.withTok t' bb ((xs.length+ys.length)*sz') (some ⟨bb,0,none⟩,xs.length+ys.length,c))
                      (w:=w.setRow bb (cur.toList.take (xs.length*sz')++news++cur.toList.drop (xs.length*sz'+news.length)).toArray)
                      (zs:=xs++ys) (b:=bb) (t:=t') (cap:=c) (L:=(xs.length+ys.length)*sz') hall (by rw [hlen];simp [Gh.withTok]) (by rw [hlen];exact hroom) hne (by simp [Gh.withTok]) (by simp [Gh.withTok])
                      (by rw [hlen];exact Nat.le_refl _) (fun p c hp=>by
                        have hp':p<(xs.length+ys.length)*sz':=by rw [←hlen,←fD hall];exact (List.getElem?_eq_some_iff.1 hp).1
                        refine ⟨(olds++news)[p]'(by omega),?_,RelV.mono r2 ?_⟩
                        · rw [cell_of_row _ _ _ _ _ _ hrow]
                          simp only [List.getElem?_toArray]
                          have hmul:=Nat.add_mul xs.length ys.length sz'
                          by_cases hlt:p<xs.length*sz'
                          · rw [List.append_assoc,List.getElem?_append_left (by simp;omega),List.getElem?_take,if_pos hlt]
                            rw [List.getElem_append_left (by omega)]
                            have hxs:xs≠[]:=by intro e;rw [e] at hlt;simp at hlt
                            obtain ⟨a',ha',q⟩:=oc hxs
                            cases ha'
                            have hq:=q p _ (List.getElem?_eq_getElem (by omega))
                            rw [jY,Nat.zero_add,cell_of_row _ _ _ _ _ _ p5] at hq
                            simpa using hq
                          · rw [List.append_assoc,List.getElem?_append_right (by simp;omega),List.getElem?_append_left (by simp;omega)]
                            rw [List.getElem_append_right (by omega)]
                            simp only [List.length_take,Array.length_toList]
                            rw [←List.getElem?_eq_getElem]
                            congr 1
                            omega
                        · rw [hflat] at hp
                          exact hrel p c _ hp (List.getElem?_eq_getElem _))
                    rw [hlen] at hres
                    exact hres
                  · exact TF t' _ (by omega) (by simp) (fun i hi _=>List.getElem?_set_ne (Ne.symm hi)) (List.getElem?_set_self (List.getElem?_eq_some_iff.1 hσ).1) (NH hS hσ) (fun cs e=>by have:=(hS.res _ _ e).2.2 cs rfl;rw [hσ] at this;cases this)
                      (fun b n c' e=>by rw [g1] at e;cases e;omega)
                · cases h
              · cases h
            · cases h
        · cases h
end Go.Am
namespace Go.Am
variable {P:Program} {hh:String→Bool} {G:Gh} {w:World} {σ σ':St} {env:Env}
theorem KB {t ty e:TypeId} {i:TypeInfo} {z:Value} {sz bytes:Nat} {x y r:AV} {u v:Value} (ht:P.underlying t=some (.slice e)) (hi:P.info? e=some i) (hz:i.zero=some z)
  (hzs:z.cells.size=i.size) (hsz:i.size=sz) (hby:i.bytes=bytes) (h0:0<sz) (hS:RelS P hh G w σ) (hx:RelV G w x u) (hy:RelV G w y v) (h:uY sz bytes σ x y=some (r,σ')) :
  ∃ w' G' q,(Builtin.append_ #[t,t] ty #[u,v]).run P w = .ok q w'∧RelV G' w' r q∧RelS P hh G' w' σ'∧Evo G w G' w':=by
 subst hby
 cases x<;>try (simp [uY] at h;done)
 case lit xs full tk =>
  obtain ⟨base,cap,rfl,htk,hbn⟩:=kX hx
  cases hv:o9 σ y with
  |none=>simp [uY,hv] at h
  |some ys =>
   simp only [uY,hv] at h
   split at h
   ·rename_i hy0
    cases h
    have:ys=[]:=List.eq_nil_of_length_eq_zero hy0
    subst this
    obtain ⟨b2,c2,rfl⟩:=B6 hy hv
    exact ⟨w,G,_,sQ ht hi htk.1,hx,hS,.refl _ _⟩
   ·rename_i hy0
    split at h
    ·rename_i hcond
     cases h
     simp only [Bool.and_eq_true,decide_eq_true_eq] at hcond
     obtain ⟨⟨⟨⟨hfull,c1⟩,hall⟩,c4⟩,c5⟩:=hcond
     obtain ⟨c2,c3⟩:=sR.1 hall
     obtain ⟨base',cap',olds,e1,ol,oc,orr,o1⟩:=oQ (y:=.lit xs full tk) h0 hS hx rfl rfl c2
     cases e1
     obtain ⟨b2,cap2,news,rfl,nl,nc,nr,n1⟩:=oQ h0 hS hy hv c1 c3
     obtain ⟨a2,rfl,hnews⟩:=nc (fun e=>by rw [e] at hy0;exact hy0 rfl)
     have hm:0<ys.length:=Nat.pos_of_ne_zero hy0
     have hflat:(xs++ys).flatMap AV.cells=xs.flatMap AV.cells++ys.flatMap AV.cells:=List.flatMap_append
     have hrel:=s8 (G:=G) (w:=w) (az:=xs.flatMap AV.cells) (bs:=ys.flatMap AV.cells) (us:=olds) (vs:=news) (by rw [ol,fD c2]) orr nr
     have hcap:cap=xs.length:=htk.2.1 hfull
     obtain ⟨c',vs,hrun,hc',hvs,hget⟩:=tN (P:=P) (w:=w) (ty:=ty) (olds:=olds) (news:=news) (c2:=cap2) ht hi hz hzs htk.1 hbn (by rw [ol,hsz])
      (fun a ha j uu hj=>by
       by_cases hxs:xs=[]
       ·subst hxs
        have:olds=[]:=List.eq_nil_of_length_eq_zero (by simpa using ol)
        rw [this] at hj
        simp at hj
       ·obtain ⟨a',ha',q⟩:=oc hxs
        rw [ha] at ha'
        cases ha'
        exact q j uu hj) (by rw [nl,hsz]) hnews hm (by omega) c4 c5
     rw [hsz] at hvs hget
     have hfl:((xs++ys).flatMap AV.cells).length=(xs.length+ys.length)*sz:=by rw [fD hall,List.length_append]
     obtain ⟨r1,r2⟩:=t9 (hS.drew) (cs:=(xs++ys).flatMap AV.cells) (vs:=vs) (T:=e) (by rw [hvs,hfl];exact Nat.mul_le_mul_right _ hc') (fun p c q hp hq=>by
      have hp':p<(xs.length+ys.length)*sz:=by rw [←hfl];exact (List.getElem?_eq_some_iff.1 hp).1
      rw [hget p hp'] at hq
      rw [hflat] at hp
      exact (hrel p c q hp hq).mono oO)
     exact ⟨_,_,_,hrun,.ref (b:=w.heap.size) (eI (G:=G)) (fun _=>rfl) hc' (fun e=>by cases e),r1,oO.trans r2⟩
    ·cases h
theorem ST {σ:St} {id:Nat} {x:ABlk} (h:σ[id]? = some x):σ.set id x=σ:=by
 apply List.ext_getElem?
 intro i
 by_cases hi:i=id
 ·subst hi
  rw [List.getElem?_set_self (List.getElem?_eq_some_iff.1 h).1,h]
 ·rw [List.getElem?_set_ne (Ne.symm hi)]
theorem zD {sz:Nat}:∀ {ys:List AV} {n:Nat},aU sz ys=true→(ys.take n).flatMap AV.cells=(ys.flatMap AV.cells).take (Nat.min ys.length n*sz)
 |[],n,_=>by simp
 |y::ys,0,_=>by simp [Nat.min]
 |y::ys,n+1,h=>by
  obtain ⟨h1,h2⟩:=i6 h
  have hm:Nat.min (ys.length+1) (n+1)=Nat.min ys.length n+1:=by show min _ _=min _ _+1;omega
  simp only [List.take_succ_cons,List.flatMap_cons,List.length_cons,hm]
  rw [zD h2,Nat.add_mul,Nat.one_mul,Nat.add_comm,←h1.1,List.take_length_add_append,h1.1]
theorem LT {dT sT ty e:TypeId} {sz:Nat} {x y r:AV} {u v:Value} (ht:P.underlying dT=some (.slice e)) (hs:fG P e=some sz)
  (hS:RelS P hh G w σ) (hx:RelV G w x u) (hy:RelV G w y v) (h:pT sz σ x y=some (r,σ')) :
  ∃ w' G' q,(Builtin.copy_ #[dT,sT] ty #[u,v]).run P w = .ok q w'∧RelV G' w' r q∧RelS P hh G' w' σ'∧Evo G w G' w':=by
 obtain ⟨hrs,h0,_⟩:=eX hs w
 cases x<;>try (simp [pT] at h;done)
 case ref id off len sz' =>
  cases hv:o9 σ y with
  |none=>simp [pT,hv] at h
  |some ys =>
   simp only [pT,hv] at h
   split at h
   ·rename_i hcond
    simp only [Bool.and_eq_true,decide_eq_true_eq] at hcond
    obtain ⟨⟨rfl,c1⟩,c2⟩:=hcond
    split at h
    ·rename_i cs hcs
     split at h
     ·rename_i cs' hset
      cases h
      cases hx with
      |ref hl hb hcap hn =>
       rename_i b base cap
       obtain ⟨b2,cap2,us,rfl,ul,uc,ur,u1⟩:=oQ h0 hS hy hv c1 c2
       have hfirst:(Builtin.firstCells sz' (Nat.min ys.length len) (.slice b2 ys.length cap2)).run P w = .ok (us.take (Nat.min ys.length len*sz')).toArray w:=by
        have hle:Nat.min ys.length len*sz'≤us.length:=by rw [ul];exact Nat.mul_le_mul_right _ (Nat.min_le_left _ _)
        by_cases hne:ys=[]
        ·subst hne
         have:us=[]:=List.eq_nil_of_length_eq_zero (by simpa using ul)
         subst this
         cases b2<;>simp [Builtin.firstCells,loadCells,loadCellsFrom,Nat.min]
        ·obtain ⟨a,rfl,hcell⟩:=uc hne
         exact run_firstCells_some w _ _ a _ _ _ (by simp;omega) fun j q hj=>hcell j q (by rw [List.getElem?_take] at hj;split at hj<;>simp_all)
       have hrun0:∀ w',(match base with|some a=>(storeCells a (us.take (Nat.min ys.length len*sz'))).run P w = .ok () w'|none=>w'=w) →
         (Builtin.copy_ #[dT,sT] ty #[.slice base len cap,.slice b2 ys.length cap2]).run P w = .ok (goInt (Nat.min ys.length len)) w':=by
        intro w' hw'
        cases base with
        |none =>
         simp only at hw'
         subst hw'
         simp [Builtin.copy_,run_underlying ht,Builtin.lenOf,hrs,hfirst]
        |some a =>
         simp only at hw'
         simp [Builtin.copy_,run_underlying ht,Builtin.lenOf,hrs,hfirst,hw']
       by_cases hlen:len=0
       ·subst hlen
        have e0:Nat.min ys.length 0*sz'=0:=by simp [Nat.min]
        have hz:cs'=cs:=by
         obtain ⟨_,q2,_⟩:=pY hset
         simpa using q2
        subst hz
        have hσ:σ.set id (.cells cs')=σ:=by
         unfold aM at hcs
         split at hcs
         ·rename_i ds he;cases hcs;exact ST he
         ·cases hcs
        refine ⟨w,G,_,hrun0 w ?_,?_,by rw [hσ];exact hS,.refl _ _⟩
        ·cases base with
         |none=>rfl
         |some a=>rw [e0];rfl
        ·exact .int _ _
       ·have hbs:=hb hlen
        subst hbs
        have hz:((ys.take len).flatMap AV.cells).length=Nat.min ys.length len*sz':=by
         rw [zD c2,List.length_take,fD c2]
         have:Nat.min ys.length len*sz'≤ys.length*sz':=Nat.mul_le_mul_right _ (Nat.min_le_left _ _)
         omega
        obtain ⟨w',e1,e2,e3⟩:=tZ (P:=P) (us:=us.take (Nat.min ys.length len*sz')) hS hl hcs hset
         (by
          rw [hz,List.length_take,ul]
          have:Nat.min ys.length len*sz'≤ys.length*sz':=Nat.mul_le_mul_right _ (Nat.min_le_left _ _)
          omega)
         (fun p c q hp hq=>by
          rw [zD c2,List.getElem?_take] at hp
          rw [List.getElem?_take] at hq
          by_cases hlt:p<Nat.min ys.length len*sz'
          ·rw [if_pos hlt] at hp hq
           exact ur p c q hp hq
          ·rw [if_neg hlt] at hp
           cases hp)
         (fun q hq=>u1 q (List.mem_of_mem_take hq))
        exact ⟨w',G,_,hrun0 w' e1,.int _ _,e2,e3⟩
     ·cases h
    ·cases h
   ·cases h
theorem kN {sk:SK} {a b:AV} {u v:Value} {r:Bool} (ha:RelV G w a u) (hb:RelV G w b v) (h:g9 sk a b=some r) :
  (sk = .i∧∃ k x y,u = .int k x∧v = .int k y∧r=(x==y))∨(sk = .b∧∃ x y,u = .bool x∧v = .bool y∧r=(x==y))∨(sk = .s∧∃ x y,u = .string x∧v = .string y∧r=(x.toList==y.toList)):=by
 unfold g9 at h
 split at h
 ·split at h
  ·rename_i hk
   subst hk
   cases h
   cases ha
   cases hb
   exact .inl ⟨rfl,_,_,_,rfl,rfl,rfl⟩
  ·cases h
 ·cases h
  cases ha
  cases hb
  exact .inr (.inl ⟨rfl,_,_,rfl,rfl,rfl⟩)
 ·cases h
  cases ha
  cases hb
  exact .inr (.inr ⟨rfl,_,_,rfl,rfl,rfl⟩)
 ·cases h
theorem aGK (bs:ByteArray) (n i:Nat) (r:List UInt8) (h:bs.size-i=n):ByteArray.toList.loop bs i r=r.reverse++bs.data.toList.drop i:=by
 induction n generalizing i r with
 |zero =>
  rw [ByteArray.toList.loop]
  have:¬i<bs.size:=by omega
  rw [if_neg this,List.drop_eq_nil_of_le (by simp;show bs.size≤i;omega)]
  simp
 |succ n ih =>
  rw [ByteArray.toList.loop]
  have hi:i<bs.size:=by omega
  have hi':i<bs.data.toList.length:=by simpa using hi
  rw [if_pos hi,ih (i+1) _ (by omega),List.drop_eq_getElem_cons hi']
  have:bs.get! i=bs.data.toList[i]:=by
   simp [ByteArray.get!,getElem!_pos,hi]
  simp [this]
theorem xZ (bs:ByteArray):bs.toList=bs.data.toList:=by
 unfold ByteArray.toList
 rw [aGK bs _ 0 [] rfl]
 simp
theorem I1 (x y:ByteArray):(x==y)=(x.toList==y.toList):=by
 show ByteArray.beq x y=_
 rw [xZ,xZ]
 rcases x with ⟨⟨x⟩⟩
 rcases y with ⟨⟨y⟩⟩
 simp only [ByteArray.beq]
 rw [Bool.eq_iff_iff]
 simp
end Go.Am
namespace Go.Am
variable {P:Program} {hh:String→Bool} {G:Gh} {w:World} {σ σ':St} {env:Env}
def gV (P:Program) (G:Gh) (w:World) (t:TypeId) (x:Value) (az:List AV):Prop :=
 match fI P t with
 |some true=>∃ vs,x = .agg vs∧vs.size=az.length∧∀ (i:Nat) (a:AV) (v:Value),az[i]? = some a→vs[i]? = some v→RelV G w a v
 |_=>∃ a,az=[a]∧RelV G w a x
theorem jF:∀ {ks:List SK} {az bs:List AV} {r:Bool},bK ks az bs=some r→az.length=ks.length∧bs.length=ks.length
 |[],[],[],_,_=>⟨rfl,rfl⟩
 |k::ks,a::az,b::bs,r,h=>by
  simp only [bK] at h
  split at h
  ·rename_i p q h1 h2
   obtain ⟨e1,e2⟩:=jF h2
   simp [e1,e2]
  ·cases h
 |[],_::_,_,_,h=>by simp [bK] at h
 |[],[],_::_,_,h=>by simp [bK] at h
 |_::_,[],_,_,h=>by simp [bK] at h
 |_::_,_::_,[],_,h=>by simp [bK] at h
theorem oF:∀ {k1 k2:List SK} {a1 b1 a2 b2:List AV} {r:Bool},a1.length=k1.length→b1.length=k1.length→bK (k1++k2) (a1++a2) (b1++b2)=some r →
  ∃ r1 r2,bK k1 a1 b1=some r1∧bK k2 a2 b2=some r2∧r=(r1&&r2)
 |[],k2,[],[],a2,b2,r,_,_,h=>⟨true,r,rfl,h,by simp⟩
 |k::k1,k2,a::a1,b::b1,a2,b2,r,hl,hl',h=>by
  simp only [List.cons_append,bK] at h
  cases hp:g9 k a b with
  |none=>simp [hp] at h
  |some p =>
   cases hq:bK (k1++k2) (a1++a2) (b1++b2) with
   |none=>simp [hp,hq] at h
   |some q =>
    simp only [hp,hq,Option.some.injEq] at h
    obtain ⟨r1,r2,e1,e2,rfl⟩:=oF (by simpa using hl) (by simpa using hl') hq
    exact ⟨p&&r1,r2,by simp [bK,hp,e1],e2,by rw [←h,Bool.and_assoc]⟩
 |[],k2,a::a1,_,a2,b2,r,hl,_,h=>by simp at hl
 |[],k2,[],b::b1,a2,b2,r,_,hl,h=>by simp at hl
 |k::k1,k2,[],_,a2,b2,r,hl,_,h=>by simp at hl
 |k::k1,k2,a::a1,[],a2,b2,r,_,hl,h=>by simp at hl
theorem zP {t:TypeId} {i:TypeInfo} (h:P.info? t=some i) (w:World):(sizeOf t).run P w = .ok i.size w:=by simp [sizeOf,typeInfo,h]
theorem lR {t:TypeId} {off:Nat} {b:Bool} {i:TypeInfo} {vs:Array Value} {az:List AV} (hi:P.info? t=some i) (ha:fI P t=some b) (hb:b=false→i.size=1) (hl:vs.size=az.length)
  (hr:∀ (i:Nat) (a:AV) (v:Value),az[i]? = some a→vs[i]? = some v→RelV G w a v) (hle:off+i.size≤az.length) :
  ∃ u,(part t vs off).run P w = .ok u w∧gV P G w t u ((az.drop off).take i.size):=by
 cases b with
 |true =>
  refine ⟨.agg (vs.extract off (off+i.size)),by simp [part,kT ha,zP hi],?_⟩
  simp only [gV,ha]
  refine ⟨_,rfl,by simp;omega,fun j a v h1 h2=>?_⟩
  rw [List.getElem?_take] at h1
  split at h1
  ·rw [List.getElem?_drop] at h1
   refine hr _ a v h1 ?_
   rw [Array.getElem?_extract] at h2
   split at h2
   ·exact h2
   ·cases h2
  ·cases h1
 |false =>
  have hn:=hb rfl
  have h1:off<vs.size:=by omega
  refine ⟨vs[off],by simp [part,kT ha,Array.getElem?_eq_getElem h1],?_⟩
  simp only [gV,ha,hn]
  have h2:off<az.length:=by omega
  refine ⟨az[off],?_,hr off _ _ (List.getElem?_eq_getElem h2) (Array.getElem?_eq_getElem h1)⟩
  rw [List.drop_eq_getElem_cons h2,List.take_succ_cons,List.take_zero]
theorem tB {D:Nat} {t:TypeId} {ks:List SK} (h:plainT P D t=some ks):∃ b,fI P t=some b∧(b=false→ks.length=1):=by
 cases D with
 |zero=>simp [plainT] at h
 |succ D =>
  simp only [plainT] at h
  unfold fI
  cases hu:P.underlying t with
  |none=>simp [hu] at h
  |some d =>
   cases d<;>simp only [hu] at h<;>first|(cases h;done)|skip
   ·cases h;exact ⟨false,rfl,fun _=>rfl⟩
   ·cases h;exact ⟨false,rfl,fun _=>rfl⟩
   ·cases h;exact ⟨false,rfl,fun _=>rfl⟩
   ·exact ⟨true,rfl,fun e=>by cases e⟩
   ·exact ⟨true,rfl,fun e=>by cases e⟩
structure EqOk (P:Program) (D:Nat) (t:TypeId) (ks:List SK):Prop where
 eq:∀ (G:Gh) (w:World) (d:Nat),D≤d→∀ (x y:Value) (az bs:List AV) (r:Bool),gV P G w t x az→gV P G w t y bs→bK ks az bs=some r →
  (Op.equalIn d t x y).run P w = .ok r w
 key:∀ (G:Gh) (w:World) (d:Nat),D≤d→∀ (em:Bool) (x:Value) (az:List AV),gV P G w t x az→az.length=ks.length→(Instr.checkKey em d t x).run P w = .ok () w
def kP (em:Bool) (d:Nat) (xs:Array Value):List Field→Sem Unit
 |[]=>pure ()
 |f::fs=>do
  if f.name≠ "_" then do
   let a ← part f.type xs f.offset
   Instr.checkKey em d f.type a
   kP em d xs fs
  else kP em d xs fs
structure FieldsOk (P:Program) (D:Nat) (fs:List Field) (n:Nat) (ks:List SK):Prop where
 eq:∀ (G:Gh) (w:World) (d:Nat),D≤d→∀ (xs ys:Array Value) (az bs:List AV) (r:Bool),xs.size=az.length→ys.size=bs.length→n+ks.length≤az.length→n+ks.length≤bs.length →
  (∀ (i:Nat) (a:AV) (v:Value),az[i]? = some a→xs[i]? = some v→RelV G w a v)→(∀ (i:Nat) (a:AV) (v:Value),bs[i]? = some a→ys[i]? = some v→RelV G w a v) →
  bK ks ((az.drop n).take ks.length) ((bs.drop n).take ks.length)=some r→(Op.eqFields d xs ys fs).run P w = .ok r w
 key:∀ (G:Gh) (w:World) (d:Nat),D≤d→∀ (em:Bool) (xs:Array Value) (az:List AV),xs.size=az.length→n+ks.length≤az.length →
  (∀ (i:Nat) (a:AV) (v:Value),az[i]? = some a→xs[i]? = some v→RelV G w a v)→(kP em d xs fs).run P w = .ok () w
theorem u9 (em:Bool) (d:Nat) (t:TypeId) (xs:Array Value) {fs:Array Field} (ht:P.underlying t=some (.struct fs)) (w:World) :
  (Instr.checkKey em (d+1) t (.agg xs)).run P w=(kP em d xs fs.toList).run P w:=by
 simp only [Instr.checkKey,Sem.run_bind,run_underlying ht,Result.andThen_ok]
 rw [←Array.forIn_toList]
 generalize fs.toList=l
 clear ht
 induction l generalizing w with
 |nil=>simp [kP]
 |cons f l ih =>
  simp only [List.forIn_cons,kP,Sem.run_bind,Sem.run_ite]
  split
  ·generalize (part f.type xs f.offset).run P w=r1
   cases r1 with
   |ok a w1 =>
    simp only [Result.andThen_ok]
    generalize (Instr.checkKey em d f.type a).run P w1=r2
    cases r2 with
    |ok b w2=>simp only [Result.andThen_ok,Sem.run_pure];exact ih w2
    |halt x w2=>simp [Result.andThen]
   |halt x w1=>simp [Result.andThen]
  ·simp only [Sem.run_pure,Result.andThen_ok]
   exact ih w
def oW (em:Bool) (d:Nat) (e:TypeId) (c:Nat) (xs:Array Value):List Nat→Sem Unit
 |[]=>pure ()
 |i::is=>do
  let a ← part e xs (i*c)
  Instr.checkKey em d e a
  oW em d e c xs is
theorem vN (em:Bool) (d:Nat) {t e:TypeId} {n:Nat} {i:TypeInfo} (xs:Array Value) (hu:P.underlying t=some (.array n e)) (hi:P.info? e=some i) (w:World) :
  (Instr.checkKey em (d+1) t (.agg xs)).run P w=(oW em d e i.size xs (List.range n)).run P w:=by
 simp only [Instr.checkKey,Sem.run_bind,run_underlying hu,Result.andThen_ok]
 simp only [Std.Legacy.Range.forIn_eq_forIn_range',Std.Legacy.Range.size,Nat.sub_zero,Nat.add_one_sub_one,Nat.div_one,List.range_eq_range']
 generalize List.range' 0 n=is
 induction is generalizing w with
 |nil=>simp [oW]
 |cons j is ih =>
  simp only [List.forIn_cons,oW,Sem.run_bind,zP hi,Result.andThen_ok]
  generalize (part e xs (j*i.size)).run P w=r1
  cases r1 with
  |ok a w1 =>
   simp only [Result.andThen_ok]
   generalize (Instr.checkKey em d e a).run P w1=r2
   cases r2 with
   |ok b w2=>simp only [Result.andThen_ok,Sem.run_pure];exact ih w2
   |halt x w2=>simp [Result.andThen]
  |halt x w1=>simp [Result.andThen]
theorem IY {D d c:Nat} {e:TypeId} {ks:List SK} {i:TypeInfo} (hE:EqOk P D e ks) (hd:D≤d) (hi:P.info? e=some i) (hc:i.size=ks.length) (hag:∃ b,fI P e=some b∧(b=false→ks.length=1))
  {xs ys:Array Value} {az bs:List AV} (h1:xs.size=az.length) (h2:ys.size=bs.length) (h3:∀ (i:Nat) (a:AV) (v:Value),az[i]? = some a→xs[i]? = some v→RelV G w a v)
  (h4:∀ (i:Nat) (a:AV) (v:Value),bs[i]? = some a→ys[i]? = some v→RelV G w a v):∀ (k s:Nat) (r:Bool),(s+k)*ks.length≤az.length→(s+k)*ks.length≤bs.length →
  bK (List.replicate k ks).flatten ((az.drop (s*ks.length)).take (k*ks.length)) ((bs.drop (s*ks.length)).take (k*ks.length))=some r →
  (Op.eqItems d e ks.length xs ys (List.range' s k)).run P w = .ok r w
 |0,s,r,_,_,h=>by
  simp [bK] at h
  simp [Op.eqItems,h]
 |k+1,s,r,ha,hb,h=>by
  obtain ⟨b,hb1,hb2⟩:=hag
  have split:∀ l:List AV,(l.drop (s*ks.length)).take ((k+1)*ks.length)=(l.drop (s*ks.length)).take ks.length++(l.drop ((s+1)*ks.length)).take (k*ks.length):=by
   intro l
   rw [Nat.add_mul,Nat.one_mul,Nat.add_comm (k*ks.length),List.take_add,List.drop_drop,Nat.add_mul,Nat.one_mul]
  have hle:s*ks.length+ks.length≤(s+(k+1))*ks.length:=by
   rw [show s+(k+1)=(s+1)+k from by omega,Nat.add_mul (s+1),Nat.add_mul s,Nat.one_mul];omega
  rw [List.replicate_succ,List.flatten_cons,split az,split bs] at h
  obtain ⟨r1,r2,e1,e2,rfl⟩:=oF (by simp;omega) (by simp;omega) h
  obtain ⟨a,p1,c1⟩:=lR (off:=s*ks.length) hi hb1 (fun e=>by rw [hc];exact hb2 e) h1 h3 (by rw [hc];omega)
  obtain ⟨b',p2,c2⟩:=lR (off:=s*ks.length) hi hb1 (fun e=>by rw [hc];exact hb2 e) h2 h4 (by rw [hc];omega)
  rw [hc] at c1 c2
  have p3:=hE.eq G w d hd a b' _ _ r1 c1 c2 e1
  have ih:=IY (c:=c) hE hd hi hc ⟨b,hb1,hb2⟩ h1 h2 h3 h4 k (s+1) r2 (by rw [show s+1+k=s+(k+1) from by omega];exact ha) (by rw [show s+1+k=s+(k+1) from by omega];exact hb) e2
  simp only [List.range'_succ,Op.eqItems,Sem.run_bind,p1,p2,p3,Result.andThen_ok]
  cases r1
  ·simp
  ·simpa using ih
theorem E1 {D d:Nat} {e:TypeId} {ks:List SK} {i:TypeInfo} (em:Bool) (hE:EqOk P D e ks) (hd:D≤d) (hi:P.info? e=some i) (hc:i.size=ks.length) (hag:∃ b,fI P e=some b∧(b=false→ks.length=1))
  {xs:Array Value} {az:List AV} (h1:xs.size=az.length) (h3:∀ (i:Nat) (a:AV) (v:Value),az[i]? = some a→xs[i]? = some v→RelV G w a v):∀ (k s:Nat),(s+k)*ks.length≤az.length →
  (oW em d e ks.length xs (List.range' s k)).run P w = .ok () w
 |0,s,_=>by simp [oW]
 |k+1,s,ha=>by
  obtain ⟨b,hb1,hb2⟩:=hag
  have hle:s*ks.length+ks.length≤(s+(k+1))*ks.length:=by
   rw [show s+(k+1)=(s+1)+k from by omega,Nat.add_mul (s+1),Nat.add_mul s,Nat.one_mul];omega
  obtain ⟨a,p1,c1⟩:=lR (off:=s*ks.length) hi hb1 (fun e=>by rw [hc];exact hb2 e) h1 h3 (by rw [hc];omega)
  rw [hc] at c1
  have p2:=hE.key G w d hd em a _ c1 (by simp;omega)
  have ih:=E1 em hE hd hi hc ⟨b,hb1,hb2⟩ h1 h3 k (s+1) (by rw [show s+1+k=s+(k+1) from by omega];exact ha)
  simp only [List.range'_succ,oW,Sem.run_bind,p1,p2,Result.andThen_ok]
  exact ih
theorem KG (n:Nat) (ks:List SK):(List.replicate n ks).flatten.length=n*ks.length:=by
 induction n with
 |zero=>simp
 |succ n ih=>rw [List.replicate_succ,List.flatten_cons,List.length_append,ih,Nat.add_mul];omega
theorem aAA (D:Nat):(∀ t ks,plainT P D t=some ks→EqOk P D t ks)∧(∀ fs n ks,plainFields P D fs n=some ks→FieldsOk P D fs n ks):=by
 induction D with
 |zero=>exact ⟨fun t ks h=>by simp [plainT] at h,fun fs n ks h=>by simp [plainFields] at h⟩
 |succ D ih =>
  obtain ⟨ihA,ihB⟩:=ih
  constructor
  ·intro t ks h
   obtain ⟨ab,hab,_⟩:=tB h
   simp only [plainT] at h
   cases hu:P.underlying t with
   |none=>simp [hu] at h
   |some dd =>
    have scal:∀ {k:SK},ks=[k]→fI P t=some false→(∀ (k':IntKind),dd = .int k'→k = .i)→(dd = .bool→k = .b)→(dd = .string→k = .s)→(dd = .bool∨(∃ k',dd = .int k')∨dd = .string)→EqOk P (D+1) t ks:=by
     intro k hk hag q1 q2 q3 hdd
     subst hk
     constructor
     ·intro G w d hd x y az bs r hx hy he
      obtain ⟨d,rfl⟩:∃ e,d=e+1:=⟨d-1,by omega⟩
      simp only [gV,hag] at hx hy
      obtain ⟨a,rfl,ra⟩:=hx
      obtain ⟨b,rfl,rb⟩:=hy
      simp only [bK] at he
      cases hc:g9 k a b with
      |none=>simp [hc] at he
      |some q =>
       simp only [hc,Bool.and_true,Option.some.injEq] at he
       subst he
       rcases hdd with rfl|⟨k',rfl⟩|rfl
       ·have:=q2 rfl;subst this
        rcases kN ra rb hc with ⟨e,_⟩|⟨_,p1,p2,rfl,rfl,rfl⟩|⟨e,_⟩
        ·cases e
        ·exact run_equalIn_bool' w d t p1 p2 hu
        ·cases e
       ·have:=q1 k' rfl;subst this
        rcases kN ra rb hc with ⟨_,kk,p1,p2,rfl,rfl,rfl⟩|⟨e,_⟩|⟨e,_⟩
        ·exact run_equalIn_int w d t kk k' p1 p2 hu
        ·cases e
        ·cases e
       ·have:=q3 rfl;subst this
        rcases kN ra rb hc with ⟨e,_⟩|⟨e,_⟩|⟨_,p1,p2,rfl,rfl,rfl⟩
        ·cases e
        ·cases e
        ·exact run_equalIn_string w d t p1 p2 hu
     ·intro G w d hd em x az hx _
      obtain ⟨d,rfl⟩:∃ e,d=e+1:=⟨d-1,by omega⟩
      rcases hdd with rfl|⟨k',rfl⟩|rfl<;>simp [Instr.checkKey,run_underlying hu]
    cases dd<;>simp only [hu] at h<;>first|(cases h;done)|skip
    case bool=>cases h;exact scal rfl (by simp [fI,hu]) (fun _ e=>by cases e) (fun _=>rfl) (fun e=>by cases e) (.inl rfl)
    case int k=>cases h;exact scal rfl (by simp [fI,hu]) (fun _ _=>rfl) (fun e=>by cases e) (fun e=>by cases e) (.inr (.inl ⟨_,rfl⟩))
    case string=>cases h;exact scal rfl (by simp [fI,hu]) (fun _ e=>by cases e) (fun e=>by cases e) (fun _=>rfl) (.inr (.inr rfl))
    case array n e =>
     have hag:fI P t=some true:=by simp [fI,hu]
     cases hp:plainT P D e with
     |none=>simp [hp] at h
     |some k0 =>
      cases hi:P.info? e with
      |none=>simp [hp,hi] at h
      |some i =>
       simp only [hp,hi] at h
       split at h
       ·rename_i hc
        cases h
        have hE:=ihA e k0 hp
        have hpa:=tB hp
        constructor
        ·intro G w d hd x y az bs r hx hy he
         obtain ⟨d,rfl⟩:∃ e,d=e+1:=⟨d-1,by omega⟩
         simp only [gV,hag] at hx hy
         obtain ⟨xs,rfl,sx,rx⟩:=hx
         obtain ⟨ys,rfl,sy,ry⟩:=hy
         obtain ⟨l1,l2⟩:=jF he
         rw [KG] at l1 l2
         have hcc:P.cellsOf e=k0.length:=by simp [Program.cellsOf,hi,hc]
         rw [run_equalIn_array w d xs ys hu hi,hcc,List.range_eq_range']
         refine IY (c:=0) hE (by omega) hi hc hpa sx sy rx ry n 0 r (by rw [Nat.zero_add];omega) (by rw [Nat.zero_add];omega) ?_
         rw [Nat.zero_mul,List.drop_zero,List.drop_zero,List.take_of_length_le (by omega),List.take_of_length_le (by omega)]
         exact he
        ·intro G w d hd em x az hx hl
         obtain ⟨d,rfl⟩:∃ e,d=e+1:=⟨d-1,by omega⟩
         simp only [gV,hag] at hx
         obtain ⟨xs,rfl,sx,rx⟩:=hx
         rw [KG] at hl
         rw [vN em d xs hu hi,hc,List.range_eq_range']
         exact E1 em hE (by omega) hi hc hpa sx rx n 0 (by rw [Nat.zero_add];omega)
       ·cases h
    case struct fs =>
     have hag:fI P t=some true:=by simp [fI,hu]
     split at h
     ·cases h
     ·rename_i hst
      have hst':P.stoodInHeld t=false:=by simpa using hst
      have hF:=ihB _ _ _ h
      have hfs:P.fieldsOf t=fs:=by simp [Program.fieldsOf,hu]
      constructor
      ·intro G w d hd x y az bs r hx hy he
       obtain ⟨d,rfl⟩:∃ e,d=e+1:=⟨d-1,by omega⟩
       simp only [gV,hag] at hx hy
       obtain ⟨xs,rfl,sx,rx⟩:=hx
       obtain ⟨ys,rfl,sy,ry⟩:=hy
       obtain ⟨l1,l2⟩:=jF he
       rw [run_equalIn_struct w d t xs ys (by rw [hfs];exact hu) hst',hfs]
       refine hF.eq G w d (by omega) xs ys az bs r sx sy (by omega) (by omega) rx ry ?_
       rw [List.drop_zero,List.drop_zero,List.take_of_length_le (by omega),List.take_of_length_le (by omega)]
       exact he
      ·intro G w d hd em x az hx hl
       obtain ⟨d,rfl⟩:∃ e,d=e+1:=⟨d-1,by omega⟩
       simp only [gV,hag] at hx
       obtain ⟨xs,rfl,sx,rx⟩:=hx
       rw [u9 em d t xs hu]
       exact hF.key G w d (by omega) em xs az sx (by omega) rx
  ·intro fs n ks h
   cases fs with
   |nil =>
    simp [plainFields] at h
    subst h
    constructor
    ·intro G w d hd xs ys az bs r _ _ _ _ _ _ he
     simp [bK] at he
     simp [Op.eqFields,he]
    ·intro G w d hd em xs az _ _ _
     simp [kP]
   |cons f fs =>
    simp only [plainFields] at h
    split at h
    ·cases h
    ·rename_i hcond
     have hname:f.name≠ "_":=fun e=>hcond (.inl e)
     have hoff:f.offset=n:=by
      by_cases e:f.offset=n
      ·exact e
      ·exact absurd (.inr e) hcond
     cases hp:plainT P D f.type with
     |none=>simp [hp] at h
     |some k0 =>
      cases hi:P.info? f.type with
      |none=>simp [hp,hi] at h
      |some i =>
       simp only [hp,hi] at h
       split at h
       ·rename_i hc
        cases hr:plainFields P D fs (n+k0.length) with
        |none=>simp [hr] at h
        |some kr =>
         simp only [hr,Option.some.injEq] at h
         subst h
         have hE:=ihA _ _ hp
         have hF:=ihB _ _ _ hr
         obtain ⟨b,hb1,hb2⟩:=tB hp
         have hoff':f.offset=n:=hoff
         constructor
         ·intro G w d hd xs ys az bs r sx sy lx ly rx ry he
          simp only [List.length_append] at lx ly
          have split:∀ l:List AV,(l.drop n).take (k0++kr).length=(l.drop n).take k0.length++(l.drop (n+k0.length)).take kr.length:=by
           intro l
           rw [List.length_append,List.take_add,List.drop_drop]
          rw [split az,split bs] at he
          obtain ⟨r1,r2,e1,e2,rfl⟩:=oF (by simp;omega) (by simp;omega) he
          obtain ⟨a,p1,c1⟩:=lR (off:=n) hi hb1 (fun e=>by rw [hc];exact hb2 e) sx rx (by rw [hc];omega)
          obtain ⟨b',p2,c2⟩:=lR (off:=n) hi hb1 (fun e=>by rw [hc];exact hb2 e) sy ry (by rw [hc];omega)
          rw [hc] at c1 c2
          have p3:=hE.eq G w d (by omega) a b' _ _ r1 c1 c2 e1
          have p4:=hF.eq G w d (by omega) xs ys az bs r2 sx sy (by omega) (by omega) rx ry e2
          simp only [Op.eqFields,hname,ne_eq,not_false_eq_true,if_true,Sem.run_bind,hoff',p1,p2,p3,Result.andThen_ok]
          cases r1
          ·simp
          ·simpa using p4
         ·intro G w d hd em xs az sx lx rx
          simp only [List.length_append] at lx
          obtain ⟨a,p1,c1⟩:=lR (off:=n) hi hb1 (fun e=>by rw [hc];exact hb2 e) sx rx (by rw [hc];omega)
          rw [hc] at c1
          have p3:=hE.key G w d (by omega) em a _ c1 (by simp;omega)
          have p4:=hF.key G w d (by omega) em xs az sx (by omega) rx
          simp only [kP,hname,ne_eq,not_false_eq_true,if_true,Sem.run_bind,hoff',p1,p3,Result.andThen_ok]
          exact p4
       ·cases h
end Go.Am
set_option linter.constructorNameAsVariable false
namespace Go.Am
variable {P:Program} {hh:String→Bool} {G:Gh} {w:World} {σ σ':St} {env:Env}
theorem zM {t:TypeId} {sh:EqTy} (h:eqT P t=some sh) :
  (∃ k,sh = .one k∧plainT P uB t=some [k]∧fI P t=some false)∨(∃ ks,sh = .agg ks∧plainT P uB t=some ks∧fI P t=some true∧P.eqGuardType P.depth t=false):=by
 unfold eqT at h
 split at h
 ·rename_i k h1 h2;cases h;exact .inl ⟨k,rfl,h1,h2⟩
 ·rename_i ks h1 h2
  split at h
  ·cases h
  ·rename_i hg;cases h;exact .inr ⟨ks,rfl,h1,h2,by simpa using hg⟩
 ·cases h
theorem C3 {t:TypeId} {sh:EqTy} {x y:AV} {u v:Value} {r:Bool} (ht:eqT P t=some sh) (hx:RelV G w x u) (hy:RelV G w y v) (h:jV sh x y=some r) :
  ∃ ks az bs,plainT P uB t=some ks∧gV P G w t u az∧gV P G w t v bs∧bK ks az bs=some r:=by
 rcases zM ht with ⟨k,rfl,h1,h2⟩|⟨ks,rfl,h1,h2,h3⟩
 ·simp only [jV] at h
  refine ⟨[k],[x],[y],h1,?_,?_,by simp [bK,h]⟩
  ·simp only [gV,h2];exact ⟨x,rfl,hx⟩
  ·simp only [gV,h2];exact ⟨y,rfl,hy⟩
 ·cases x<;>cases y<;>simp only [jV] at h<;>first|(cases h;done)|skip
  rename_i cs ds
  cases hx with
  |agg sx rx =>
   cases hy with
   |agg sy ry =>
    refine ⟨ks,cs,ds,h1,?_,?_,h⟩
    ·simp only [gV,h2];exact ⟨_,rfl,sx,rx⟩
    ·simp only [gV,h2];exact ⟨_,rfl,sy,ry⟩
theorem zC {t:TypeId} {sh:EqTy} {x y:AV} {u v:Value} {r:Bool} (ht:eqT P t=some sh) (hx:RelV G w x u) (hy:RelV G w y v) (h:jV sh x y=some r) :
  (Op.equal t u v).run P w = .ok r w:=by
 obtain ⟨ks,az,bs,h1,h2,h3,h4⟩:=C3 ht hx hy h
 exact ((aAA uB).1 t ks h1).eq G w Op.maxDepth (by decide) u v az bs r h2 h3 h4
theorem NZ {t:TypeId} {sh:EqTy} {x y:AV} {u v:Value} {r:Bool} (neg:Bool) (xo yo:Operand) (ht:eqT P t=some sh) (hx:RelV G w x u) (hy:RelV G w y v) (h:jV sh x y=some r) :
  ((do eqGuard (if neg then .neq else .eql) t xo yo u v;binOp (if neg then .neq else .eql) t u v:Sem Value)).run P w = .ok (.bool (if neg then !r else r)) w:=by
 have he:=zC ht hx hy h
 rcases zM ht with ⟨k,rfl,h1,h2⟩|⟨ks,rfl,h1,h2,h3⟩
 ·simp only [jV] at h
  rcases kN hx hy h with ⟨rfl,kk,a,b,rfl,rfl,rfl⟩|⟨rfl,a,b,rfl,rfl,rfl⟩|⟨rfl,a,b,rfl,rfl,rfl⟩
  ·cases neg<;>simp [eqGuard,binOp,Op.intCmp,bne]
  ·cases neg<;>simp [eqGuard,binOp,he]
  ·cases neg<;>simp [eqGuard,binOp,Op.stringOp]
 ·cases x<;>cases y<;>simp only [jV] at h<;>first|(cases h;done)|skip
  cases hx with
  |agg sx rx =>
   cases hy with
   |agg sy ry =>
    cases neg<;>simp [eqGuard,binOp,he,h3]
def j6 (sh:EqTy) (k:AV):List (AV×AV)→Option (Option Nat)
 |[]=>some none
 |(k',_)::es =>
  match jV sh k k' with
  |some true=>some (some 0)
  |some false=>(j6 sh k es).map (Option.map (·+1))
  |none=>none
theorem C0 {sh:EqTy} {k:AV}:∀ {es:List (AV×AV)} {r:Option AV},findKey sh k es=some r →
  (j6 sh k es=some none∧r=none)∨∃ i k' v,j6 sh k es=some (some i)∧es[i]? = some (k',v)∧r=some v∧jV sh k k'=some true
 |[],r,h=>by simp [findKey] at h;exact .inl ⟨rfl,h.symm⟩
 |(k',v)::es,r,h=>by
  simp only [findKey] at h
  split at h
  ·rename_i he
   cases h
   exact .inr ⟨0,k',v,by simp [j6,he],rfl,rfl,he⟩
  ·rename_i he
   rcases C0 h with ⟨h1,h2⟩|⟨i,k2,v2,h1,h2,h3,h4⟩
   ·exact .inl ⟨by simp [j6,he,h1],h2⟩
   ·exact .inr ⟨i+1,k2,v2,by simp [j6,he,h1],by simpa using h2,h3,h4⟩
  ·cases h
theorem FV {sh:EqTy} {k v:AV}:∀ {es es':List (AV×AV)},mF sh k v es=some es' →
  (j6 sh k es=some none∧es'=es++[(k,v)])∨∃ i k' v',j6 sh k es=some (some i)∧es[i]? = some (k',v')∧es'=es.set i (k,v)∧jV sh k k'=some true
 |[],es',h=>by simp [mF] at h;exact .inl ⟨rfl,by simp [h]⟩
 |(k',v')::es,es',h=>by
  simp only [mF] at h
  split at h
  ·rename_i he
   cases h
   exact .inr ⟨0,k',v',by simp [j6,he],rfl,rfl,he⟩
  ·rename_i he
   cases hs:mF sh k v es with
   |none=>simp [hs] at h
   |some es2 =>
    simp only [hs,Option.map_some,Option.some.injEq] at h
    subst h
    rcases FV hs with ⟨h1,h2⟩|⟨i,k2,v2,h1,h2,h3,h4⟩
    ·exact .inl ⟨by simp [j6,he,h1],by simp [h2]⟩
    ·exact .inr ⟨i+1,k2,v2,by simp [j6,he,h1],by simpa using h2,by simp [h3],h4⟩
  ·cases h
theorem VU {t:TypeId} {k:SK} (h1:plainT P uB t=some [k]) (h2:fI P t=some false) :
  (k = .i∧∃ q,P.underlying t=some (.int q))∨(k = .b∧P.underlying t=some .bool)∨(k = .s∧P.underlying t=some .string):=by
 unfold fI at h2
 rw [show uB=59+1 from rfl] at h1
 simp only [plainT] at h1
 cases hu:P.underlying t with
 |none=>simp [hu] at h2
 |some d =>
  cases d<;>simp only [hu] at h1 h2<;>first|(cases h1;done)|(simp at h2;done)|skip
  ·cases h1;exact .inr (.inl ⟨rfl,rfl⟩)
  ·cases h1;exact .inl ⟨rfl,_,rfl⟩
  ·cases h1;exact .inr (.inr ⟨rfl,rfl⟩)
theorem UO {t:TypeId} (h2:fI P t=some true):(∃ fs,P.underlying t=some (.struct fs))∨∃ n e,P.underlying t=some (.array n e):=by
 unfold fI at h2
 cases hu:P.underlying t with
 |none=>simp [hu] at h2
 |some d=>cases d<;>simp_all
def mM (G:Gh) (w:World) (es:List (AV×AV)) (ents:List MapEntry):Prop :=
 ents.length=es.length∧∀ (i:Nat) (p:AV×AV) (e:MapEntry),es[i]? = some p→ents[i]? = some e→RelV G w p.1 e.key∧RelV G w p.2 e.val
theorem mM.tail {p:AV×AV} {es:List (AV×AV)} {e:MapEntry} {ents:List MapEntry} (h:mM G w (p::es) (e::ents)):mM G w es ents :=
 ⟨by simpa using h.1,fun i q f h1 h2=>h.2 (i+1) q f (by simpa using h1) (by simpa using h2)⟩
theorem tO {t:TypeId} {sh:EqTy} {k:AV} {kv:Value} (ht:eqT P t=some sh) (hk:RelV G w k kv):∀ {es:List (AV×AV)} {ents:List MapEntry} {r:Option Nat} (base:Nat),mM G w es ents →
  j6 sh k es=some r→(Instr.findAsking t kv ents base).run P w = .ok (r.bind fun i=>(ents[i]?).map fun e=>(base+i,e.val)) w
 |[],ents,r,base,hE,h=>by
  have:ents=[]:=List.eq_nil_of_length_eq_zero hE.1
  subst this
  simp [j6] at h
  subst h
  simp [Instr.findAsking]
 |(k',v)::es,[],r,base,hE,h=>by simp [mM] at hE
 |(k',v)::es,e::ents,r,base,hE,h=>by
  obtain ⟨r1,r2⟩:=hE.2 0 _ _ rfl rfl
  simp only [j6] at h
  split at h
  ·rename_i he
   cases h
   have:=zC ht hk r1 he
   simp [Instr.findAsking,this]
  ·rename_i he
   have hq:=zC ht hk r1 he
   cases hi:j6 sh k es with
   |none=>simp [hi] at h
   |some r' =>
    simp only [hi,Option.map_some,Option.some.injEq] at h
    subst h
    have ih:=tO ht hk (base+1) hE.tail hi
    simp only [Instr.findAsking,Sem.run_bind,hq,Result.andThen_ok,Bool.false_eq_true,if_false,ih]
    cases r' with
    |none=>rfl
    |some i=>simp [Nat.add_assoc,Nat.add_comm 1 i]
  ·cases h
theorem wR {t:TypeId} {k:SK} {a b:AV} {u v:Value} {r:Bool} {d:TypeDesc} (hd:(k = .i∧∃ q,d = .int q)∨(k = .b∧d = .bool)∨(k = .s∧d = .string)) (ha:RelV G w a u) (hb:RelV G w b v) (h:g9 k a b=some r) :
  Instr.sameNow d u v=some r:=by
 rcases kN ha hb h with ⟨rfl,kk,x,y,rfl,rfl,rfl⟩|⟨rfl,x,y,rfl,rfl,rfl⟩|⟨rfl,x,y,rfl,rfl,rfl⟩
 ·rcases hd with ⟨_,q,rfl⟩|⟨e,_⟩|⟨e,_⟩
  ·simp [Instr.sameNow]
  ·cases e
  ·cases e
 ·rcases hd with ⟨e,_⟩|⟨_,rfl⟩|⟨e,_⟩
  ·cases e
  ·simp [Instr.sameNow]
  ·cases e
 ·rcases hd with ⟨e,_⟩|⟨e,_⟩|⟨_,rfl⟩
  ·cases e
  ·cases e
  ·simp [Instr.sameNow,I1]
theorem AA {d:TypeDesc} {k:SK} {x:AV} {kv:Value} (hd:(k = .i∧∃ q,d = .int q)∨(k = .b∧d = .bool)∨(k = .s∧d = .string)) (hk:RelV G w x kv) :
  ∀ {es:List (AV×AV)} {ents:List MapEntry} {r:Option Nat} (base:Nat),mM G w es ents→j6 (.one k) x es=some r →
  Instr.findNow d kv ents base=some (r.bind fun i=>(ents[i]?).map fun e=>(base+i,e.val))
 |[],ents,r,base,hE,h=>by
  have:ents=[]:=List.eq_nil_of_length_eq_zero hE.1
  subst this
  simp [j6] at h
  subst h
  simp [Instr.findNow]
 |(k',v)::es,[],r,base,hE,h=>by simp [mM] at hE
 |(k',v)::es,e::ents,r,base,hE,h=>by
  obtain ⟨r1,r2⟩:=hE.2 0 _ _ rfl rfl
  simp only [j6,jV] at h
  split at h
  ·rename_i he
   cases h
   simp [Instr.findNow,wR (t:=0) hd hk r1 he]
  ·rename_i he
   cases hi:j6 (.one k) x es with
   |none=>simp [hi] at h
   |some r' =>
    simp only [hi,Option.map_some,Option.some.injEq] at h
    subst h
    have ih:=AA hd hk (base+1) hE.tail hi
    simp only [Instr.findNow,wR (t:=0) hd hk r1 he,ih]
    cases r' with
    |none=>rfl
    |some i=>simp [Nat.add_assoc,Nat.add_comm 1 i]
  ·cases h
theorem mY {t:TypeId} {sh:EqTy} {k:AV} {kv:Value} {es:List (AV×AV)} {ents:List MapEntry} {r:Option Nat} (ht:eqT P t=some sh) (hk:RelV G w k kv) (hE:mM G w es ents)
  (h:j6 sh k es=some r):(Instr.findKey t kv ents).run P w = .ok (r.bind fun i=>(ents[i]?).map fun e=>(i,e.val)) w:=by
 rcases zM ht with ⟨k0,rfl,h1,h2⟩|⟨ks,rfl,h1,h2,h3⟩
 ·obtain ⟨d,hu,hd⟩:∃ d,P.underlying t=some d∧((k0 = .i∧∃ q,d = .int q)∨(k0 = .b∧d = .bool)∨(k0 = .s∧d = .string)):=by
   rcases VU h1 h2 with ⟨e,q,hu⟩|⟨e,hu⟩|⟨e,hu⟩
   ·exact ⟨_,hu,.inl ⟨e,q,rfl⟩⟩
   ·exact ⟨_,hu,.inr (.inl ⟨e,rfl⟩)⟩
   ·exact ⟨_,hu,.inr (.inr ⟨e,rfl⟩)⟩
  have:=AA hd hk 0 hE h
  simp only [Nat.zero_add] at this
  simp only [Instr.findKey,Sem.run_bind,run_underlying hu,Result.andThen_ok,this,Sem.run_pure]
 ·obtain ⟨d,hu,hd⟩:∃ d,P.underlying t=some d∧∀ a b,Instr.sameNow d a b=none:=by
   rcases UO h2 with ⟨fs,hu⟩|⟨n,e,hu⟩
   ·exact ⟨_,hu,fun a b=>by cases a<;>cases b<;>rfl⟩
   ·exact ⟨_,hu,fun a b=>by cases a<;>cases b<;>rfl⟩
  cases ents with
  |nil =>
   have:es=[]:=List.eq_nil_of_length_eq_zero hE.1.symm
   subst this
   simp [j6] at h
   subst h
   simp [Instr.findKey,run_underlying hu,Instr.findNow]
  |cons e ents =>
   have:=tO (P:=P) ht hk 0 hE h
   simp only [Nat.zero_add] at this
   simp only [Instr.findKey,Sem.run_bind,run_underlying hu,Result.andThen_ok,Instr.findNow,hd]
   exact this
theorem sG {t:TypeId} {sh:EqTy} {k:AV} {kv:Value} (em:Bool) (ht:eqT P t=some sh) (hk:RelV G w k kv) (h:(jV sh k k).isSome=true):(Instr.checkKey em 10000 t kv).run P w = .ok () w:=by
 obtain ⟨r,hr⟩:=Option.isSome_iff_exists.1 h
 obtain ⟨ks,az,bs,h1,h2,h3,h4⟩:=C3 ht hk hk hr
 exact ((aAA uB).1 t ks h1).key G w 10000 (by decide) em kv az h2 (jF h4).1
theorem jK {r:Nat} {es:Array MapEntry} {clock:Nat} (hb:w.heap[r]? = some (.map es clock)):(getObj r).run P w = .ok (.map es clock) w:=by simp [getObj,Sem.run,hb]
theorem BS {r:Nat} {es:Array MapEntry} {clock:Nat} (o:Obj) (hb:w.heap[r]? = some (.map es clock)):(setObj r o).run P w = .ok () { w with heap:=w.heap.setIfInBounds r o }:=by simp [setObj,Sem.run,hb]
theorem xU {t key elem:TypeId} {sh:EqTy} {zero:AV} {m k:AV} {r:Option AV} {mv kv:Value} (ok:Bool) (hu:P.underlying t=some (.map key elem)) (ht:eqT P key=some sh) (hz:JM P elem=some zero)
  (hS:RelS P hh G w σ) (hm:RelV G w m mv) (hk:RelV G w k kv) (h:wG sh σ m k=some r) :
  ∃ q,(Instr.lookup t mv kv ok).run P w = .ok q w∧RelV G w (if ok then .tuple [r.getD zero,.bool r.isSome] else r.getD zero) q:=by
 obtain ⟨iz,zv,_,_,hzv,hzrun⟩:=BY hz
 have hzr:RelV G w zero zv:=uA hzv
 have res:∀ {a:AV} {u:Value} (b:Bool),RelV G w a u→RelV G w (if ok then .tuple [a,.bool b] else a) (if ok then .tuple #[u,.bool b] else u):=by
  intro a u b ha
  cases ok with
  |false=>exact ha
  |true =>
   refine .tuple (by simp) fun i x v h1 h2=>?_
   match i with
   |0=>simp at h1 h2;subst h1;subst h2;exact ha
   |1=>simp at h1 h2;subst h1;subst h2;exact .bool _
   |i+2=>simp at h1
 cases m<;>simp only [wG] at h<;>first|(cases h;done)|skip
 case nilMap =>
  cases hm
  split at h
  ·rename_i hc
   cases h
   refine ⟨_,?_,res false hzr⟩
   have h1:=sG (P:=P) true ht hk hc
   have h2:=mY (P:=P) (es:=[]) (ents:=[]) (r:=none) ht hk ⟨rfl,fun i p e h=>by simp at h⟩ rfl
   simp only [Option.bind_none] at h2
   cases ok<;>simp [Instr.lookup,run_underlying hu,h1,h2,hzrun]
  ·cases h
 case map id =>
  cases hm with
  |map hl =>
   rename_i b
   cases hσ:σ[id]? with
   |none=>simp [hσ] at h
   |some blk =>
    cases blk<;>simp only [hσ] at h<;>first|(cases h;done)|skip
    rename_i es
    split at h
    ·rename_i hc
     obtain ⟨ents,hb,hlen,hborn,hrel⟩:=hS.blk _ _ _ hl hσ
     have hE:mM G w es ents.toList:=⟨by simpa using hlen,fun i p e h1 h2=>hrel i p e h1 (by simpa using h2)⟩
     have hck:∀ em,(Instr.checkKey em 10000 key kv).run P w = .ok () w:=fun em=>sG em ht hk hc
     rcases C0 h with ⟨h1,rfl⟩|⟨i,k',v,h1,h2,rfl,h4⟩
     ·refine ⟨_,?_,res false hzr⟩
      have h2:=mY (P:=P) ht hk hE h1
      simp only [Option.bind_none] at h2
      cases ok<;>simp [Instr.lookup,run_underlying hu,jK hb,hck,h2,hzrun]
     ·have hi:i<ents.toList.length:=by have:=(List.getElem?_eq_some_iff.1 h2).1;simp;omega
      have he:=List.getElem?_eq_getElem hi
      refine ⟨_,?_,res true (hE.2 i _ _ h2 he).2⟩
      have h3:=mY (P:=P) ht hk hE h1
      simp only [Option.bind_some,he,Option.map_some] at h3
      cases ok<;>simp [Instr.lookup,run_underlying hu,jK hb,hck,h3]
    ·cases h
theorem HY {sh:EqTy} {k k':AV} {u v:Value} (hk:RelV G w k u) (hk':RelV G w k' v) (h:jV sh k k'=some true) (n:Nat):Instr.sameBits (n+1) v u=true:=by
 have one:∀ {s:SK} {a b:AV} {x y:Value} (n:Nat),RelV G w a x→RelV G w b y→g9 s a b=some true→Instr.sameBits n y x=true:=by
  intro s a b x y n ha hb he
  rcases kN ha hb he with ⟨_,kk,p,q,rfl,rfl,e⟩|⟨_,p,q,rfl,rfl,e⟩|⟨_,p,q,rfl,rfl,e⟩
  ·have:p=q:=by simpa using e.symm
   subst this
   simp [Instr.sameBits]
  ·have:p=q:=by simpa using e.symm
   subst this
   simp [Instr.sameBits]
  ·have e':(q==p)=true:=by
    rw [I1]
    have:=e.symm
    simp only [beq_iff_eq] at this ⊢
    exact this.symm
   simp [Instr.sameBits,e']
 cases sh with
 |one s=>exact one _ hk hk' h
 |agg ks =>
  cases k<;>cases k'<;>simp only [jV] at h<;>first|(cases h;done)|skip
  rename_i cs ds
  cases hk with
  |agg sx rx =>
   rename_i xs
   cases hk' with
   |agg sy ry =>
    rename_i ys
    obtain ⟨l1,l2⟩:=jF h
    simp only [Instr.sameBits,Bool.and_eq_true,beq_iff_eq]
    refine ⟨by omega,?_⟩
    have key:∀ {ks:List SK} {cs ds:List AV} {xs ys:List Value},bK ks cs ds=some true→xs.length=cs.length→ys.length=ds.length →
      (∀ (i:Nat) (a:AV) (v:Value),cs[i]? = some a→xs[i]? = some v→RelV G w a v)→(∀ (i:Nat) (a:AV) (v:Value),ds[i]? = some a→ys[i]? = some v→RelV G w a v) →
      ((ys.zip xs).all fun (x,y)=>Instr.sameBits n x y)=true:=by
     intro ks
     induction ks with
     |nil =>
      intro cs ds xs ys he hx hy _ _
      cases cs<;>cases ds<;>simp [bK] at he
      have:ys=[]:=List.eq_nil_of_length_eq_zero hy
      subst this
      simp
     |cons s ks ih =>
      intro cs ds xs ys he hx hy r1 r2
      match cs,ds,xs,ys,hx,hy with
      |c::cs,d::ds,x::xs,y::ys,hx,hy =>
       simp only [bK] at he
       cases hc:g9 s c d with
       |none=>simp [hc] at he
       |some p =>
        cases hq:bK ks cs ds with
        |none=>simp [hc,hq] at he
        |some q =>
         simp only [hc,hq,Option.some.injEq,Bool.and_eq_true] at he
         obtain ⟨rfl,rfl⟩:=he
         have h0:=one n (r1 0 c x rfl rfl) (r2 0 d y rfl rfl) hc
         have ht:=ih hq (by simpa using hx) (by simpa using hy) (fun i a v e1 e2=>r1 (i+1) a v (by simpa using e1) (by simpa using e2)) (fun i a v e1 e2=>r2 (i+1) a v (by simpa using e1) (by simpa using e2))
         simp only [List.zip_cons_cons,List.all_cons,Bool.and_eq_true]
         exact ⟨h0,ht⟩
      |[],d::ds,_,_,_,_=>simp [bK] at he
      |[],[],_,_,_,_=>simp [bK] at he
      |c::cs,[],_,_,_,_=>simp [bK] at he
    exact key h (by simpa using sx) (by simpa using sy) (fun i a v e1 e2=>rx i a v e1 (by simpa using e2)) (fun i a v e1 e2=>ry i a v e1 (by simpa using e2))
theorem GQ {t key elem:TypeId} {sh:EqTy} {k x:AV} {id:Nat} {es es':List (AV×AV)} {mv kv xv:Value} (hu:P.underlying t=some (.map key elem)) (ht:eqT P key=some sh)
  (hS:RelS P hh G w σ) (hm:RelV G w (.map id) mv) (hk:RelV G w k kv) (hx:RelV G w x xv) (hc:(jV sh k k).isSome=true) (hσ:σ[id]? = some (.map es)) (h:mF sh k x es=some es') :
  ∃ w',(Instr.mapUpdate t mv kv xv).run P w = .ok () w'∧RelS P hh G w' (σ.set id (.map es'))∧Evo G w G w':=by
 cases hm with
 |map hl =>
  rename_i b
  obtain ⟨ents,hb,hlen,hborn,hrel⟩:=hS.blk _ _ _ hl hσ
  have hE:mM G w es ents.toList:=⟨by simpa using hlen,fun i p e h1 h2=>hrel i p e h1 (by simpa using h2)⟩
  have hck:∀ em,(Instr.checkKey em 10000 key kv).run P w = .ok () w:=fun em=>sG em ht hk hc
  have hbl:b<w.heap.size:=(Array.getElem?_eq_some_iff.1 hb).1
  rcases FV h with ⟨h1,rfl⟩|⟨i,k',v',h1,h2,rfl,h4⟩
  ·have hf:=mY (P:=P) ht hk hE h1
   simp only [Option.bind_none] at hf
   refine ⟨{ w with heap:=w.heap.setIfInBounds b (.map (ents.push { key:=kv,val:=xv,born:=es.length }) (es.length+1)) },by simp [Instr.mapUpdate,run_underlying hu,jK hb,hck,hf,BS _ hb],?_⟩
   have hp:=kV w b (.map (ents.push { key:=kv,val:=xv,born:=es.length }) (es.length+1))
   refine hS.write hl hp hσ (fun _ _ _ e=>by cases e) ⟨ents.push { key:=kv,val:=xv,born:=es.length },?_,by simp [hlen],fun i e he=>?_,fun i p e h1 h2=>?_⟩
   ·simp [Array.getElem?_setIfInBounds_self,hbl]
   ·rw [Array.getElem?_push] at he
    split at he
    ·rename_i hi;cases he;simp;omega
    ·exact hborn i e he
   ·have hev:=oE hp (hS.fresh _ _ hl).2.2.1
    rw [Array.getElem?_push] at h2
    by_cases hi:i=es.length
    ·subst hi
     rw [if_pos hlen.symm] at h2
     cases h2
     rw [List.getElem?_append_right (Nat.le_refl _)] at h1
     simp at h1
     subst h1
     exact ⟨hk.mono hev,hx.mono hev⟩
    ·rw [if_neg (by omega)] at h2
     have hi2:i<es.length:=by have:=(Array.getElem?_eq_some_iff.1 h2).1;omega
     rw [List.getElem?_append_left hi2] at h1
     obtain ⟨q1,q2⟩:=hrel i p e h1 h2
     exact ⟨q1.mono hev,q2.mono hev⟩
  ·have hf:=mY (P:=P) ht hk hE h1
   have hi:i<ents.size:=by have:=(List.getElem?_eq_some_iff.1 h2).1;omega
   have he:ents.toList[i]? = some ents[i]:=by simp [hi]
   simp only [Option.bind_some,he,Option.map_some] at hf
   have hsb:Instr.sameBits 10000 ents[i].key kv=true:=HY hk (hE.2 i _ _ h2 he).1 h4 9999
   have hks:(Instr.keyThatStays ents[i].key kv).run P w = .ok kv w:=by simp [Instr.keyThatStays,hsb]
   refine ⟨{ w with heap:=w.heap.setIfInBounds b (.map (ents.modify i fun e=>{ e with key:=kv,val:=xv }) es.length) },by simp [Instr.mapUpdate,run_underlying hu,jK hb,hck,hf,Array.getElem?_eq_getElem hi,hks,BS _ hb],?_⟩
   have hp:=kV w b (.map (ents.modify i fun e=>{ e with key:=kv,val:=xv }) es.length)
   have hev:=oE hp (hS.fresh _ _ hl).2.2.1
   refine hS.write hl hp hσ (fun _ _ _ e=>by cases e) ⟨ents.modify i fun e=>{ e with key:=kv,val:=xv },?_,by simp [hlen],fun j e he'=>?_,fun j p e h1 h2'=>?_⟩
   ·simp [Array.getElem?_setIfInBounds_self,hbl]
   ·rw [Array.getElem?_modify] at he'
    split at he'
    ·cases hj:ents[j]? with
     |none=>simp [hj] at he'
     |some e0 =>
      simp only [hj,Option.map_some,Option.some.injEq] at he'
      subst he'
      exact hborn j e0 hj
    ·exact hborn j e he'
   ·by_cases hij:i=j
    ·subst hij
     rw [List.getElem?_set_self (List.getElem?_eq_some_iff.1 h2).1] at h1
     cases h1
     rw [Array.getElem?_modify,if_pos rfl] at h2'
     simp only [Array.getElem?_eq_getElem hi,Option.map_some,Option.some.injEq] at h2'
     subst h2'
     exact ⟨hk.mono hev,hx.mono hev⟩
    ·rw [List.getElem?_set_ne hij] at h1
     rw [Array.getElem?_modify,if_neg hij] at h2'
     obtain ⟨q1,q2⟩:=hrel j p e h1 h2'
     exact ⟨q1.mono hev,q2.mono hev⟩
end Go.Am
set_option linter.constructorNameAsVariable false
namespace Go.Am
variable {P:Program} {hh:String→Bool} {G:Gh} {w:World} {σ σ':St} {env:Env} {n:Nat} {a:Act} {v:AV}
theorem mE {x:Option Operand} {y:Option AOpd} (h:jH x=some y) (hE:eT G w n env a.tmps) :
  (x=none∧y=none)∨∃ o p,x=some o∧y=some p∧RelV G w (p.ev env) (a.eval o):=by
 cases x with
 |none=>simp [jH] at h;exact .inl ⟨rfl,h.symm⟩
 |some o =>
  simp only [jH] at h
  split at h
  ·rename_i p hp;cases h;exact .inr ⟨o,p,rfl,rfl,cI hp hE⟩
  ·cases h
theorem uK {x:AV} {u:Value} {i:Int} (hx:RelV G w x u) (h:fP x=some i):∃ k,u = .int k i:=by
 cases x<;>simp only [fP] at h<;>first|(cases h;done)|skip
 cases h
 cases hx
 exact ⟨_,rfl⟩
theorem PX {op:BinOp} {t:TypeId} {xo yo:Operand} {x y:AV} {u u':Value} (hx:RelV G w x u) (hy:RelV G w y u') (h:d7 op x y=some v) :
  ∃ q,((do eqGuard op t xo yo u u';binOp op t u u':Sem Value)).run P w = .ok q w∧RelV G w v q:=by
 cases x<;>simp only [d7] at h<;>first|(cases h;done)|skip
 cases y<;>simp only at h<;>first|(cases h;done)|skip
 rename_i k p k' q
 cases hx
 cases hy
 cases op<;>simp only [j5] at h
 case shl =>
  split at h
  ·cases h
  ·rename_i hq
   cases h
   exact ⟨_,by simp [eqGuard,binOp,Op.shift,hq],.int _ _⟩
 case shr =>
  split at h
  ·cases h
  ·rename_i hq
   cases h
   exact ⟨_,by simp [eqGuard,binOp,Op.shift,hq],.int _ _⟩
 all_goals
  split at h
  case isFalse=>cases h
  rename_i hk
  subst hk
 case int.int.int.int.add.isTrue=>cases h;exact ⟨_,by simp [eqGuard,binOp,Op.intArith],.int _ _⟩
 case int.int.int.int.sub.isTrue=>cases h;exact ⟨_,by simp [eqGuard,binOp,Op.intArith],.int _ _⟩
 case int.int.int.int.mul.isTrue=>cases h;exact ⟨_,by simp [eqGuard,binOp,Op.intArith],.int _ _⟩
 case int.int.int.int.quo.isTrue =>
  split at h
  ·cases h
  ·rename_i hz;cases h;exact ⟨_,by simp [eqGuard,binOp,Op.intDiv,hz],.int _ _⟩
 case int.int.int.int.rem.isTrue =>
  split at h
  ·cases h
  ·rename_i hz;cases h;exact ⟨_,by simp [eqGuard,binOp,Op.intDiv,hz],.int _ _⟩
 case int.int.int.int.and.isTrue=>cases h;exact ⟨_,by simp [eqGuard,binOp,Op.intBits,bits],.int _ _⟩
 case int.int.int.int.or.isTrue=>cases h;exact ⟨_,by simp [eqGuard,binOp,Op.intBits,bits],.int _ _⟩
 case int.int.int.int.xor.isTrue=>cases h;exact ⟨_,by simp [eqGuard,binOp,Op.intBits,bits],.int _ _⟩
 case int.int.int.int.andNot.isTrue=>cases h;exact ⟨_,by simp [eqGuard,binOp,Op.intBits,bits],.int _ _⟩
 case int.int.int.int.lss.isTrue=>cases h;exact ⟨_,by simp [eqGuard,binOp,Op.intCmp],.bool _⟩
 case int.int.int.int.leq.isTrue=>cases h;exact ⟨_,by simp [eqGuard,binOp,Op.intCmp],.bool _⟩
 case int.int.int.int.gtr.isTrue=>cases h;exact ⟨_,by simp [eqGuard,binOp,Op.intCmp],.bool _⟩
 case int.int.int.int.geq.isTrue=>cases h;exact ⟨_,by simp [eqGuard,binOp,Op.intCmp],.bool _⟩
 all_goals cases h
theorem lH {t:TypeId} {n:Nat} (h:fG P t=some n):∀ w,(sizeOf t).run P w = .ok n w:=fun w=>(eX h w).1
theorem AC {s:TypeId} {f:Nat} {fd:Field} (h:wH P s f=some fd):∃ fs,P.underlying s=some (.struct fs)∧fs[f]? = some fd∧∃ k,fG P fd.type=some k:=by
 unfold wH at h
 split at h
 ·rename_i fs hu
  split at h
  ·rename_i g hg
   split at h
   ·rename_i k hk;cases h;exact ⟨fs,hu,hg,k,hk⟩
   ·cases h
  ·cases h
 ·cases h
theorem zW {s:TypeId} {f:Nat} {fd:Field} (h:wH P s f=some fd) (b o:Nat) :
  (Instr.fieldAt s (.pointer (some ⟨b,o,none⟩)) f).run P w = .ok (.pointer (some ⟨b,o+fd.offset,none⟩)) w:=by
 obtain ⟨fs,h1,h2,k,h3⟩:=AC h
 obtain ⟨h4,h5,_⟩:=eX h3 w
 have h6:¬k=0:=by omega
 simp [Instr.fieldAt,run_underlying h1,h2,Instr.sureAddr,fieldPlace,h4,h6,jY]
theorem JY {s:TypeId} {f:Nat} {fd:Field} {x:AV} {u:Value} (h:wH P s f=some fd)
  (ha:(match x with|.ptr id o=>some (AV.ptr id (o+fd.offset),σ)|.lptr xs i o t=>some (.lptr xs i (o+fd.offset) t,σ)|_=>none)=some (v,σ')) (hx:RelV G w x u) :
  σ'=σ∧∃ q,(Instr.fieldAt s u f).run P w = .ok q w∧RelV G w v q:=by
 cases x<;>simp only at ha<;>first|(cases ha;done)|skip
 case ptr id o =>
  cases ha
  cases hx with
  |ptr hl=>exact ⟨rfl,_,zW h _ _,.ptr hl⟩
 case lptr xs i o t =>
  cases ha
  cases hx with
  |lptr h1 h2 h3 h4 =>
   refine ⟨rfl,_,zW h _ _,?_⟩
   rw [Nat.add_assoc]
   exact .lptr h1 h2 h3 h4
theorem IT {s:TypeId} {f:Nat} {fd:Field} {sh:Option Nat} {cs:List AV} {u:Value} (h:wH P s f=some fd) (hs:oZ P fd.type=some sh) (hx:RelV G w (.agg cs) u) (ha:gC sh cs fd.offset=some v) :
  ∃ q,(Instr.field s u f).run P w = .ok q w∧RelV G w v q:=by
 obtain ⟨fs,h1,h2,k,h3⟩:=AC h
 cases hx with
 |agg hl hr =>
  rename_i vs
  have hp:∃ q,(part fd.type vs fd.offset).run P w = .ok q w∧RelV G w v q:=by
   rcases rU hs with ⟨rfl,q1,q2⟩|⟨m,rfl,q1,q2⟩
   ·simp only [gC] at ha
    have hi:fd.offset<vs.size:=by have:=(List.getElem?_eq_some_iff.1 ha).1;omega
    exact ⟨vs[fd.offset],by simp [part,kT q1,Array.getElem?_eq_getElem hi],hr _ _ _ ha (Array.getElem?_eq_getElem hi)⟩
   ·simp only [gC] at ha
    split at ha
    ·cases ha
     refine ⟨.agg (vs.extract fd.offset (fd.offset+m)),by simp [part,kT q1,lH q2],.agg (by simp;omega) fun i x y e1 e2=>?_⟩
     rw [List.getElem?_take] at e1
     split at e1
     ·rw [List.getElem?_drop] at e1
      rw [Array.getElem?_extract] at e2
      split at e2
      ·exact hr _ x y e1 e2
      ·cases e2
     ·cases e1
    ·cases ha
  obtain ⟨q,e1,e2⟩:=hp
  exact ⟨q,by simp [Instr.field,run_underlying h1,h2,asAgg,e1],e2⟩
theorem JF {t e:TypeId} {m sz:Nat} {sh:Option Nat} {cs:List AV} {k:IntKind} {j:Int} {u:Value} (hu:P.underlying t=some (.array m e)) (hz:fG P e=some sz) (hs:oZ P e=some sh)
  (hx:RelV G w (.agg cs) u) (hj:0≤j∧j<m) (ha:gC sh cs (j.toNat*sz)=some v):∃ q,(Instr.index t u (.int k j)).run P w = .ok q w∧RelV G w v q:=by
 cases hx with
 |agg hl hr =>
  rename_i vs
  have hp:∃ q,(part e vs (j.toNat*sz)).run P w = .ok q w∧RelV G w v q:=by
   rcases rU hs with ⟨rfl,q1,q2⟩|⟨m,rfl,q1,q2⟩
   ·simp only [gC] at ha
    have hi:j.toNat*sz<vs.size:=by have:=(List.getElem?_eq_some_iff.1 ha).1;omega
    exact ⟨vs[j.toNat*sz],by simp [part,kT q1,Array.getElem?_eq_getElem hi],hr _ _ _ ha (Array.getElem?_eq_getElem hi)⟩
   ·simp only [gC] at ha
    split at ha
    ·cases ha
     refine ⟨.agg (vs.extract (j.toNat*sz) (j.toNat*sz+m)),by simp [part,kT q1,lH q2],.agg (by simp;omega) fun i x y e1 e2=>?_⟩
     rw [List.getElem?_take] at e1
     split at e1
     ·rw [List.getElem?_drop] at e1
      rw [Array.getElem?_extract] at e2
      split at e2
      ·exact hr _ x y e1 e2
      ·cases e2
     ·cases e1
    ·cases ha
  obtain ⟨q,e1,e2⟩:=hp
  exact ⟨q,by simp [Instr.index,run_underlying hu,asIntOf,hj,lH hz,e1],e2⟩
theorem AD {t e:TypeId} {sz:Nat} {arr:Option Nat} {x i:AV} {u iv:Value} (hu:(∃ m,P.underlying t=some (.array m e)∧arr=some m)∨(P.underlying t=some (.slice e)∧arr=none)) (hz:fG P e=some sz)
  (ha:(match (generalizing:=false) fP i,arr,x with
  |some j,some n,.ptr id off=>if 0≤j∧j<n then some (AV.ptr id (off+j.toNat*sz),σ) else none
  |some j,some n,.lptr xs q off t=>if 0≤j∧j<n then some (.lptr xs q (off+j.toNat*sz) t,σ) else none
  |some j,none,.lit xs _ t =>
   match xs[j.toNat]? with
   |some y=>if 0≤j∧y.cells.length=sz then some (.lptr xs j.toNat 0 t,σ) else none
   |none=>none
  |some j,none,.ref id off len sz'=>if 0≤j∧j<len∧sz'=sz then some (.ptr id (off+j.toNat*sz),σ) else none
  |_,_,_=>none)=some (v,σ')) (hx:RelV G w x u) (hi:RelV G w i iv) :
  σ'=σ∧∃ q,(Instr.indexAt t u iv).run P w = .ok q w∧RelV G w v q:=by
 cases hj:fP i with
 |none=>simp [hj] at ha
 |some j =>
  obtain ⟨k,rfl⟩:=uK hi hj
  have hso:=lH hz w
  rcases hu with ⟨m,hu,rfl⟩|⟨hu,rfl⟩
  ·cases x<;>simp only [hj] at ha<;>first|(cases ha;done)|skip
   case ptr id off =>
    split at ha
    ·rename_i hc
     cases ha
     cases hx with
     |ptr hl=>exact ⟨rfl,_,by simp [Instr.indexAt,asIntOf,run_underlying hu,Instr.sureAddr,hc,hso,jY],.ptr hl⟩
    ·cases ha
   case lptr xs q off tk =>
    split at ha
    ·rename_i hc
     cases ha
     cases hx with
     |lptr h1 h2 h3 h4 =>
      refine ⟨rfl,_,by simp [Instr.indexAt,asIntOf,run_underlying hu,Instr.sureAddr,hc,hso,jY];rfl,?_⟩
      rw [Nat.add_assoc]
      exact .lptr h1 h2 h3 h4
    ·cases ha
  ·cases x<;>simp only [hj] at ha<;>first|(cases ha;done)|skip
   case lit xs full tk =>
    split at ha
    ·rename_i y hy
     split at ha
     ·rename_i hc
      obtain ⟨c1,c2⟩:=hc
      cases ha
      cases hx with
      |nil ht hb=>simp at hy
      |lit ht hl hcc =>
       rename_i b o sz' cap
       have hsz:sz'=sz:=by rw [←hl.size _ _ hy];exact c2
       subst hsz
       have hlt:j.toNat<xs.length:=(List.getElem?_eq_some_iff.1 hy).1
       have c3:j<xs.length:=by omega
       refine ⟨rfl,.pointer (some ⟨b,o+j.toNat*sz'+0,none⟩),by simp [Instr.indexAt,asIntOf,run_underlying hu,c1,c3,hso,jY],.lptr (fun t e=>?_) hlt hl hcc⟩
       obtain ⟨p1,p2,p3,p4,_⟩:=ht.2.2 t e
       exact ⟨_,p4⟩
     ·cases ha
    ·cases ha
   case ref id off len sz' =>
    split at ha
    ·rename_i hc
     obtain ⟨c1,c2,rfl⟩:=hc
     cases ha
     cases hx with
     |ref hl hb hcap hn =>
      have:=hb (by omega)
      subst this
      exact ⟨rfl,_,by simp [Instr.indexAt,asIntOf,run_underlying hu,c1,c2,hso,jY],.ptr hl⟩
    ·cases ha
end Go.Am
set_option linter.constructorNameAsVariable false
namespace Go.Am
variable {P:Program} {hh:String→Bool} {G:Gh} {w:World} {σ σ':St} {env:Env} {n:Nat} {a:Act} {v:AV}
theorem n7 {x:AOpd} {o:Operand} {i:Int} {y:Nat} {code:BoundsCode} (hx:RelV G w (x.ev env) (a.eval o)) (h:fP (x.ev env)=some i) (hi:0≤i∧i≤y) :
  (Instr.sliceBound (a.eval o) y code).run P w = .ok i.toNat w:=by
 obtain ⟨k,e⟩:=uK hx h
 simp [Instr.sliceBound,e,asIntOf,hi]
theorem N9 {lo hi:Option Operand} {lo' hi':Option AOpd} (s:Bool) {len cap:Nat} {l h:Int} (hE:eT G w n env a.tmps) (h1:jH lo=some lo') (h2:jH hi=some hi')
  (b1:bV env 0 lo'=some l) (b2:bV env len hi'=some h) (hl:0≤l∧l≤h∧h≤cap) :
  (Instr.sliceBounds s len cap (lo.map a.eval) (hi.map a.eval) none).run P w = .ok (l.toNat,h.toNat,cap) w:=by
 rcases mE h2 hE with ⟨rfl,rfl⟩|⟨o2,p2,rfl,rfl,r2⟩
 ·simp [bV] at b2
  subst b2
  rcases mE h1 hE with ⟨rfl,rfl⟩|⟨o1,p1,rfl,rfl,r1⟩
  ·simp [bV] at b1
   subst b1
   simp [Instr.sliceBounds]
  ·simp only [bV] at b1
   simp [Instr.sliceBounds,n7 (P:=P) r1 b1 ⟨hl.1,hl.2.1⟩]
 ·simp only [bV] at b2
  have e2:=n7 (P:=P) (y:=cap) (code:=if s then .sliceAcap else .sliceAlen) r2 b2 ⟨by omega,hl.2.2⟩
  rcases mE h1 hE with ⟨rfl,rfl⟩|⟨o1,p1,rfl,rfl,r1⟩
  ·simp [bV] at b1
   subst b1
   simp [Instr.sliceBounds,e2]
  ·simp only [bV] at b1
   have e1:=n7 (P:=P) (y:=h.toNat) (code:=.sliceB) r1 b1 ⟨hl.1,by omega⟩
   simp [Instr.sliceBounds,e2,e1]
theorem WE {lo hi mx:Option Operand} {lo' hi' mx':Option AOpd} {p3:AOpd} {len cap:Nat} {l h:Int} (hE:eT G w n env a.tmps) (h1:jH lo=some lo') (h2:jH hi=some hi') (h3:jH mx=some (some p3))
  (b1:bV env 0 lo'=some l) (b2:bV env len hi'=some h) (hs:hi'.isSome=true) (b3:fP (p3.ev env)=some h) (hl:0≤l∧l≤h∧h≤cap) :
  (Instr.sliceBounds true len cap (lo.map a.eval) (hi.map a.eval) (mx.map a.eval)).run P w = .ok (l.toNat,h.toNat,h.toNat) w:=by
 rcases mE h3 hE with ⟨rfl,e⟩|⟨o3,q3,rfl,e,r3⟩
 ·cases e
 cases e
 have e3:=n7 (P:=P) (y:=cap) (code:=.slice3Acap) r3 b3 ⟨by omega,hl.2.2⟩
 rcases mE h2 hE with ⟨rfl,rfl⟩|⟨o2,p2,rfl,rfl,r2⟩
 ·simp at hs
 simp only [bV] at b2
 have e2:=n7 (P:=P) (y:=h.toNat) (code:=.slice3B) r2 b2 ⟨by omega,by omega⟩
 rcases mE h1 hE with ⟨rfl,rfl⟩|⟨o1,p1,rfl,rfl,r1⟩
 ·simp [bV] at b1
  subst b1
  simp [Instr.sliceBounds,e2,e3]
 ·simp only [bV] at b1
  have e1:=n7 (P:=P) (y:=h.toNat) (code:=.slice3C) r1 b1 ⟨hl.1,by omega⟩
  simp [Instr.sliceBounds,e1,e2,e3]
theorem OA {sz:Nat} {x:AV} {l h:Int} {full:Bool} {base:Option Addr} {len cap m:Nat} (hx:RelV G w x (.slice base len cap)) (h0:0<sz) (hm:if full then m=h.toNat else m=cap) (hs:mL sz x l h full=some v) :
  0≤l∧l≤h∧h≤len∧RelV G w v (.slice (if m=l.toNat then base else base.map (·.add (l.toNat*sz))) (h.toNat-l.toNat) (m-l.toNat)):=by
 cases x<;>simp only [mL] at hs<;>first|(cases hs;done)|skip
 case lit xs fl tk =>
  obtain ⟨base',cap',e,htk,hbn⟩:=kX hx
  cases e
  split at hs
  ·rename_i hc
   obtain ⟨c1,c2,c3,c4⟩:=hc
   cases hs
   refine ⟨c1,c2,c3,?_⟩
   have hlen:((xs.drop l.toNat).take (h.toNat-l.toNat)).length=h.toNat-l.toNat:=by simp;omega
   have hmh:h.toNat≤m∧m≤cap:=by
    have:=htk.1
    cases full
    ·simp at hm;omega
    ·simp at hm;omega
   have htk':nB G (full||(fl&&decide (h=xs.length))) tk (h.toNat-l.toNat) (if m=l.toNat then base else base.map (·.add (l.toNat*sz))) (m-l.toNat):=by
    obtain ⟨t1,t2,t3⟩:=htk
    refine ⟨by omega,fun hf=>?_,fun t ht=>?_⟩
    ·cases full
     ·simp at hf hm
      have:=t2 hf.1
      omega
     ·simp at hm;omega
    ·obtain ⟨b,mm,c,q1,q2,q3⟩:=t3 t ht
     refine ⟨b,mm,c,q1,by omega,fun hf hmm=>?_⟩
     have hl0:l.toNat=0:=by omega
     have hh:h=xs.length:=by omega
     cases full
     ·simp [hh] at hf hm
      obtain ⟨r1,r2⟩:=q3 hf (by omega)
      rw [hl0]
      subst hm
      refine ⟨?_,by omega⟩
      rw [r1,Nat.zero_mul]
      cases base<;>simp [Addr.add]
     ·simp at hf
   by_cases he:h.toNat-l.toNat=0
   ·have hnil:(xs.drop l.toNat).take (h.toNat-l.toNat)=[]:=List.eq_nil_of_length_eq_zero (by rw [hlen];exact he)
    rw [hnil]
    rw [he] at htk' ⊢
    refine .nil htk' fun hb=>?_
    have:base=none:=by
     cases base with
     |none=>rfl
     |some a=>split at hb<;>simp at hb
    have:=hbn this
    omega
   ·have hlh:l<h:=by omega
    cases hx with
    |nil ht hb=>simp at c3;omega
    |lit ht hl hc =>
     rename_i b o sz'
     have hlt:l.toNat<xs.length:=by omega
     have hsz:sz'=sz:=by
      simp only [uH,Bool.or_eq_true,decide_eq_true_eq] at c4
      rcases c4 with c4|c4
      ·omega
      ·rw [List.getElem?_eq_getElem hlt] at c4
       simp only [beq_iff_eq] at c4
       rw [←hl.size _ _ (List.getElem?_eq_getElem hlt)]
       exact c4
     subst hsz
     have hne:¬m=l.toNat:=by omega
     simp only [hne,if_false,Option.map_some,jY] at htk' ⊢
     have get:∀ {i:Nat} {x:AV},((xs.drop l.toNat).take (h.toNat-l.toNat))[i]? = some x→xs[l.toNat+i]? = some x:=by
      intro i x hi
      rw [List.getElem?_take] at hi
      split at hi
      ·rw [List.getElem?_drop] at hi;exact hi
      ·cases hi
     have hmul:l.toNat*sz'+(h.toNat-l.toNat)*sz'≤xs.length*sz':=by rw [←Nat.add_mul];exact Nat.mul_le_mul_right _ (by omega)
     have hres:=RelV.lit (G:=G) (w:=w) (xs:=(xs.drop l.toNat).take (h.toNat-l.toNat)) (full:=full||(fl&&decide (h=xs.length))) (tk:=tk) (b:=b) (o:=o+l.toNat*sz') (sz:=sz') (cap:=m-l.toNat)
      (by rw [hlen];exact htk')
      ⟨by
       obtain ⟨L,e1,e2⟩:=hl.lim
       exact ⟨L,e1,by rw [hlen];omega⟩,hl.own,fun i x hi=>hl.size _ _ (get hi),fun k hk=>by
        rw [hlen] at hk
        rw [Nat.add_assoc]
        exact hl.cells _ (by omega)⟩
      (fun i x j c u e1 e2 e3=>hc (l.toNat+i) x j c u (get e1) e2 (by rw [←e3];congr 2;rw [Nat.add_mul];omega))
     rw [hlen] at hres
     exact hres
  ·cases hs
 case ref id off ln sz' =>
  cases hx with
  |ref hl hb hcap hn =>
   rename_i b
   split at hs
   ·rename_i hc
    obtain ⟨c1,c2,c3,rfl⟩:=hc
    cases hs
    have hmh:h.toNat≤m∧m≤cap:=by
     cases full
     ·simp at hm;omega
     ·simp at hm;omega
    refine ⟨c1,c2,c3,.ref hl (fun hne=>?_) (by omega) (fun e=>?_)⟩
    have:¬m=l.toNat:=by omega
    rw [if_neg this,hb (by omega)]
    simp [jY]
    have hb':base=none:=by
     cases base with
     |none=>rfl
     |some p=>split at e<;>simp at e
    have:=hn hb'
    omega
   ·cases hs
theorem F4 {t e:TypeId} {sz:Nat} {xo:Operand} {x:AOpd} {lo hi mx:Option Operand} {lo' hi' mx':Option AOpd} (hE:eT G w n env a.tmps) (hS:RelS P hh G w σ) (hu:P.underlying t=some (.slice e)) (hz:fG P e=some sz)
  (hx:opd xo=some x) (h1:jH lo=some lo') (h2:jH hi=some hi') (h3:jH mx=some mx') (ha:aop (.slicev sz x lo' hi' mx') env σ=some (v,σ')) :
  σ'=σ∧∃ q,(Instr.sliceAt t (a.eval xo) (lo.map a.eval) (hi.map a.eval) (mx.map a.eval)).run P w = .ok q w∧RelV G w v q:=by
 obtain ⟨hso,h0,_⟩:=eX hz w
 have hr:=cI (x:=xo) hx hE
 simp only [aop] at ha
 cases hl:iY 1 σ (x.ev env) with
 |none=>simp [hl] at ha
 |some len =>
  simp only [hl] at ha
  have slice_of:∀ {l h:Int} {full:Bool} {r:AV},mL sz (x.ev env) l h full=some r→∃ base cap,a.eval xo = .slice base len cap∧len≤cap:=by
   intro l h full r hs
   cases hxe:x.ev env<;>simp only [hxe,mL] at hs<;>first|(cases hs;done)|skip
   ·rw [hxe] at hr hl
    simp only [iY,Option.some.injEq] at hl
    obtain ⟨b,c,e,ht,_⟩:=kX hr
    rw [←hl]
    exact ⟨b,c,e,ht.1⟩
   ·rw [hxe] at hr hl
    simp only [iY,Option.some.injEq] at hl
    subst hl
    generalize a.eval xo=u at hr
    cases hr with
    |ref q1 q2 q3=>exact ⟨_,_,rfl,q3⟩
  cases b1:bV env 0 lo' with
  |none=>simp [b1] at ha
  |some l =>
   cases b2:bV env len hi' with
   |none=>simp [b1,b2] at ha
   |some h =>
    cases mx' with
    |none =>
     simp only [b1,b2,Option.map_none] at ha
     split at ha
     ·rename_i r hs
      cases ha
      obtain ⟨base,cap,e,hle⟩:=slice_of hs
      rw [e] at hr
      obtain ⟨c1,c2,c3,c4⟩:=OA (m:=cap) hr h0 (by simp) hs
      have hmx:mx=none:=by
       rcases mE h3 hE with ⟨rfl,_⟩|⟨_,_,_,e,_⟩
       ·rfl
       ·cases e
      subst hmx
      have hb:=N9 (P:=P) true (cap:=cap) hE h1 h2 b1 b2 ⟨c1,c2,by omega⟩
      refine ⟨rfl,_,?_,c4⟩
      simp only [Instr.sliceAt,Sem.run_bind,run_underlying hu,Result.andThen_ok,Instr.slice,e,Option.map_none,hb,hso,Sem.run_pure]
     ·cases ha
    |some m' =>
     cases b3:fP (m'.ev env) with
     |none=>simp [b1,b2,b3] at ha
     |some mm =>
      simp only [b1,b2,b3,Option.map_some] at ha
      split at ha
      ·rename_i hq
       obtain ⟨rfl,hhi⟩:=hq
       split at ha
       ·rename_i r hs
        cases ha
        obtain ⟨base,cap,e,hle⟩:=slice_of hs
        rw [e] at hr
        obtain ⟨c1,c2,c3,c4⟩:=OA (m:=mm.toNat) hr h0 (by simp) hs
        have hb:=WE (P:=P) (mx':=some m') (cap:=cap) hE h1 h2 h3 b1 b2 hhi b3 ⟨c1,c2,by omega⟩
        refine ⟨rfl,_,?_,c4⟩
        simp only [Instr.sliceAt,Sem.run_bind,run_underlying hu,Result.andThen_ok,Instr.slice,e,hb,hso,Sem.run_pure]
       ·cases ha
      ·cases ha
theorem HA {t e:TypeId} {m sz:Nat} {xo:Operand} {x:AOpd} {lo hi:Option Operand} {lo' hi':Option AOpd} (hE:eT G w n env a.tmps) (hu:P.underlying t=some (.array m e)) (hz:fG P e=some sz)
  (hx:opd xo=some x) (h1:jH lo=some lo') (h2:jH hi=some hi') (ha:aop (.slicea m sz x lo' hi') env σ=some (v,σ')) :
  σ'=σ∧∃ q,(Instr.sliceAt t (a.eval xo) (lo.map a.eval) (hi.map a.eval) none).run P w = .ok q w∧RelV G w v q:=by
 obtain ⟨hso,h0,_⟩:=eX hz w
 have hr:=cI (x:=xo) hx hE
 simp only [aop] at ha
 cases hxe:x.ev env<;>simp only [hxe] at ha<;>first|(cases ha;done)|skip
 rename_i id off
 rw [hxe] at hr
 cases b1:bV env 0 lo' with
 |none=>simp [b1] at ha
 |some l =>
  cases b2:bV env m hi' with
  |none=>simp [b1,b2] at ha
  |some h =>
   simp only [b1,b2] at ha
   split at ha
   ·rename_i hc
    cases ha
    generalize hq:a.eval xo=u at hr
    cases hr with
    |ptr hl =>
     rename_i b
     have hb:=N9 (P:=P) false (cap:=m) hE h1 h2 b1 b2 hc
     refine ⟨rfl,.slice (some (if m=l.toNat then ⟨b,off,none⟩ else ⟨b,off+l.toNat*sz,none⟩)) (h.toNat-l.toNat) (m-l.toNat),?_,.ref hl (fun hne=>?_) (by omega) (fun e=>by cases e)⟩
     ·simp only [Instr.sliceAt,Sem.run_bind,run_underlying hu,Result.andThen_ok,hq,Instr.sureAddr,Sem.run_pure,hb,hso,jY]
     ·rw [if_neg (by omega)]
   ·cases ha
end Go.Am
set_option linter.constructorNameAsVariable false
namespace Go.Am
variable {P:Program} {hh:String→Bool} {G:Gh} {w:World} {σ σ':St} {env:Env} {n:Nat} {a:Act} {v:AV}
theorem O6 {t ty:TypeId} {x:AV} {u:Value} {k j:Nat} (hS:RelS P hh G w σ) (hx:RelV G w x u) (h:iY j σ x=some k)
  (ht:(j=0∧P.underlying t=some .string)∨(j=1∧∃ e,P.underlying t=some (.slice e))∨(j=2∧∃ e f,P.underlying t=some (.map e f))) :
  (Builtin.len_ #[t] ty #[u]).run P w = .ok (.int .i64 k) w:=by
 rcases ht with ⟨rfl,ht⟩|⟨rfl,e,ht⟩|⟨rfl,e,f,ht⟩
 ·cases x<;>simp only [iY] at h<;>first|(cases h;done)|skip
  cases h
  cases hx
  simp [Builtin.len_,run_underlying ht,goInt]
 ·cases x<;>simp only [iY] at h<;>first|(cases h;done)|skip
  ·cases h
   obtain ⟨b,c,rfl,_⟩:=kX hx
   simp [Builtin.len_,run_underlying ht,goInt]
  ·cases h
   cases hx
   simp [Builtin.len_,run_underlying ht,goInt]
 ·cases x<;>simp only [iY] at h<;>first|(cases h;done)|skip
  ·rename_i id
   split at h
   ·rename_i es hσ
    cases h
    cases hx with
    |map hl =>
     obtain ⟨ents,hb,hlen,_⟩:=hS.blk _ _ _ hl hσ
     simp [Builtin.len_,run_underlying ht,jK hb,goInt,hlen]
   ·cases h
  ·cases h
   cases hx
   simp [Builtin.len_,run_underlying ht,goInt]
theorem xI (z:List AV) (hz:0<z.length):∀ (n p:Nat),p<n*z.length→(List.replicate n z).flatten[p]? = z[p%z.length]?
 |0,p,h=>by simp at h
 |n+1,p,h=>by
  rw [List.replicate_succ,List.flatten_cons]
  by_cases hp:p<z.length
  ·rw [List.getElem?_append_left hp,Nat.mod_eq_of_lt hp]
  ·have h':p-z.length<n*z.length:=by rw [Nat.add_mul] at h;omega
   rw [List.getElem?_append_right (by omega),xI z hz n (p-z.length) h']
   have:p%z.length=(p-z.length)%z.length:=Nat.mod_eq_sub_mod (by omega)
   rw [this]
theorem sS (z:List AV) (n:Nat):(List.replicate n z).flatten.length=n*z.length:=by
 induction n with
 |zero=>simp
 |succ n ih=>rw [List.replicate_succ,List.flatten_cons,List.length_append,ih,Nat.add_mul];omega
theorem D4 {t e:TypeId} {z:List AV} {i:TypeInfo} {l:Int} {k k':IntKind} (hS:RelS P hh G w σ) (hu:P.underlying t=some (.slice e)) (hz:fV P e=some z) (hi:P.info? e=some i)
  (hl:0≤l∧l*i.bytes≤room∧l≤room) :
  ∃ w' G',(Instr.makeSlice t (.int k l) (.int k' l)).run P w = .ok (.slice (some ⟨w.heap.size,0,none⟩) l.toNat l.toNat) w' ∧
   RelV G' w' (.ref σ.length 0 l.toNat z.length) (.slice (some ⟨w.heap.size,0,none⟩) l.toNat l.toNat)∧RelS P hh G' w' (σ++[.cells (List.replicate l.toNat z).flatten])∧Evo G w G' w':=by
 obtain ⟨j,zv,hj,hzv,hs,h0,hrun,hcs,hcell,hr⟩:=i0 hz
 rw [hi] at hj
 cases hj
 have hroom:room=140737488355328:=by decide
 obtain ⟨l1,l2,l3⟩:=hl
 rw [hroom] at l2 l3
 have hwrap:IntKind.i64.wrap l=l:=by
  have e:(2:Int)^IntKind.i64.bits=18446744073709551616:=by decide
  have e2:(2:Int)^(IntKind.i64.bits-1)=9223372036854775808:=by decide
  simp only [IntKind.wrap,e,e2]
  rw [Int.emod_eq_of_lt l1 (by omega)]
  have:¬(IntKind.i64.signed&&decide (l≥9223372036854775808))=true:=by simp;omega
  rw [if_neg this]
 have hmul:(i.bytes:Int)*l≤140737488355328:=by rw [Int.mul_comm];exact l2
 have ht1:¬((decide (l<0)||decide ((i.bytes:Int)*l > 2^48))||decide (l<0)||decide (l > l))=true:=by
  have:(2:Int)^48=281474976710656:=by decide
  simp [this]
  omega
 have vs:∃ vs:Array Value,vs=(if l.toNat*i.size=0 then (Array.range (l.toNat*i.size)).map ((#[]:Array Value)[·%(#[]:Array Value).size]!) else (Array.range (l.toNat*i.size)).map (zv.cells[·%zv.cells.size]!)):=⟨_,rfl⟩
 obtain ⟨vs,hvs⟩:=vs
 have hrow:(Instr.makeSlice t (.int k l) (.int k' l)).run P w = .ok (.slice (some ⟨w.heap.size,0,none⟩) l.toNat l.toNat) (w.alloc (.cells vs e)):=by
  simp only [Instr.makeSlice,Sem.run_bind,run_underlying hu,Result.andThen_ok,asInt,asIntOf,Sem.run_pure,typeInfo,run_program,hi,hwrap]
  rw [if_neg ht1]
  simp only [Sem.run_bind,run_askRoom,Result.andThen_ok,sizeOf,typeInfo,run_program,hi,Sem.run_pure]
  by_cases hzz:l.toNat*i.size=0
  ·simp only [hzz,if_true,Sem.run_pure,Result.andThen_ok,newRow,Sem.run_bind,run_newObj,World.alloc_eq]
   rw [hvs,if_pos hzz,hzz]
  ·simp only [hzz,if_false,hrun,Result.andThen_ok,Sem.run_bind,Sem.run_pure,newRow,run_newObj,World.alloc_eq]
   rw [hvs,if_neg hzz]
 have hsz:vs.size=l.toNat*i.size:=by rw [hvs];split<;>simp
 obtain ⟨r1,r2⟩:=t9 hS (cs:=(List.replicate l.toNat z).flatten) (vs:=vs) (T:=e) (by rw [sS,hsz,hs];exact Nat.le_refl _) (fun p c u hp hu=>by
  have hp':p<l.toNat*z.length:=by rw [←sS];exact (List.getElem?_eq_some_iff.1 hp).1
  rw [xI z h0 _ _ hp'] at hp
  have hne:¬l.toNat*i.size=0:=by rw [hs];omega
  rw [hvs,if_neg hne] at hu
  refine (hr G w).1 (p%z.length) c u hp ?_
  have hp2:p<l.toNat*i.size:=by rw [hs];exact hp'
  have hm:p%zv.cells.size<zv.cells.size:=Nat.mod_lt _ (by omega)
  simp only [Array.getElem?_map,Array.getElem?_range,hp2,if_true,Option.map_some,Option.some.injEq] at hu
  rw [←hu,←hcs,Array.getElem?_eq_getElem hm]
  simp only [hm,getElem!_pos])
 exact ⟨_,_,hrow,.ref eI (fun _=>rfl) (Nat.le_refl _) (fun e=>by cases e),r1,r2⟩
theorem uZ {x:ABlk} {o:Obj} (hS:RelS P hh G w σ) (hr:∀ G',Evo G w G' (w.alloc o)→g7 P hh G' (w.alloc o) x w.heap.size) :
  RelS P hh (G.withLoc σ.length w.heap.size) (w.alloc o) (σ++[x])∧Evo G w (G.withLoc σ.length w.heap.size) (w.alloc o) :=
 hS.new (hr _ ((kS hS o).trans (m8 (tA hS (Nat.le_refl _)))))
theorem qE {r:Nat} {o:Obj} (hb:w.heap[r]? = some o) (hc:∀ c e f,o≠.cells c e f):(getObj r).run P w = .ok o w:=by
 cases o<;>simp [getObj,Sem.run,hb]<;>exact absurd rfl (hc _ _ _)
theorem yT {r:Nat} {o:Obj} (o':Obj) (hb:w.heap[r]? = some o) (hc:∀ c e f,o≠.cells c e f):(setObj r o').run P w = .ok () { w with heap:=w.heap.setIfInBounds r o' }:=by
 cases o<;>simp [setObj,Sem.run,hb]<;>exact absurd rfl (hc _ _ _)
theorem tC {r:Nat} {o o':Obj} (hb:w.heap[r]? = some o):({ w with heap:=w.heap.setIfInBounds r o' }:World).heap[r]? = some o':=by
 have:=(Array.getElem?_eq_some_iff.1 hb).1
 simp [Array.getElem?_setIfInBounds_self,this]
theorem G4 {t:TypeId} {s:ByteArray} (hS:RelS P hh G w σ) (hu:P.underlying t=some .string) :
  ∃ w' G' q,(Instr.range t (.string s)).run P w = .ok q w'∧RelV G' w' (.ptr σ.length 0) q∧RelS P hh G' w' (σ++[.siter s 0])∧Evo G w G' w':=by
 obtain ⟨r1,r2⟩:=uZ (o:=.stringIter s 0) hS (x:=.siter s 0) fun G' he=>by show (w.alloc (.stringIter s 0)).heap[w.heap.size]? = _;rw [d9,if_pos rfl]
 exact ⟨_,_,_,by simp [Instr.range,run_underlying hu],.ptr eI,r1,r2⟩
theorem GM {t e f:TypeId} {id:Nat} {es:List (AV×AV)} {u:Value} (hS:RelS P hh G w σ) (hu:P.underlying t=some (.map e f)) (hx:RelV G w (.map id) u) (hσ:σ[id]? = some (.map es)) :
  ∃ w' G' q,(Instr.range t u).run P w = .ok q w'∧RelV G' w' (.ptr σ.length 0) q∧RelS P hh G' w' (σ++[.miter id es.length (List.range es.length) none])∧Evo G w G' w':=by
 cases hx with
 |map hl =>
  rename_i b
  obtain ⟨ents,hb,hlen,_⟩:=hS.blk _ _ _ hl hσ
  obtain ⟨r1,r2⟩:=uZ (o:=.mapIter (some b) es.length #[] es.length) hS (x:=.miter id es.length (List.range es.length) none) fun G' he =>
   ⟨b,#[],es.length,he.loc _ _ hl,by rw [d9,if_pos rfl],by rw [List.filter_eq_self.2];intro a _;simp,by simp,by simp⟩
  exact ⟨_,_,_,by simp [Instr.range,run_underlying hu,jK hb],.ptr eI,r1,r2⟩
theorem J6 {ty:TypeId} {id pos:Nat} {s:ByteArray} {u:Value} (hS:RelS P hh G w σ) (hx:RelV G w (.ptr id 0) u) (hσ:σ[id]? = some (.siter s pos)) :
  (pos<s.size→∃ w',(Instr.next u true ty).run P w = .ok (.tuple #[.bool true,.int .i64 pos,.int .i32 (Utf8.decode s pos).1]) w'∧RelS P hh G w' (σ.set id (.siter s (pos+(Utf8.decode s pos).2)))∧Evo G w G w') ∧
  (¬pos<s.size→(Instr.next u true ty).run P w = .ok (.tuple #[.bool false]) w):=by
 cases hx with
 |ptr hl =>
  rename_i b
  have hb:w.heap[b]? = some (.stringIter s pos):=hS.blk _ _ _ hl hσ
  refine ⟨fun hp=>?_,fun hp=>?_⟩
  ·refine ⟨{ w with heap:=w.heap.setIfInBounds b (.stringIter s (pos+(Utf8.decode s pos).2)) },?_,hS.write hl (kV w b _) hσ (fun _ _ _ e=>by cases e) (by simpa [g7] using tC hb)⟩
   simp [Instr.next,qE hb (fun _ _ _ e=>by cases e),hp,yT _ hb (fun _ _ _ e=>by cases e),goInt]
  ·simp [Instr.next,qE hb (fun _ _ _ e=>by cases e),hp]
theorem ID {id m k i:Nat} {left:List Nat} {es:List (AV×AV)} {x y:AV} {u:Value} (hS:RelS P hh G w σ) (hx:RelV G w (.ptr id 0) u) (hσ:σ[id]? = some (.miter m k left (some i))) (he:σ[m]? = some (.map es)) (hk:es.length=k)
  (hi:es[i]? = some (x,y)):∃ q,(Instr.entry u).run P w = .ok q w∧RelV G w (.tuple [x,y]) q:=by
 cases hx with
 |ptr hl =>
  rename_i b
  obtain ⟨bm,seen,stepped,h1,h2,h3,h4,h5⟩:=hS.blk _ _ _ hl hσ
  obtain ⟨ents,hb,hlen,hborn,hrel⟩:=hS.blk _ _ _ h1 he
  have hne:seen.isEmpty=false:=by
   cases hq:seen.isEmpty with
   |false=>rfl
   |true=>simp at hq;subst hq;simp at h4
  have hst:=h5 hne
  have hlt:i<ents.size:=by have:=(List.getElem?_eq_some_iff.1 hi).1;omega
  have hfind:ents.find? (fun e=>e.born==i)=some ents[i]:=by
   rw [Array.find?_eq_some_iff_getElem]
   refine ⟨by simp [hborn i _ (Array.getElem?_eq_getElem hlt)],i,hlt,rfl,fun j hj=>?_⟩
   have:=hborn j _ (Array.getElem?_eq_getElem (show j<ents.size by omega))
   simp [this]
   omega
  obtain ⟨r1,r2⟩:=hrel i _ _ hi (Array.getElem?_eq_getElem hlt)
  refine ⟨.tuple #[ents[i].key,ents[i].val],?_,.tuple rfl fun j a v e1 e2=>?_⟩
  ·subst hk
   subst hst
   simp [Instr.entry,qE h2 (fun _ _ _ e=>by cases e),h4,jK hb,hfind]
  ·match j with
   |0=>simp at e1 e2;subst e1;subst e2;exact r1
   |1=>simp at e1 e2;subst e1;subst e2;exact r2
   |j+2=>simp at e1
theorem vC {k:IntKind}:∀ {xs:List AV} {us:List Value} {r:AV} {p:Int},us.length=xs.length→(∀ (i:Nat) (x:AV) (u:Value),xs[i]? = some x→us[i]? = some u→RelV G w x u)→uV k p xs=some r →
  ∃ q,(us.foldlM Builtin.min2 (.int k p)).run P w = .ok q w∧RelV G w r q
 |[],us,r,p,hl,_,h=>by
  have:us=[]:=List.eq_nil_of_length_eq_zero hl
  subst this
  simp only [uV,Option.some.injEq] at h
  subst h
  exact ⟨_,by simp,.int _ _⟩
 |x::xs,[],r,p,hl,_,h=>by simp at hl
 |x::xs,u::us,r,p,hl,hr,h=>by
  have h0:=hr 0 x u rfl rfl
  cases x<;>simp only [uV] at h<;>first|(cases h;done)|skip
  split at h
  ·rename_i hk
   subst hk
   cases h0
   obtain ⟨z,e1,e2⟩:=vC (us:=us) (by simpa using hl) (fun i a v q1 q2=>hr (i+1) a v (by simpa using q1) (by simpa using q2)) h
   refine ⟨z,?_,e2⟩
   rw [←e1]
   simp [List.foldlM_cons,Builtin.min2]
  ·cases h
theorem OQ {t:TypeId} {args:Array TypeId} {xs:List AV} {us:List Value} {r:AV} (hl:us.length=xs.length) (hr:∀ (i:Nat) (x:AV) (u:Value),xs[i]? = some x→us[i]? = some u→RelV G w x u) (h:zO xs=some r) :
  ∃ q,(Builtin.min_ args t us.toArray).run P w = .ok q w∧RelV G w r q:=by
 cases xs with
 |nil=>simp [zO] at h
 |cons x xs =>
  cases us with
  |nil=>simp at hl
  |cons u us =>
   have h0:=hr 0 x u rfl rfl
   cases x<;>simp only [zO] at h<;>first|(cases h;done)|skip
   cases h0
   obtain ⟨z,e1,e2⟩:=vC (P:=P) (us:=us) (by simpa using hl) (fun i a v q1 q2=>hr (i+1) a v (by simpa using q1) (by simpa using q2)) h
   exact ⟨z,by simpa [Builtin.min_] using e1,e2⟩
theorem vM {k:IntKind}:∀ {xs:List AV} {us:List Value} {r:AV} {p:Int},us.length=xs.length→(∀ (i:Nat) (x:AV) (u:Value),xs[i]? = some x→us[i]? = some u→RelV G w x u)→uU k p xs=some r →
  ∃ q,(us.foldlM Builtin.max2 (.int k p)).run P w = .ok q w∧RelV G w r q
 |[],us,r,p,hl,_,h=>by
  have:us=[]:=List.eq_nil_of_length_eq_zero hl
  subst this
  simp only [uU,Option.some.injEq] at h
  subst h
  exact ⟨_,by simp,.int _ _⟩
 |x::xs,[],r,p,hl,_,h=>by simp at hl
 |x::xs,u::us,r,p,hl,hr,h=>by
  have h0:=hr 0 x u rfl rfl
  cases x<;>simp only [uU] at h<;>first|(cases h;done)|skip
  split at h
  ·rename_i hk
   subst hk
   cases h0
   obtain ⟨z,e1,e2⟩:=vM (us:=us) (by simpa using hl) (fun i a v q1 q2=>hr (i+1) a v (by simpa using q1) (by simpa using q2)) h
   refine ⟨z,?_,e2⟩
   rw [←e1]
   simp [List.foldlM_cons,Builtin.max2]
  ·cases h
theorem PI {t:TypeId} {args:Array TypeId} {xs:List AV} {us:List Value} {r:AV} (hl:us.length=xs.length) (hr:∀ (i:Nat) (x:AV) (u:Value),xs[i]? = some x→us[i]? = some u→RelV G w x u) (h:zR xs=some r) :
  ∃ q,(Builtin.max_ args t us.toArray).run P w = .ok q w∧RelV G w r q:=by
 cases xs with
 |nil=>simp [zR] at h
 |cons x xs =>
  cases us with
  |nil=>simp at hl
  |cons u us =>
   have h0:=hr 0 x u rfl rfl
   cases x<;>simp only [zR] at h<;>first|(cases h;done)|skip
   cases h0
   obtain ⟨z,e1,e2⟩:=vM (P:=P) (us:=us) (by simpa using hl) (fun i a v q1 q2=>hr (i+1) a v (by simpa using q1) (by simpa using q2)) h
   exact ⟨z,by simpa [Builtin.max_] using e1,e2⟩
end Go.Am
set_option linter.constructorNameAsVariable false
namespace Go.Am
variable {P:Program} {hh:String→Bool} {G:Gh} {w:World} {σ σ':St} {env:Env} {n:Nat} {a:Act} {v:AV}
theorem lM {t e:TypeId} {k:Nat} (h:kQ P t=some (e,k)):P.underlying t=some (.slice e)∧fG P e=some k:=by
 unfold kQ at h
 split at h
 ·rename_i e' hu
  split at h
  ·rename_i m hm;cases h;exact ⟨hu,hm⟩
  ·cases h
 ·cases h
theorem b9 {r:Result Next} {u:Value} {w':World} {G':Gh} (hr:r = .ok (.value u) w') (h:RelV G' w' v u) (hS:RelS P hh G' w' σ') (he:Evo G w G' w'):wW P hh G w v σ' r :=
 ⟨_,w',G',hr,.inl ⟨u,rfl,h⟩,hS,he⟩
theorem w8 {xs:List Operand} {ys:List AOpd} (h:C9 xs=some ys) (hE:eT G w n env a.tmps) :
  (xs.map a.eval).length=(ys.map (·.ev env)).length∧∀ (i:Nat) (y:AV) (v:Value),(ys.map (·.ev env))[i]? = some y→(xs.map a.eval)[i]? = some v→RelV G w y v:=by
 obtain ⟨l,r⟩:=NG h hE
 exact ⟨by simpa using l,r⟩
theorem LU {c:Call} {pos:String} {ty:TypeId} {q:AOp} (hc:qR P hh pos c=some q) (hE:eT G w n env a.tmps) (hS:RelS P hh G w σ) (ha:aop q env σ=some (v,σ')) :
  wW P hh G w v σ' ((do let d ← resolve a.eval c ty;invoke d.target d.args:Sem Next).run P w):=by
 obtain ⟨callee,args,ats⟩:=c
 unfold qR at hc
 dsimp only at hc
 cases callee with
 |value f =>
  cases ho:C9 args.toList with
  |none=>simp [ho] at hc
  |some xs =>
   simp only [ho] at hc
   split at hc
   ·cases hc;simp [aop] at ha
   ·cases hc
 |invoke r m=>simp at hc
 |builtin b =>
  cases ho:C9 args.toList with
  |none=>cases b<;>simp [ho] at hc
  |some xs =>
   obtain ⟨hl,hr⟩:=w8 (a:=a) ho hE
   have hargs:(args.map a.eval).toList=args.toList.map a.eval:=by simp
   cases b<;>simp only [ho] at hc<;>first|(simp at hc;done)|skip
   case len =>
    match xs,hc with
    |[x],hc =>
     simp only at hc
     match hargs':args.toList,hl with
     |[xo],_ =>
      have he:args.map a.eval = #[a.eval xo]:=by apply Array.ext';rw [hargs,hargs'];rfl
      have h0:RelV G w (x.ev env) (a.eval xo):=hr 0 _ _ rfl (by rw [hargs'];rfl)
      split at hc
      ·rename_i t ht
       have key:∀ {k j:Nat},iY j σ (x.ev env)=some k→((j=0∧P.underlying t=some .string)∨(j=1∧∃ e,P.underlying t=some (.slice e))∨(j=2∧∃ e f,P.underlying t=some (.map e f))) →
         wW P hh G w (.int .i64 k) σ ((do let d ← resolve a.eval { callee:=.builtin .len,args:=args,argTypes:=ats } ty;invoke d.target d.args:Sem Next).run P w):=by
        intro k j h1 h2
        have hrun:=O6 (P:=P) (ty:=ty) hS h0 h1 h2
        have hrun':(Builtin.len_ ats ty #[a.eval xo]).run P w = .ok (.int .i64 k) w:=by
         rw [←hrun]
         simp [Builtin.len_,ht]
        exact b9 (by simp [resolve,invoke,builtin,he,hrun']) (.int _ _) hS (.refl _ _)
       split at hc
       ·rename_i hu
        cases hc
        simp only [aop] at ha
        split at ha
        ·rename_i k hk;cases ha;exact key hk (.inl ⟨rfl,hu⟩)
        ·cases ha
       ·rename_i e hu
        cases hc
        simp only [aop] at ha
        split at ha
        ·rename_i k hk;cases ha;exact key hk (.inr (.inl ⟨rfl,e,hu⟩))
        ·cases ha
       ·rename_i e f hu
        cases hc
        simp only [aop] at ha
        split at ha
        ·rename_i k hk;cases ha;exact key hk (.inr (.inr ⟨rfl,e,f,hu⟩))
        ·cases ha
       ·rename_i m e hu
        cases hc
        simp only [aop,AOpd.ev,Option.some.injEq,Prod.mk.injEq] at ha
        obtain ⟨rfl,rfl⟩:=ha
        have hrun':(Builtin.len_ ats ty #[a.eval xo]).run P w = .ok (.int .i64 m) w:=by simp [Builtin.len_,ht,run_underlying hu,goInt]
        exact b9 (by simp [resolve,invoke,builtin,he,hrun']) (.int _ _) hS (.refl _ _)
       ·cases hc
      ·cases hc
    |[],hc=>cases hc
    |_::_::_,hc=>cases hc
   case append =>
    match xs,hc with
    |[x,y],hc =>
     simp only at hc
     match hargs':args.toList,hl with
     |[xo,yo],_ =>
      have he:args.map a.eval = #[a.eval xo,a.eval yo]:=by apply Array.ext';rw [hargs,hargs'];rfl
      have h0:RelV G w (x.ev env) (a.eval xo):=hr 0 _ _ rfl (by rw [hargs'];rfl)
      have h1:RelV G w (y.ev env) (a.eval yo):=hr 1 _ _ rfl (by rw [hargs'];rfl)
      split at hc
      ·rename_i t u ht hu
       split at hc
       ·rename_i e sz e' sz' i p1 p2 p3
        split at hc
        ·rename_i hcond
         obtain ⟨rfl,rfl,hby⟩:=hcond
         obtain ⟨q1,q2⟩:=lM p1
         rw [q1] at p3;simp only at p3
         split at hc
         ·rename_i z hz
          obtain ⟨i',zv,z1,z2,z3,z4,z5,z6,_⟩:=i0 hz
          rw [p3] at z1
          cases z1
          obtain ⟨_,hsz0,j,hj1,hj2⟩:=eX q2 w
          rw [p3] at hj1
          cases hj1
          have hats:(Builtin.append_ ats ty #[a.eval xo,a.eval yo]).run P w=(Builtin.append_ #[t,t] ty #[a.eval xo,a.eval yo]).run P w:=by
           simp [Builtin.append_,ht,hu]
          split at hc
          ·cases hc
           obtain ⟨w',G',q,r1,r2,r3,r4⟩:=KB (ty:=ty) q1 p3 z2 (by rw [z6,z3]) hj2 rfl hsz0 hS h0 h1 ha
           exact b9 (by simp [resolve,invoke,builtin,he,hats,r1]) r2 r3 r4
          ·cases hc
           obtain ⟨w',G',q,r1,r2,r3,r4⟩:=HG (ty:=ty) q1 p3 z2 (by rw [z6,z3]) hj2 rfl hsz0 hS h0 h1 ha
           exact b9 (by simp [resolve,invoke,builtin,he,hats,r1]) r2 r3 r4
         ·cases hc
        ·cases hc
       ·cases hc
      ·cases hc
    |[],hc=>cases hc
    |[_],hc=>cases hc
    |_::_::_::_,hc=>cases hc
   case copy =>
    match xs,hc with
    |[x,y],hc =>
     simp only at hc
     match hargs':args.toList,hl with
     |[xo,yo],_ =>
      have he:args.map a.eval = #[a.eval xo,a.eval yo]:=by apply Array.ext';rw [hargs,hargs'];rfl
      have h0:RelV G w (x.ev env) (a.eval xo):=hr 0 _ _ rfl (by rw [hargs'];rfl)
      have h1:RelV G w (y.ev env) (a.eval yo):=hr 1 _ _ rfl (by rw [hargs'];rfl)
      split at hc
      ·rename_i t u ht hu
       split at hc
       ·rename_i e sz e' sz' p1 p2
        split at hc
        ·rename_i hcond
         subst hcond
         obtain ⟨q1,q2⟩:=lM p1
         cases hc
         have hats:(Builtin.copy_ ats ty #[a.eval xo,a.eval yo]).run P w=(Builtin.copy_ #[t,u] ty #[a.eval xo,a.eval yo]).run P w:=by
          simp [Builtin.copy_,ht]
         obtain ⟨w',G',q,r1,r2,r3,r4⟩:=LT (ty:=ty) (sT:=u) q1 q2 hS h0 h1 ha
         exact b9 (by simp [resolve,invoke,builtin,he,hats,r1]) r2 r3 r4
        ·cases hc
       ·cases hc
      ·cases hc
    |[],hc=>cases hc
    |[_],hc=>cases hc
    |_::_::_::_,hc=>cases hc
   case min =>
    cases hc
    simp only [aop] at ha
    split at ha
    ·rename_i r hm
     cases ha
     obtain ⟨z,e1,e2⟩:=OQ (P:=P) (t:=ty) (args:=ats) hl hr hm
     have:(args.toList.map a.eval).toArray=args.map a.eval:=by apply Array.ext';simp
     rw [this] at e1
     exact b9 (by simp [resolve,invoke,builtin,e1]) e2 hS (.refl _ _)
    ·cases ha
   case max =>
    cases hc
    simp only [aop] at ha
    split at ha
    ·rename_i r hm
     cases ha
     obtain ⟨z,e1,e2⟩:=PI (P:=P) (t:=ty) (args:=ats) hl hr hm
     have:(args.toList.map a.eval).toArray=args.map a.eval:=by apply Array.ext';simp
     rw [this] at e1
     exact b9 (by simp [resolve,invoke,builtin,e1]) e2 hS (.refl _ _)
    ·cases ha
end Go.Am
set_option linter.constructorNameAsVariable false
namespace Go.Am
variable {P:Program} {hh:String→Bool} {G:Gh} {w:World} {σ σ':St} {env:Env} {n:Nat} {a:Act} {v:AV}
theorem H3 {r:Result Next} {w':World} {G':Gh} (hr:r = .ok .skip w') (hS:RelS P hh G' w' σ') (he:Evo G w G' w'):wW P hh G w (.tuple []) σ' r :=
 ⟨_,w',G',hr,.inr ⟨rfl,rfl⟩,hS,he⟩
theorem uO {o:Oper} {q:AOp} (hc:bN P hh o.pos o.op=some q) (hE:eT G w n env a.tmps) (hS:RelS P hh G w σ) (ha:aop q env σ=some (v,σ')) :
  wW P hh G w v σ' ((execOp a.eval o).run P w):=by
 cases hop:o.op with
 |move x|assign x =>
  simp only [hop,bN] at hc
  split at hc
  ·rename_i p hp
   cases hc
   simp only [aop,Option.some.injEq,Prod.mk.injEq] at ha
   obtain ⟨rfl,rfl⟩:=ha
   exact b9 (by simp [execOp,hop]) (cI hp hE) hS (.refl _ _)
  ·cases hc
 |pick c x y =>
  simp only [hop,bN] at hc
  split at hc
  ·rename_i c' x' y' h1 h2 h3
   cases hc
   have r1:=cI (a:=a) h1 hE
   have r2:=cI (a:=a) h2 hE
   have r3:=cI (a:=a) h3 hE
   simp only [aop] at ha
   split at ha
   ·rename_i hb
    cases ha
    rw [hb] at r1
    have hv:a.eval c = .bool true:=by generalize a.eval c=u at r1;cases r1;rfl
    exact b9 (by simp [execOp,hop,hv,asBool]) r2 hS (.refl _ _)
   ·rename_i hb
    cases ha
    rw [hb] at r1
    have hv:a.eval c = .bool false:=by generalize a.eval c=u at r1;cases r1;rfl
    exact b9 (by simp [execOp,hop,hv,asBool]) r3 hS (.refl _ _)
   ·cases ha
  ·cases hc
 |alloc t =>
  simp only [hop,bN] at hc
  split at hc
  ·rename_i z hz
   cases hc
   simp only [aop,Option.some.injEq,Prod.mk.injEq] at ha
   obtain ⟨rfl,rfl⟩:=ha
   obtain ⟨vs,e1,e2,e3⟩:=FT hz w
   obtain ⟨s1,s2⟩:=t9 (cs:=z) (vs:=vs) (T:=t) hS (by omega) (e3 G w)
   exact b9 (by simp [execOp,hop,e1]) (.ptr eI) s1 s2
  ·cases hc
 |box t x =>
  simp only [hop,bN] at hc
  split at hc
  ·rename_i x' sh k h1 h2 h3
   cases hc
   have r1:=cI (a:=a) h1 hE
   simp only [aop] at ha
   split at ha
   ·rename_i hb
    cases ha
    simp only [Bool.and_eq_true,beq_iff_eq] at hb
    obtain ⟨k1,k2,k3⟩:=r1.cells hb.2
    obtain ⟨s1,s2⟩:=t9 (cs:=(x'.ev env).cells) (vs:=(a.eval x).cells) (T:=t) hS (by omega) k2
    exact b9 (by simp [execOp,hop,Instr.box,newVar,newRow]) (.ptr eI) s1 s2
   ·cases ha
  ·cases hc
 |build t parts =>
  simp only [hop,bN] at hc
  split at hc
  ·rename_i z ps h1 h2 h3
   cases hc
   simp only [aop] at ha
   split at ha
   ·rename_i cs hcs
    cases ha
    obtain ⟨u,e1,e2⟩:=J9 (a:=a) hS hE h1 h2 h3 hcs
    exact b9 (by simp only [execOp,hop];simp [e1]) e2 hS (.refl _ _)
   ·cases ha
  ·cases hc
 |buildSlice t k parts =>
  simp only [hop,bN] at hc
  split at hc
  ·rename_i e sz xs h1 h2
   obtain ⟨hu,hz⟩:=lM h1
   split at hc
   ·rename_i hk
    split at hc
    ·rename_i z hzc
     split at hc
     ·cases hc
      simp only [aop] at ha
      split at ha
      ·rename_i hcl
       cases ha
       obtain ⟨vs,e1,e2,e3⟩:=tR (a:=a) hE hu hzc hz h2 hk.1 hk.2 hcl (w:=w)
       obtain ⟨s1,s2⟩:=t9 (cs:=(xs.map (·.ev env)).flatMap AV.cells) (vs:=vs) (T:=e) hS (by rw [fD hcl,e2];simp [hk.1]) e3
       refine b9 (u:=.slice (some ⟨w.heap.size,0,none⟩) k k) (by simp only [execOp,hop];simp [e1]) ?_ s1 s2
       rw [hk.1]
       exact .ref eI (fun _=>rfl) (Nat.le_refl _) (fun e=>by cases e)
      ·cases ha
     ·cases hc
      simp only [aop] at ha
      split at ha
      ·rename_i hcl
       cases ha
       obtain ⟨vs,e1,e2,e3⟩:=tR (a:=a) hE hu hzc hz h2 hk.1 hk.2 hcl (w:=w)
       obtain ⟨G',s1,s2,s3⟩:=YM (xs:=xs.map (·.ev env)) (vs:=vs) (T:=e) hS hcl (by rw [e2];simp [hk.1]) e3
       refine b9 (u:=.slice (some ⟨w.heap.size,0,none⟩) k k) (by simp only [execOp,hop];simp [e1]) ?_ s1 s2
       rw [show (k:Nat)=(xs.map (·.ev env)).length from by simp [hk.1]]
       exact s3
      ·cases ha
    ·cases hc
   ·cases hc
  ·cases hc
 |load t x =>
  simp only [hop,bN] at hc
  split at hc
  ·rename_i sh x' h1 h2
   cases hc
   simp only [aop] at ha
   split at ha
   ·rename_i r hr
    cases ha
    obtain ⟨p,u,e1,e2,e3⟩:=xA hS h1 (cI (a:=a) h2 hE) hr
    exact b9 (by simp [execOp,hop,Instr.loadAt,e1,Instr.sureAddr,e2]) e3 hS (.refl _ _)
   ·cases ha
  ·cases hc
 |store t x y =>
  simp only [hop,bN] at hc
  split at hc
  ·rename_i k x' y' h1 h2 h3
   cases hc
   simp only [aop] at ha
   split at ha
   ·rename_i r hr
    cases ha
    obtain ⟨p,w',e1,e2,e3,e4⟩:=D8 hS h1 (cI (a:=a) h2 hE) (cI (a:=a) h3 hE) hr
    exact H3 (by simp [execOp,hop,Instr.storeAt,e1,Instr.sureAddr,e2]) e3 e4
   ·cases ha
  ·cases hc
 |nilCheck x =>
  simp only [hop,bN] at hc
  split at hc
  ·rename_i x' h1
   cases hc
   have r1:=cI (a:=a) h1 hE
   simp only [aop] at ha
   split at ha
   ·rename_i i off hx
    cases ha
    rw [hx] at r1
    generalize hu:a.eval x=u at r1
    cases r1 with
    |ptr hl=>exact b9 (by simp only [execOp,hop,hu];rfl) (.ptr hl) hS (.refl _ _)
   ·rename_i xs i off tk hx
    cases ha
    rw [hx] at r1
    generalize hu:a.eval x=u at r1
    have r1':=r1
    cases r1 with
    |lptr _ _ _ _=>exact b9 (by simp only [execOp,hop,hu];rfl) r1' hS (.refl _ _)
   ·rename_i f p r hx
    cases ha
    rw [hx] at r1
    generalize hu:a.eval x=u at r1
    have r1':=r1
    cases r1 with
    |func _ _ _ _=>exact b9 (by simp only [execOp,hop,hu];rfl) r1' hS (.refl _ _)
   ·rename_i i hx
    cases ha
    rw [hx] at r1
    generalize hu:a.eval x=u at r1
    have r1':=r1
    cases r1 with
    |yield _=>exact b9 (by simp only [execOp,hop,hu];rfl) r1' hS (.refl _ _)
   ·cases ha
  ·cases hc
 |binOp op t x y s =>
  simp only [hop,bN] at hc
  split at hc
  ·rename_i x' y' h1 h2
   have r1:=cI (a:=a) h1 hE
   have r2:=cI (a:=a) h2 hE
   split at hc
   ·split at hc
    ·rename_i sh hs
     cases hc
     simp only [aop] at ha
     split at ha
     ·rename_i b hb
      cases ha
      have:=NZ (w:=w) false x y hs r1 r2 hb
      simp only [Bool.false_eq_true,if_false] at this
      exact b9 (u:=.bool b) (w':=w) (by simp only [execOp,hop];rw [Sem.run_bind,this];rfl) (by simpa using .bool b) hS (.refl _ _)
     ·cases ha
    ·cases hc
   ·split at hc
    ·rename_i sh hs
     cases hc
     simp only [aop] at ha
     split at ha
     ·rename_i b hb
      cases ha
      have:=NZ (w:=w) true x y hs r1 r2 hb
      simp only [if_true] at this
      exact b9 (u:=.bool !b) (w':=w) (by simp only [execOp,hop];rw [Sem.run_bind,this];rfl) (by simpa using .bool !b) hS (.refl _ _)
     ·cases ha
    ·cases hc
   ·split at hc
    ·cases hc
     simp only [aop] at ha
     split at ha
     ·rename_i u hu
      cases ha
      obtain ⟨q,e1,e2⟩:=PX (P:=P) (w:=w) (t:=t) (xo:=x) (yo:=y) r1 r2 hu
      exact b9 (by simp only [execOp,hop];rw [Sem.run_bind,e1];rfl) e2 hS (.refl _ _)
     ·cases ha
    ·cases hc
  ·cases hc
 |unOp op t x =>
  simp only [hop,bN] at hc
  split at hc
  ·rename_i x' h1
   cases hc
   have r1:=cI (a:=a) h1 hE
   simp only [aop] at ha
   split at ha
   ·rename_i b hb
    cases ha
    rw [hb] at r1
    generalize hu:a.eval x=u at r1
    cases r1
    exact b9 (by simp [execOp,hop,hu,Op.unary]) (.bool _) hS (.refl _ _)
   ·cases ha
  ·rename_i x' h1
   cases hc
   have r1:=cI (a:=a) h1 hE
   simp only [aop] at ha
   split at ha
   ·rename_i k b hb
    cases ha
    rw [hb] at r1
    generalize hu:a.eval x=u at r1
    cases r1
    exact b9 (by simp [execOp,hop,hu,Op.unary,Op.intArith]) (.int _ _) hS (.refl _ _)
   ·cases ha
  ·cases hc
 |convert s d x =>
  simp only [hop,bN] at hc
  split at hc
  ·rename_i k' k x' h1 h2 h3
   cases hc
   have r1:=cI (a:=a) h3 hE
   simp only [aop] at ha
   split at ha
   ·rename_i b hb
    cases ha
    rw [hb] at r1
    generalize hu:a.eval x=u at r1
    cases r1
    exact b9 (by simp [execOp,hop,hu,convert,run_underlying h1,run_underlying h2,Conv.intToInt]) (.int _ _) hS (.refl _ _)
   ·cases ha
  ·cases hc
 |makeFunc fn first cap =>
  simp only [hop,bN] at hc
  split at hc
  ·rename_i f p r h1 h2
   cases hc
   simp only [aop,Option.some.injEq,Prod.mk.injEq] at ha
   obtain ⟨rfl,rfl⟩:=ha
   obtain ⟨l1,q1⟩:=w8 (a:=a) h1 hE
   obtain ⟨l2,q2⟩:=w8 (a:=a) h2 hE
   exact b9 (u:=.func (.func f) (first.map a.eval) (cap.map a.eval)) (by simp [execOp,hop,Instr.makeFunc])
    (.func (by simpa using l1) (by simpa using l2) (fun i x u e1 e2=>q1 i x u e1 (by simpa using e2)) fun i x u e1 e2=>q2 i x u e1 (by simpa using e2)) hS (.refl _ _)
  ·cases hc
 |makeMap t r =>
  cases r with
  |some r=>simp [hop,bN] at hc
  |none =>
   simp only [hop,bN] at hc
   split at hc
   ·cases hc
    simp only [aop,Option.some.injEq,Prod.mk.injEq] at ha
    obtain ⟨rfl,rfl⟩:=ha
    obtain ⟨s1,s2⟩:=uZ (o:=.map #[] 0) hS (x:=.map []) fun G' he=>⟨#[],by rw [d9,if_pos rfl];rfl,rfl,fun i e h=>by simp at h,fun i p e h=>by simp at h⟩
    exact b9 (by simp [execOp,hop,Instr.makeMap]) (.map eI) s1 s2
   ·cases hc
 |makeSlice t l c =>
  simp only [hop,bN] at hc
  split at hc
  ·rename_i e sz l' c' h1 h2 h3
   obtain ⟨hu,hz⟩:=lM h1
   split at hc
   ·rename_i z i h4 h5
    split at hc
    ·cases hc
     have r1:=cI (a:=a) h2 hE
     have r2:=cI (a:=a) h3 hE
     simp only [aop] at ha
     split at ha
     ·rename_i k1 b k2 m hb1 hb2
      split at ha
      ·rename_i hcd
       cases ha
       rw [hb1] at r1
       rw [hb2] at r2
       obtain ⟨c1,c2,c3,c4⟩:=hcd
       subst c2
       generalize hu1:a.eval l=u1 at r1
       generalize hu2:a.eval c=u2 at r2
       cases r1
       cases r2
       obtain ⟨w',G',e1,e2,e3,e4⟩:=D4 (k:=k1) (k':=k2) hS hu h4 h5 ⟨c1,c3,c4⟩
       exact b9 (by simp [execOp,hop,hu1,hu2,e1]) e2 e3 e4
      ·cases ha
     ·cases ha
    ·cases hc
   ·cases hc
  ·cases hc
 |slice t x lo hi mx =>
  simp only [hop,bN] at hc
  split at hc
  ·rename_i x' lo' hi' mx' h1 h2 h3 h4
   split at hc
   ·rename_i e hu
    split at hc
    ·rename_i sz hz
     cases hc
     obtain ⟨rfl,q,e1,e2⟩:=F4 (a:=a) hE hS hu hz h1 h2 h3 h4 ha
     exact b9 (by simp [execOp,hop,e1]) e2 hS (.refl _ _)
    ·cases hc
   ·rename_i m e hu
    split at hc
    ·rename_i sz hz
     cases hc
     have hm:mx=none:=by
      cases mx with
      |none=>rfl
      |some m=>simp only [jH] at h4;split at h4<;>cases h4
     subst hm
     obtain ⟨rfl,q,e1,e2⟩:=HA (a:=a) hE hu hz h1 h2 h3 ha
     exact b9 (by simp [execOp,hop,e1]) e2 hS (.refl _ _)
    ·cases hc
   ·cases hc
  ·cases hc
 |fieldAddr t x f =>
  simp only [hop,bN] at hc
  split at hc
  ·rename_i fd x' h1 h2
   cases hc
   simp only [aop] at ha
   obtain ⟨rfl,q,e1,e2⟩:=JY h1 ha (cI (a:=a) h2 hE)
   exact b9 (by simp [execOp,hop,e1]) e2 hS (.refl _ _)
  ·cases hc
 |field t x f =>
  simp only [hop,bN] at hc
  split at hc
  ·rename_i fd x' h1 h2
   split at hc
   ·rename_i sh hs
    cases hc
    have r1:=cI (a:=a) h2 hE
    simp only [aop] at ha
    split at ha
    ·rename_i cs hcs
     split at ha
     ·rename_i r hr
      cases ha
      rw [hcs] at r1
      obtain ⟨q,e1,e2⟩:=IT h1 hs r1 hr
      exact b9 (by simp [execOp,hop,e1]) e2 hS (.refl _ _)
     ·cases ha
    ·cases ha
   ·cases hc
  ·cases hc
 |indexAddr t x i =>
  simp only [hop,bN] at hc
  split at hc
  ·rename_i x' i' h1 h2
   split at hc
   ·rename_i m e hu
    split at hc
    ·rename_i sz hz
     cases hc
     simp only [aop] at ha
     obtain ⟨rfl,q,e1,e2⟩:=AD (P:=P) (w:=w) (G:=G) (.inl ⟨m,hu,rfl⟩) hz ha (cI (a:=a) h1 hE) (cI (a:=a) h2 hE)
     exact b9 (by simp [execOp,hop,e1]) e2 hS (.refl _ _)
    ·cases hc
   ·rename_i e hu
    split at hc
    ·rename_i sz hz
     cases hc
     simp only [aop] at ha
     obtain ⟨rfl,q,e1,e2⟩:=AD (P:=P) (w:=w) (G:=G) (.inr ⟨hu,rfl⟩) hz ha (cI (a:=a) h1 hE) (cI (a:=a) h2 hE)
     exact b9 (by simp [execOp,hop,e1]) e2 hS (.refl _ _)
    ·cases hc
   ·cases hc
  ·cases hc
 |index t x i =>
  simp only [hop,bN] at hc
  split at hc
  ·rename_i x' i' h1 h2
   have r1:=cI (a:=a) h1 hE
   have r2:=cI (a:=a) h2 hE
   split at hc
   ·rename_i hu
    cases hc
    simp only [aop] at ha
    split at ha
    ·rename_i j s hj hs
     split at ha
     ·rename_i h0
      split at ha
      ·rename_i b hb
       cases ha
       rw [hs] at r1
       obtain ⟨k,hk⟩:=uK r2 hj
       generalize hu1:a.eval x=u1 at r1
       cases r1
       exact b9 (by simp [execOp,hop,Instr.index,hu1,hk,asIntOf,run_underlying hu,h0,hb]) (.int _ _) hS (.refl _ _)
      ·cases ha
     ·cases ha
    ·cases ha
   ·rename_i m e hu
    split at hc
    ·rename_i sz sh hz hs
     cases hc
     simp only [aop] at ha
     split at ha
     ·rename_i j cs hj hcs
      split at ha
      ·rename_i hc2
       split at ha
       ·rename_i r hr
        cases ha
        rw [hcs] at r1
        obtain ⟨k,hk⟩:=uK r2 hj
        obtain ⟨q,e1,e2⟩:=JF (k:=k) hu hz hs r1 hc2 hr
        exact b9 (by simp [execOp,hop,hk,e1]) e2 hS (.refl _ _)
       ·cases ha
      ·cases ha
     ·cases ha
    ·cases hc
   ·cases hc
  ·cases hc
 |lookup t m k ok =>
  simp only [hop,bN] at hc
  split at hc
  ·rename_i m' k' h1 h2
   have r1:=cI (a:=a) h1 hE
   have r2:=cI (a:=a) h2 hE
   split at hc
   ·rename_i key elem hu
    split at hc
    ·rename_i sh z hs hz
     cases hc
     simp only [aop] at ha
     split at ha
     ·rename_i r hr
      cases ha
      obtain ⟨q,e1,e2⟩:=xU ok hu hs hz hS r1 r2 hr
      exact b9 (u:=q) (w':=w) (by simp [execOp,hop,e1]) (by simpa using e2) hS (.refl _ _)
     ·rename_i hr
      cases ha
      obtain ⟨q,e1,e2⟩:=xU ok hu hs hz hS r1 r2 hr
      exact b9 (u:=q) (w':=w) (by simp [execOp,hop,e1]) (by simpa using e2) hS (.refl _ _)
     ·cases ha
    ·cases hc
   ·cases hc
  ·cases hc
 |mapUpdate t m k x =>
  simp only [hop,bN] at hc
  split at hc
  ·rename_i m' k' x' h1 h2 h3
   have r1:=cI (a:=a) h1 hE
   have r2:=cI (a:=a) h2 hE
   have r3:=cI (a:=a) h3 hE
   split at hc
   ·rename_i key elem hu
    split at hc
    ·rename_i sh hs
     cases hc
     simp only [aop] at ha
     split at ha
     ·rename_i id hid
      split at ha
      ·cases ha
      ·rename_i hsome
       split at ha
       ·rename_i es hes
        split at ha
        ·rename_i es' hes'
         cases ha
         rw [hid] at r1
         obtain ⟨w',e1,e2,e3⟩:=GQ hu hs hS r1 r2 r3 (by cases hq:(jV sh (k'.ev env) (k'.ev env)).isSome<;>simp_all) hes hes'
         exact H3 (by simp [execOp,hop,e1]) e2 e3
        ·cases ha
       ·cases ha
     ·cases ha
    ·cases hc
   ·cases hc
  ·cases hc
 |range t x =>
  simp only [hop,bN] at hc
  split at hc
  ·rename_i x' h1
   have r1:=cI (a:=a) h1 hE
   split at hc
   ·rename_i hu
    cases hc
    simp only [aop] at ha
    split at ha
    ·rename_i s hs
     cases ha
     rw [hs] at r1
     generalize hu1:a.eval x=u1 at r1
     cases r1
     obtain ⟨w',G',q,e1,e2,e3,e4⟩:=G4 (s:=s) hS hu
     exact b9 (by simp [execOp,hop,hu1,e1]) e2 e3 e4
    ·cases ha
   ·rename_i e f hu
    cases hc
    simp only [aop] at ha
    split at ha
    ·rename_i id hid
     split at ha
     ·rename_i es hes
      cases ha
      rw [hid] at r1
      obtain ⟨w',G',q,e1,e2,e3,e4⟩:=GM hS hu r1 hes
      exact b9 (by simp [execOp,hop,e1]) e2 e3 e4
     ·cases ha
    ·cases ha
   ·cases hc
  ·cases hc
 |next x s =>
  simp only [hop,bN] at hc
  split at hc
  ·rename_i x' h1
   have r1:=cI (a:=a) h1 hE
   split at hc
   ·rename_i hs
    subst hs
    cases hc
    simp only [aop] at ha
    split at ha
    ·rename_i id hid
     split at ha
     ·rename_i s pos hσ
      rw [hid] at r1
      obtain ⟨k1,k2⟩:=J6 (ty:=o.type) hS r1 hσ
      split at ha
      ·rename_i hp
       cases ha
       obtain ⟨w',e1,e2,e3⟩:=k1 hp
       refine b9 (u:=.tuple #[.bool true,.int .i64 pos,.int .i32 (Utf8.decode s pos).1]) (w':=w') (by simp [execOp,hop,e1]) (.tuple rfl fun i x u g1 g2=>?_) e2 e3
       match i with
       |0=>simp at g1 g2;subst g1;subst g2;exact .bool _
       |1=>simp at g1 g2;subst g1;subst g2;exact .int _ _
       |2=>simp at g1 g2;subst g1;subst g2;exact .int _ _
       |_+3=>simp at g1
      ·rename_i hp
       cases ha
       refine b9 (u:=.tuple #[.bool false]) (w':=w) (by simp [execOp,hop,k2 hp]) (.tuple rfl fun i x u g1 g2=>?_) hS (.refl _ _)
       match i with
       |0=>simp at g1 g2;subst g1;subst g2;exact .bool _
       |_+1=>simp at g1
     ·cases ha
    ·cases ha
   ·cases hc
    simp [aop] at ha
  ·cases hc
 |entry x =>
  simp only [hop,bN] at hc
  split at hc
  ·rename_i x' h1
   have r1:=cI (a:=a) h1 hE
   cases hc
   simp only [aop] at ha
   split at ha
   ·rename_i id hid
    split at ha
    ·rename_i m k left i hσ
     split at ha
     ·rename_i es hes
      split at ha
      ·rename_i hk
       split at ha
       ·rename_i p r hpr
        cases ha
        rw [hid] at r1
        obtain ⟨q,e1,e2⟩:=ID hS r1 hσ hes hk hpr
        exact b9 (by simp [execOp,hop,e1]) e2 hS (.refl _ _)
       ·cases ha
      ·cases ha
     ·cases ha
    ·cases ha
   ·cases ha
  ·cases hc
 |extract x i =>
  simp only [hop,bN] at hc
  split at hc
  ·rename_i x' h1
   have r1:=cI (a:=a) h1 hE
   cases hc
   simp only [aop] at ha
   split at ha
   ·rename_i vs hvs
    split at ha
    ·rename_i r hr
     cases ha
     rw [hvs] at r1
     generalize hu1:a.eval x=u1 at r1
     cases r1 with
     |tuple hl hc =>
      rename_i us
      have hi:i<us.size:=by rw [hl];exact (List.getElem?_eq_some_iff.1 hr).1
      have hg:us[i]? = some us[i]:=Array.getElem?_eq_getElem hi
      exact b9 (u:=us[i]) (w':=w) (by simp [execOp,hop,hu1,Instr.extract,hg]) (hc i _ _ hr hg) hS (.refl _ _)
    ·cases ha
   ·cases ha
  ·cases hc
 |call c =>
  simp only [hop,bN] at hc
  have:=LU (ty:=o.type) hc hE hS ha
  simpa only [execOp,hop] using this
 |_=>simp [hop,bN] at hc
end Go.Am
namespace Go.Am
variable {P:Program} {hh:String→Bool} {G G':Gh} {w:World} {σ σ':St} {env:Env} {n m:Nat} {v:AV}
theorem k6 {m:Nat}:∀ {xs:List AV},okVs m xs↔∀ x∈xs,okV m x
 |[]=>by simp [okVs]
 |x::xs=>by simp [okVs,k6 (xs:=xs)]
theorem gX {m:Nat} {xs:List AV} (h:okVs m xs) {i:Nat} {x:AV} (hx:xs[i]? = some x):okV m x:=k6.1 h x (List.mem_of_getElem? hx)
theorem FH {m:Nat} {x:AV}:okV m x↔∀ c∈x.cells,okV m c:=by
 cases x<;>simp [AV.cells,okV,k6]
theorem w6 {m:Nat} {x c:AV} {j:Nat} (h:okV m x) (hc:x.cells[j]? = some c):okV m c:=FH.1 h c (List.mem_of_getElem? hc)
theorem RelV.ghost {a:AV} {u:Value} (h:RelV G w a u) (h1:G'.loc=G.loc) (h2:G'.lim=G.lim) (h3:G'.tok=G.tok) (h4:G'.own=G.own):RelV G' w a u:=by
 have htk:∀ {full tk n base cap},nB G full tk n base cap→nB G' full tk n base cap:=fun ⟨q1,q2,q3⟩=>⟨q1,q2,fun t e=>by rw [h3];exact q3 t e⟩
 have hl:∀ {xs tk b o sz},LitAt G w xs tk b o sz→LitAt G' w xs tk b o sz:=fun ⟨q1,q2,q3,q4⟩=>⟨by rw [h2];exact q1,by rw [h4];exact q2,q3,q4⟩
 induction h with
 |undef v=>exact .undef v
 |int k n=>exact .int k n
 |bool b=>exact .bool b
 |str s=>exact .str s
 |func e1 e2 _ _ e3 e4=>exact .func e1 e2 e3 e4
 |nilFunc=>exact .nilFunc
 |yield h=>exact .yield (by rw [h1];exact h)
 |ptr h=>exact .ptr (by rw [h1];exact h)
 |nilPtr=>exact .nilPtr
 |lptr ht hi hl' _ ih=>exact .lptr (fun t e=>by rw [h3];exact ht t e) hi (hl hl') ih
 |nil ht hb=>exact .nil (htk ht) hb
 |lit ht hl' _ ih=>exact .lit (htk ht) (hl hl') ih
 |ref h hb hc hn=>exact .ref (by rw [h1];exact h) hb hc hn
 |map h=>exact .map (by rw [h1];exact h)
 |nilMap=>exact .nilMap
 |agg h _ ih=>exact .agg h ih
 |tuple h _ ih=>exact .tuple h ih
theorem eT.ghost {tmps:Array Value} (h:eT G w n env tmps) (h1:G'.loc=G.loc) (h2:G'.lim=G.lim) (h3:G'.tok=G.tok) (h4:G'.own=G.own):eT G' w n env tmps :=
 ⟨h.1,fun t=>(h.2 t).ghost h1 h2 h3 h4⟩
theorem g7.ghost {x:ABlk} {b:Nat} (h:g7 P hh G w x b) (h1:G'.loc=G.loc) (h2:G'.lim=G.lim) (h3:G'.tok=G.tok) (h4:G'.own=G.own):g7 P hh G' w x b:=by
 cases x with
 |cells cs=>obtain ⟨vs,T,e,l,r⟩:=h;exact ⟨vs,T,e,l,fun i a v q1 q2=>(r i a v q1 q2).ghost h1 h2 h3 h4⟩
 |map es=>obtain ⟨ents,e,l,q,r⟩:=h;exact ⟨ents,e,l,q,fun i p e q1 q2=>⟨(r i p e q1 q2).1.ghost h1 h2 h3 h4,(r i p e q1 q2).2.ghost h1 h2 h3 h4⟩⟩
 |tok _ _ _=>exact h
 |siter s pos=>exact h
 |miter m n left last=>obtain ⟨bm,seen,stepped,q1,q2⟩:=h;exact ⟨bm,seen,stepped,by rw [h1];exact q1,q2⟩
 |loop st pend env ps a c=>obtain ⟨l,n,e1,e2,e3,e4,e5,e6,e7,e8,e9⟩:=h;exact ⟨l,n,e1,e2,e3,e4,e5,e6,e7,e8.ghost h1 h2 h3 h4,e9⟩
 |dead=>trivial
theorem RelS.reserve (h:RelS P hh G w σ) (r:Nat→Option (Option (List AV))) (hr:∀ id x,r id=some x→G.loc id=none∧id<σ.length∧∀ cs,x=some cs→σ[id]? = some (.cells cs)) :
  RelS P hh { G with res:=r } w σ :=
 ⟨h.lt,fun id b x e1 e2=>(h.blk id b x e1 e2).ghost rfl rfl rfl rfl,h.inj,h.fresh,h.lim,h.tok,h.own,h.defs,h.base,h.size,hr⟩
def Gh.shut (G:Gh) (σ:St):Gh:={ G with res:=fun id=>if G.loc id=none∧id<σ.length then (match G.res id with|some r=>some r|none=>some none) else none }
theorem RelS.shut (h:RelS P hh G w σ):RelS P hh (G.shut σ) w σ:=by
 refine h.reserve _ fun id x e=>?_
 split at e
 ·rename_i hc
  refine ⟨hc.1,hc.2,fun cs hcs=>?_⟩
  subst hcs
  split at e
  ·rename_i r hr
   cases e
   exact (h.res _ _ hr).2.2 cs rfl
  ·cases e
 ·cases e
theorem lI (h:RelS P hh G w σ):Evo G w (G.shut σ) w :=
 ⟨fun _ _ h=>h,fun b L h=>⟨L,h,Nat.le_refl _,fun _ _=>rfl⟩,fun t b n c h=>⟨b,n,c,h,Nat.le_refl _,fun _=>⟨rfl,rfl⟩⟩,
  fun _ _ _ _ h=>h,fun _ h=>h,rfl,rfl,rfl,rfl,rfl,Nat.le_refl _,fun id r e=>by
   obtain ⟨q1,q2,_⟩:=h.res _ _ e
   simp [Gh.shut,q1,q2,e]⟩
theorem JE {id:Nat} (h:G.loc id=none) (hid:id<σ.length):∃ r,(G.shut σ).res id=some r:=by
 cases e:G.res id with
 |none=>exact ⟨none,by simp [Gh.shut,h,hid,e]⟩
 |some r=>exact ⟨r,by simp [Gh.shut,h,hid,e]⟩
theorem nB.tk {full:Bool} {tk:Option Nat} {n cap:Nat} {base:Option Addr} (hS:RelS P hh G w σ) (h:nB G full tk n base cap):∀ t,tk=some t→t<σ.length:=by
 intro t e
 obtain ⟨b,m,c,q,_⟩:=h.2.2 t e
 obtain ⟨_,_,q2,_⟩:=hS.tok _ _ _ _ q
 exact (List.getElem?_eq_some_iff.1 q2).1
theorem N8 {xs:List AV} {tk:Option Nat} {b o sz:Nat} (hl:LitAt G w xs tk b o sz)
  (ih:∀ (i:Nat) (x:AV) (j:Nat) (c:AV) (u:Value),xs[i]? = some x→x.cells[j]? = some c→w.cell? ⟨b,o+(i*sz+j),none⟩=some u→okV m c):okVs m xs:=by
 rw [k6]
 intro x hx
 obtain ⟨i,hi⟩:=List.getElem?_of_mem hx
 rw [FH]
 intro c hc
 obtain ⟨j,hj⟩:=List.getElem?_of_mem hc
 obtain ⟨u,hu⟩:=Option.isSome_iff_exists.1 (hl.cells _ (hl.cellOf hi hj))
 exact ih i x j c u hi hj hu
theorem RelV.ok {a:AV} {u:Value} (hS:RelS P hh G w σ) (h:RelV G w a u):okV σ.length a:=by
 induction h with
 |undef v=>trivial
 |int k n=>trivial
 |bool b=>trivial
 |str s=>trivial
 |@func f first cap first' cap' e1 e2 _ _ e3 e4 =>
  refine ⟨k6.2 fun x hx=>?_,k6.2 fun x hx=>?_⟩
  ·obtain ⟨i,hi⟩:=List.getElem?_of_mem hx
   have:i<first'.size:=by rw [e1];exact (List.getElem?_eq_some_iff.1 hi).1
   exact e3 i x _ hi (Array.getElem?_eq_getElem this)
  ·obtain ⟨i,hi⟩:=List.getElem?_of_mem hx
   have:i<cap'.size:=by rw [e2];exact (List.getElem?_eq_some_iff.1 hi).1
   exact e4 i x _ hi (Array.getElem?_eq_getElem this)
 |nilFunc=>trivial
 |yield h=>exact hS.lt _ _ h
 |ptr h=>exact hS.lt _ _ h
 |nilPtr=>trivial
 |lptr ht hi hl _ ih =>
  refine ⟨fun t e=>?_,N8 hl ih⟩
  obtain ⟨⟨b,n,c⟩,q⟩:=ht t e
  obtain ⟨_,_,q2,_⟩:=hS.tok _ _ _ _ q
  exact (List.getElem?_eq_some_iff.1 q2).1
 |nil ht hb=>exact ⟨ht.tk hS,trivial⟩
 |lit ht hl _ ih=>exact ⟨ht.tk hS,N8 hl ih⟩
 |ref h hb hc hn=>exact hS.lt _ _ h
 |map h=>exact hS.lt _ _ h
 |nilMap=>trivial
 |@agg cs vs h _ ih =>
  refine k6.2 fun x hx=>?_
  obtain ⟨i,hi⟩:=List.getElem?_of_mem hx
  have:i<vs.size:=by rw [h];exact (List.getElem?_eq_some_iff.1 hi).1
  exact ih i x _ hi (Array.getElem?_eq_getElem this)
 |@tuple cs vs h _ ih =>
  refine k6.2 fun x hx=>?_
  obtain ⟨i,hi⟩:=List.getElem?_of_mem hx
  have:i<vs.size:=by rw [h];exact (List.getElem?_eq_some_iff.1 hi).1
  exact ih i x _ hi (Array.getElem?_eq_getElem this)
structure Less (G:Gh) (m:Nat) (G':Gh):Prop where
 loc:∀ id b,id<m→G.loc id=some b→G'.loc id=some b
 lim:∀ b L,G.lim b=some L→∃ L',G'.lim b=some L'∧L≤L'
 tok:∀ t p,t<m→G.tok t=some p→G'.tok t=some p
 own:∀ b t,G'.own b=some t→G.own b=some t∧t<m
theorem LitAt.less (hL:Less G m G') {xs:List AV} {tk:Option Nat} {b o sz:Nat} (hl:LitAt G w xs tk b o sz):LitAt G' w xs tk b o sz:=by
 obtain ⟨⟨L,q1,q2⟩,q3,q4,q5⟩:=hl
 obtain ⟨L',q6,q7⟩:=hL.lim _ _ q1
 exact ⟨⟨L',q6,by omega⟩,fun t e=>q3 t (hL.own _ _ e).1,q4,q5⟩
theorem nB.less (hL:Less G m G') {full:Bool} {tk:Option Nat} {n cap:Nat} {base:Option Addr} (h:nB G full tk n base cap) (ht:∀ t,tk=some t→t<m):nB G' full tk n base cap:=by
 refine ⟨h.1,h.2.1,fun t e=>?_⟩
 obtain ⟨b,k,c,q,r⟩:=h.2.2 t e
 exact ⟨b,k,c,hL.tok _ _ (ht t e) q,r⟩
theorem RelV.less (hL:Less G m G') {a:AV} {u:Value} (h:RelV G w a u) (ho:okV m a):RelV G' w a u:=by
 induction h with
 |undef v=>exact .undef v
 |int k n=>exact .int k n
 |bool b=>exact .bool b
 |str s=>exact .str s
 |func e1 e2 _ _ e3 e4=>exact .func e1 e2 (fun i x u q1 q2=>e3 i x u q1 q2 (gX ho.1 q1)) (fun i x u q1 q2=>e4 i x u q1 q2 (gX ho.2 q1))
 |nilFunc=>exact .nilFunc
 |yield h=>exact .yield (hL.loc _ _ ho h)
 |ptr h=>exact .ptr (hL.loc _ _ ho h)
 |nilPtr=>exact .nilPtr
 |lptr ht hi hl _ ih =>
  exact .lptr (fun t e=>by obtain ⟨p,q⟩:=ht t e;exact ⟨p,hL.tok _ _ (ho.1 t e) q⟩) hi (hl.less hL) fun i x j c u q1 q2 q3=>ih i x j c u q1 q2 q3 (w6 (gX ho.2 q1) q2)
 |nil ht hb=>exact .nil (ht.less hL ho.1) hb
 |lit ht hl _ ih=>exact .lit (ht.less hL ho.1) (hl.less hL) fun i x j c u q1 q2 q3=>ih i x j c u q1 q2 q3 (w6 (gX ho.2 q1) q2)
 |ref h hb hc hn=>exact .ref (hL.loc _ _ ho h) hb hc hn
 |map h=>exact .map (hL.loc _ _ ho h)
 |nilMap=>exact .nilMap
 |agg h _ ih=>exact .agg h fun i x u q1 q2=>ih i x u q1 q2 (gX ho q1)
 |tuple h _ ih=>exact .tuple h fun i x u q1 q2=>ih i x u q1 q2 (gX ho q1)
theorem eB {d:Nat}:∀ {xs ys:List AV},snaps σ m d xs=some ys→ys.length=xs.length∧∀ (i:Nat) (x:AV),xs[i]? = some x→∃ y,ys[i]? = some y∧snap σ m d x=some y
 |[],ys,h=>by simp [snaps] at h;subst h;exact ⟨rfl,fun i x e=>by simp at e⟩
 |x::xs,ys,h=>by
  simp only [snaps] at h
  split at h
  ·rename_i a b h1 h2
   cases h
   obtain ⟨l,r⟩:=eB h2
   refine ⟨by simp [l],fun i y e=>?_⟩
   cases i with
   |zero=>simp at e;subst e;exact ⟨a,rfl,h1⟩
   |succ i=>simp at e;simpa using r i y e
  ·cases h
theorem rA {d:Nat} {xs ys:List AV} (hs:snaps σ m d xs=some ys) {i:Nat} {y:AV} (hy:ys[i]? = some y):∃ x,xs[i]? = some x∧snap σ m d x=some y:=by
 obtain ⟨l,r⟩:=eB hs
 have hi:i<xs.length:=by rw [←l];exact (List.getElem?_eq_some_iff.1 hy).1
 obtain ⟨y',e1,e2⟩:=r i xs[i] (List.getElem?_eq_getElem hi)
 rw [hy] at e1
 cases e1
 exact ⟨_,List.getElem?_eq_getElem hi,e2⟩
theorem v3 {d:Nat} {x y:AV} (h:snap σ m d x=some y):y.cells.length=x.cells.length∧∀ (j:Nat) (c:AV),x.cells[j]? = some c→∃ c',y.cells[j]? = some c'∧snap σ m d c=some c':=by
 have one:∀ {x y:AV},snap σ m d x=some y→x.cells=[x]→y.cells=[y]→y.cells.length=x.cells.length∧∀ (j:Nat) (c:AV),x.cells[j]? = some c→∃ c',y.cells[j]? = some c'∧snap σ m d c=some c':=by
  intro x y h hx hy
  rw [hx,hy]
  refine ⟨rfl,fun j c e=>?_⟩
  match j with
  |0=>simp at e;subst e;exact ⟨y,rfl,h⟩
  |_+1=>simp at e
 cases x with
 |agg cs =>
  have h':=h
  simp only [snap] at h'
  split at h'
  ·rename_i ys hys
   cases h'
   exact eB hys
  ·cases h'
 |ref id off len sz =>
  refine one h rfl ?_
  cases d with
  |zero=>simp only [snap] at h;split at h<;>cases h;rfl
  |succ d =>
   simp only [snap] at h
   split at h
   ·cases h;rfl
   ·split at h
    ·split at h
     ·split at h
      ·cases h;rfl
      ·cases h
     ·cases h
    ·cases h
 |_ =>
  refine one h rfl ?_
  simp only [snap] at h
  first
   |(cases h;rfl)
   |(split at h<;>cases h;rfl)
structure Last (σ:St) (G:Gh) (m:Nat) (G':Gh):Prop extends Less G m G' where
 frz:∀ id b cs,m≤id→G.loc id=some b→σ[id]? = some (.cells cs)→(∃ L,G'.lim b=some L∧cs.length≤L)∧∀ t,G'.own b≠some t
theorem E4 {tk:Option Nat} {t:Nat} (h:tk.filter (· < m)=some t):tk=some t∧t<m:=by
 cases tk with
 |none=>simp at h
 |some s =>
  simp only [Option.filter] at h
  split at h
  ·rename_i hs;cases h;exact ⟨rfl,by simpa using hs⟩
  ·cases h
theorem nB.last (hL:Less G m G') {full:Bool} {tk:Option Nat} {n cap:Nat} {base:Option Addr} (h:nB G full tk n base cap):nB G' full (tk.filter (· < m)) n base cap:=by
 refine ⟨h.1,h.2.1,fun t e=>?_⟩
 obtain ⟨e1,e2⟩:=E4 e
 obtain ⟨b,k,c,q,r⟩:=h.2.2 t e1
 exact ⟨b,k,c,hL.tok _ _ e2 q,r⟩
theorem LitAt.last (hL:Less G m G') {d:Nat} {xs ys:List AV} {tk:Option Nat} {b o sz:Nat} (hl:LitAt G w xs tk b o sz) (hs:snaps σ m d xs=some ys):LitAt G' w ys (tk.filter (· < m)) b o sz:=by
 obtain ⟨l,r⟩:=eB hs
 obtain ⟨⟨L,q1,q2⟩,q3,q4,q5⟩:=hl
 obtain ⟨L',q6,q7⟩:=hL.lim _ _ q1
 refine ⟨⟨L',q6,by rw [l];omega⟩,fun t e=>?_,fun i y e=>?_,fun k hk=>q5 k (by rw [←l];exact hk)⟩
 ·obtain ⟨e1,e2⟩:=hL.own _ _ e
  rw [q3 t e1]
  simp [Option.filter,e2]
 ·have hi:i<xs.length:=by rw [←l];exact (List.getElem?_eq_some_iff.1 e).1
  obtain ⟨y',e1,e2⟩:=r i xs[i] (List.getElem?_eq_getElem hi)
  rw [e] at e1
  cases e1
  rw [(v3 e2).1]
  exact q4 i _ (List.getElem?_eq_getElem hi)
theorem vZ {d:Nat} {xs ys:List AV} (hs:snaps σ m d xs=some ys) {i j:Nat} {y c:AV} (hy:ys[i]? = some y) (hc:y.cells[j]? = some c) :
  ∃ x c',xs[i]? = some x∧x.cells[j]? = some c'∧snap σ m d c'=some c:=by
 obtain ⟨l,r⟩:=eB hs
 have hi:i<xs.length:=by rw [←l];exact (List.getElem?_eq_some_iff.1 hy).1
 obtain ⟨y',e1,e2⟩:=r i xs[i] (List.getElem?_eq_getElem hi)
 rw [hy] at e1
 cases e1
 obtain ⟨l2,r2⟩:=v3 e2
 have hj:j<xs[i].cells.length:=by rw [←l2];exact (List.getElem?_eq_some_iff.1 hc).1
 obtain ⟨c',e3,e4⟩:=r2 j _ (List.getElem?_eq_getElem hj)
 rw [hc] at e3
 cases e3
 exact ⟨xs[i],_,List.getElem?_eq_getElem hi,List.getElem?_eq_getElem hj,e4⟩
theorem sI (hS:RelS P hh G w σ) (hL:Last σ G m G'):∀ (d:Nat) {a a':AV} {u:Value},snap σ m d a=some a'→RelV G w a u→RelV G' w a' u:=by
 intro d
 induction d using Nat.strongRecOn with
 |_ d ihd =>
  intro a a' u hs h
  induction h generalizing a' with
  |undef v=>simp only [snap] at hs;cases hs;exact .undef v
  |int k n=>simp only [snap] at hs;cases hs;exact .int k n
  |bool b=>simp only [snap] at hs;cases hs;exact .bool b
  |str s=>simp only [snap] at hs;cases hs;exact .str s
  |func e1 e2 _ _ e3 e4 =>
   simp only [snap] at hs
   split at hs
   ·rename_i x y h1 h2
    cases hs
    obtain ⟨l1,r1⟩:=eB h1
    obtain ⟨l2,r2⟩:=eB h2
    refine .func (by rw [e1,l1]) (by rw [e2,l2]) (fun i z u q1 q2=>?_) fun i z u q1 q2=>?_
    ·obtain ⟨x,q3,q4⟩:=rA h1 q1
     exact e3 i _ u q3 q2 q4
    ·obtain ⟨x,q3,q4⟩:=rA h2 q1
     exact e4 i _ u q3 q2 q4
   ·cases hs
  |nilFunc=>simp only [snap] at hs;cases hs;exact .nilFunc
  |yield h =>
   simp only [snap] at hs
   split at hs
   ·rename_i hlt;cases hs;exact .yield (hL.loc _ _ hlt h)
   ·cases hs
  |ptr h =>
   simp only [snap] at hs
   split at hs
   ·rename_i hlt;cases hs;exact .ptr (hL.loc _ _ hlt h)
   ·cases hs
  |nilPtr=>simp only [snap] at hs;cases hs;exact .nilPtr
  |lptr ht hi hl _ ih =>
   simp only [snap] at hs
   split at hs
   ·rename_i ys hys
    cases hs
    refine .lptr (fun t e=>?_) (by rw [(eB hys).1];exact hi) (hl.last hL.toLess hys) fun i y j c u q1 q2 q3=>?_
    ·obtain ⟨e1,e2⟩:=E4 e
     obtain ⟨p,q⟩:=ht t e1
     exact ⟨p,hL.tok _ _ e2 q⟩
    ·obtain ⟨x,c',s1,s2,s3⟩:=vZ hys q1 q2
     exact ih i x j c' u s1 s2 q3 s3
   ·cases hs
  |nil ht hb =>
   simp only [snap,snaps] at hs
   cases hs
   exact .nil (ht.last hL.toLess) hb
  |lit ht hl _ ih =>
   simp only [snap] at hs
   split at hs
   ·rename_i ys hys
    cases hs
    have hlen:=(eB hys).1
    have:=RelV.lit (G:=G') (w:=w) (xs:=ys) (by rw [hlen];exact ht.last hL.toLess) (hl.last hL.toLess hys) fun i y j c u q1 q2 q3=>by
     obtain ⟨x,c',s1,s2,s3⟩:=vZ hys q1 q2
     exact ih i x j c' u s1 s2 q3 s3
    rwa [hlen] at this
   ·cases hs
  |@ref id off len sz b base cap h hb hc hn =>
   cases d with
   |zero =>
    simp only [snap] at hs
    split at hs
    ·rename_i hlt;cases hs;exact .ref (hL.loc _ _ hlt h) hb hc hn
    ·cases hs
   |succ d =>
    simp only [snap] at hs
    split at hs
    ·rename_i hlt;cases hs;exact .ref (hL.loc _ _ hlt h) hb hc hn
    ·rename_i hge
     split at hs
     ·rename_i xs hv
      split at hs
      ·rename_i hall
       simp only [Bool.and_eq_true,decide_eq_true_eq] at hall
       obtain ⟨h0,hall⟩:=hall
       split at hs
       ·rename_i ys hys
        cases hs
        have hlen:=(eB hys).1
        simp only [o9] at hv
        split at hv
        ·rename_i cs hcs
         split at hv
         ·rename_i hle
          cases hv
          obtain ⟨f1,f2⟩:=qY h0 (n:=len) (cs:=cs.drop off) (by simp;omega) hall
          have hrd:=(pZ hS h hcs).sub off (len*sz)
          rw [Nat.zero_add,←f1] at hrd
          obtain ⟨us,l,q1,q2⟩:=hrd.list
          have hfl:=fD hall
          rw [f2] at hlen hfl
          by_cases h00:len=0
          ·subst h00
           have:ys=[]:=List.eq_nil_of_length_eq_zero hlen
           subst this
           exact .nil ⟨by omega,by simp,fun t e=>by cases e⟩ hn
          ·have hcs':σ[id]? = some (.cells cs):=by
            unfold aM at hcs
            split at hcs
            ·rename_i cs' hx;cases hcs;exact hx
            ·cases hcs
           obtain ⟨⟨L,g1,g2⟩,g3⟩:=hL.frz id b cs (by omega) h hcs'
           rw [hb h00,←hlen]
           refine .lit (sz:=sz) ⟨by omega,by simp,fun t e=>by cases e⟩ ⟨⟨L,g1,by rw [hlen];omega⟩,fun t e=>absurd e (g3 t),fun i y e=>?_,fun k hk=>?_⟩ fun i y j c u e1 e2 e3=>?_
           ·have hi:i<(DA sz len (cs.drop off)).length:=by rw [←(eB hys).1];exact (List.getElem?_eq_some_iff.1 e).1
            obtain ⟨y',e1,e2⟩:=(eB hys).2 i _ (List.getElem?_eq_getElem hi)
            rw [e] at e1
            cases e1
            rw [(v3 e2).1]
            exact (lF hall (List.getElem?_eq_getElem hi)).1
           ·have hk':k<us.length:=by rw [l,hfl,←hlen];exact hk
            have:=q1 k _ (List.getElem?_eq_getElem hk')
            rw [jY] at this
            rw [this]
            rfl
           ·obtain ⟨x,c',s1,s2,s3⟩:=vZ hys e1 e2
            have hp:=yG hall s1 s2
            have hk':i*sz+j<us.length:=by rw [l];exact (List.getElem?_eq_some_iff.1 hp).1
            have hq:=q1 _ _ (List.getElem?_eq_getElem hk')
            rw [jY,e3] at hq
            cases hq
            exact ihd d (by omega) s3 (q2 _ _ _ hp (List.getElem?_eq_getElem hk'))
         ·cases hv
        ·cases hv
       ·cases hs
      ·cases hs
     ·cases hs
  |map h =>
   simp only [snap] at hs
   split at hs
   ·rename_i hlt;cases hs;exact .map (hL.loc _ _ hlt h)
   ·cases hs
  |nilMap=>simp only [snap] at hs;cases hs;exact .nilMap
  |agg h _ ih =>
   simp only [snap] at hs
   split at hs
   ·rename_i ys hys
    cases hs
    obtain ⟨l,r⟩:=eB hys
    refine .agg (by rw [h,l]) fun i z u q1 q2=>?_
    obtain ⟨x,q3,q4⟩:=rA hys q1
    exact ih i _ u q3 q2 q4
   ·cases hs
  |tuple h _ ih =>
   simp only [snap] at hs
   split at hs
   ·rename_i ys hys
    cases hs
    obtain ⟨l,r⟩:=eB hys
    refine .tuple (by rw [h,l]) fun i z u q1 q2=>?_
    obtain ⟨x,q3,q4⟩:=rA hys q1
    exact ih i _ u q3 q2 q4
   ·cases hs
end Go.Am
namespace Go.Am
variable {P:Program} {hh:String→Bool} {G G1 G':Gh} {w w1:World} {σ σ1:St} {env:Env} {n m:Nat} {v:AV}
mutual
theorem okV_mono {m m':Nat} (h:m≤m'):∀ a,okV m a→okV m' a
 |.func _ first cap,q=>⟨okVs_mono h first q.1,okVs_mono h cap q.2⟩
 |.yield id,q|.ptr id _,q|.ref id _ _ _,q|.map id,q=>Nat.lt_of_lt_of_le q h
 |.lptr xs _ _ tk,q|.lit xs _ tk,q=>⟨fun t e=>Nat.lt_of_lt_of_le (q.1 t e) h,okVs_mono h xs q.2⟩
 |.agg cs,q=>okVs_mono h cs q
 |.tuple cs,q=>okVs_mono h cs q
 |.undef,_|.int _ _,_|.bool _,_|.str _,_|.nilFunc,_|.nilPtr,_|.nilMap,_=>trivial
theorem okVs_mono {m m':Nat} (h:m≤m'):∀ xs,okVs m xs→okVs m' xs
 |[],_=>trivial
 |x::xs,q=>⟨okV_mono h x q.1,okVs_mono h xs q.2⟩
end
def zF (m:Nat):ABlk→Prop
 |.loop _ _ env _ _ _=>∀ t,okV m (Env.get env t)
 |x=>aT m x
theorem uN {x:ABlk} (h:aT m x):zF m x:=by
 cases x<;>first|exact h|exact h.elim
theorem eT.ok {tmps:Array Value} (hS:RelS P hh G w σ) (h:eT G w n env tmps) (t:Nat):okV σ.length (Env.get env t):=(h.2 t).ok hS
theorem g7.ok {x:ABlk} {b:Nat} (hS:RelS P hh G w σ) (h:g7 P hh G w x b):zF σ.length x:=by
 cases x with
 |cells cs =>
  obtain ⟨vs,T,e,l,r⟩:=h
  refine k6.2 fun c hc=>?_
  obtain ⟨i,hi⟩:=List.getElem?_of_mem hc
  have:i<vs.size:=by have:=(List.getElem?_eq_some_iff.1 hi).1;omega
  exact (r i c _ hi (Array.getElem?_eq_getElem this)).ok hS
 |map es =>
  obtain ⟨ents,e,l,q,r⟩:=h
  intro p hp
  obtain ⟨i,hi⟩:=List.getElem?_of_mem hp
  have:i<ents.size:=by have:=(List.getElem?_eq_some_iff.1 hi).1;omega
  exact ⟨(r i p _ hi (Array.getElem?_eq_getElem this)).1.ok hS,(r i p _ hi (Array.getElem?_eq_getElem this)).2.ok hS⟩
 |tok _ _ _=>exact h.elim
 |siter s pos=>trivial
 |miter m n left last=>obtain ⟨bm,seen,stepped,h1,_⟩:=h;exact hS.lt _ _ h1
 |loop st pend env ps a c=>obtain ⟨l,n,e1,e2,e3,e4,e5,e6,e7,e8,e9⟩:=h;exact e8.ok hS
 |dead=>trivial
theorem pH {m m':Nat} (h:m≤m') {x:ABlk} (q:zF m x):zF m' x:=by
 cases x with
 |cells cs=>exact okVs_mono h _ q
 |map es=>exact fun p hp=>⟨okV_mono h _ (q p hp).1,okV_mono h _ (q p hp).2⟩
 |miter id n left last=>exact Nat.lt_of_lt_of_le q h
 |loop st pend env ps a c=>exact fun t=>okV_mono h _ (q t)
 |_=>trivial
theorem g7.less (hL:Less G m G') {x:ABlk} {b:Nat} (h:g7 P hh G w x b) (ho:zF m x):g7 P hh G' w x b:=by
 cases x with
 |cells cs=>obtain ⟨vs,T,e,l,r⟩:=h;exact ⟨vs,T,e,l,fun i a v q1 q2=>(r i a v q1 q2).less hL (gX ho q1)⟩
 |map es =>
  obtain ⟨ents,e,l,q,r⟩:=h
  exact ⟨ents,e,l,q,fun i p e q1 q2=>⟨(r i p e q1 q2).1.less hL (ho p (List.mem_of_getElem? q1)).1,(r i p e q1 q2).2.less hL (ho p (List.mem_of_getElem? q1)).2⟩⟩
 |tok _ _ _=>exact h
 |siter s pos=>exact h
 |miter id n left last=>obtain ⟨bm,seen,stepped,q1,q2⟩:=h;exact ⟨bm,seen,stepped,hL.loc _ _ ho q1,q2⟩
 |loop st pend env ps a c =>
  obtain ⟨l,n,e1,e2,e3,e4,e5,e6,e7,e8,e9⟩:=h
  exact ⟨l,n,e1,e2,e3,e4,e5,e6,e7,⟨e8.1,fun t=>(e8.2 t).less hL (ho t)⟩,e9⟩
 |dead=>trivial
def rI (w:World) (b:Nat):Nat :=
 match w.heap[b]? with
 |some (.cells vs _ _)=>vs.size
 |_=>0
open Classical in
noncomputable def Gh.cut (G:Gh) (w:World) (σ:St) (m:Nat) (r:Nat→Option (Option (List AV))):Gh :=
  { G with
    loc:=fun id=>if id<m then G.loc id else none
    lim:=fun b=>match G.lim b with
      |some L=>some L
      |none=>if ∃ id cs,m≤id∧G.loc id=some b∧σ[id]? = some (.cells cs) then some (rI w b) else none
    tok:=fun t=>if t<m then G.tok t else none
    own:=fun b=>match G.lim b,G.own b with
      |some _,some t=>if t<m then some t else none
      |_,_=>none
    res:=r }
theorem wX {r} {b L:Nat} (h:(G1.cut w1 σ1 m r).lim b=some L) (hn:G1.lim b=none):L=rI w1 b∧∃ id cs,m≤id∧G1.loc id=some b∧σ1[id]? = some (.cells cs):=by
 simp only [Gh.cut,hn] at h
 split at h
 ·rename_i hc;cases h;exact ⟨rfl,hc⟩
 ·cases h
theorem uM {r} {b t:Nat} (h:(G1.cut w1 σ1 m r).own b=some t):G1.own b=some t∧t<m∧∃ L,G1.lim b=some L:=by
 simp only [Gh.cut] at h
 split at h
 ·rename_i L u hL hu
  split at h
  ·rename_i hlt;cases h;exact ⟨hu,hlt,L,hL⟩
  ·cases h
 ·cases h
theorem oC (hS:RelS P hh G1 w1 σ1) (r:Nat→Option (Option (List AV))):Last σ1 G1 m (G1.cut w1 σ1 m r) where
 loc id b h e:=by simp [Gh.cut,h,e]
 lim b L e:=⟨L,by simp [Gh.cut,e],Nat.le_refl _⟩
 tok t p h e:=by simp [Gh.cut,h,e]
 own b t e:=⟨(uM e).1,(uM e).2.1⟩
 frz id b cs h1 h2 h3:=by
  have hn:=(hS.fresh _ _ h2).2.2.1
  obtain ⟨vs,T,e,l,_⟩:=hS.blk _ _ _ h2 h3
  refine ⟨⟨rI w1 b,?_,by simp [rI,e];exact l⟩,fun t ht=>?_⟩
  ·simp only [Gh.cut,hn]
   rw [if_pos ⟨id,cs,h1,h2,h3⟩]
  ·obtain ⟨_,_,L,q⟩:=uM ht
   rw [hn] at q
   cases q
def WT (σ σ1:St) (m:Nat):Prop:=σ.length≤m∧m≤σ1.length∧∀ i,i<m→(i<σ.length∧pC σ σ1 m i)∨∃ b,σ1[i]? = some b∧aT m b
theorem WD (hS:RelS P hh G w σ) (he:Evo (G.shut σ) w G1 w1) (h1:RelS P hh G1 w1 σ1) (hk:WT σ σ1 m) {id b:Nat} {x:ABlk} (hid:id<m) (hl:G1.loc id=some b) (hx:σ1[id]? = some x):zF m x:=by
 obtain ⟨k1,k2,k3⟩:=hk
 have located:∀ y,id<σ.length→σ[id]? = some y→∃ b0,G.loc id=some b0∧g7 P hh G w y b0:=by
  intro y hlt hy
  cases e:G.loc id with
  |none =>
   obtain ⟨r,hr⟩:=JE e hlt
   have:=(h1.res _ _ (he.res _ _ hr)).1
   rw [hl] at this
   cases this
  |some b0=>exact ⟨b0,rfl,hS.blk _ _ _ e hy⟩
 rcases k3 id hid with ⟨hlt,hkp⟩|⟨y,hy,ho⟩
 ·rcases hkp with hkp|⟨y,hy,ho⟩|⟨st,pe,st',pe',env,ps,a,c,e1,e2⟩
  ·obtain ⟨b0,_,hb0⟩:=located x hlt (by rw [←hkp];exact hx)
   exact pH k1 (hb0.ok hS)
  ·rw [hx] at hy
   cases hy
   exact uN ho
  ·obtain ⟨b0,_,hb0⟩:=located _ hlt e1
   rw [hx] at e2
   cases e2
   exact pH k1 (x:=.loop st pe env ps a c) (hb0.ok hS)
 ·rw [hx] at hy
  cases hy
  exact uN ho
theorem JO (hS:RelS P hh G w σ) (he:Evo (G.shut σ) w G1 w1) (h1:RelS P hh G1 w1 σ1) (hk:WT σ σ1 m):RelS P hh (G1.cut w1 σ1 m G.res) w1 (σ1.take m):=by
 have hL:=oC (m:=m) h1 G.res
 have hk':=hk
 obtain ⟨k1,k2,k3⟩:=hk'
 have loc':∀ id b,(G1.cut w1 σ1 m G.res).loc id=some b→id<m∧G1.loc id=some b:=by
  intro id b e
  simp only [Gh.cut] at e
  split at e
  ·exact ⟨‹_›,e⟩
  ·cases e
 have notlim:∀ b,G1.lim b=none→(∀ id,m≤id→G1.loc id≠some b)→(G1.cut w1 σ1 m G.res).lim b=none:=by
  intro b q1 q2
  cases e:(G1.cut w1 σ1 m G.res).lim b with
  |none=>rfl
  |some L =>
   obtain ⟨_,id,cs,p1,p2,_⟩:=wX e q1
   exact absurd p2 (q2 id p1)
 refine ⟨fun id b e=>?_,fun id b x e1 e2=>?_,fun i j b e1 e2=>h1.inj i j b (loc' _ _ e1).2 (loc' _ _ e2).2,fun id b e=>?_,fun b L e=>?_,fun t b n c e=>?_,fun b t e=>?_,fun r e=>?_,h1.base,h1.size,fun id r e=>?_⟩
 ·have:=loc' _ _ e
  simp
  omega
 ·obtain ⟨q1,q2⟩:=loc' _ _ e1
  rw [List.getElem?_take_of_lt q1] at e2
  exact (h1.blk _ _ _ q2 e2).less hL.toLess (WD hS he h1 hk q1 q2 e2)
 ·obtain ⟨q1,q2⟩:=loc' _ _ e
  obtain ⟨f1,f2,f3,f4⟩:=h1.fresh _ _ q2
  refine ⟨f1,f2,notlim b f3 fun i hi e'=>?_,f4⟩
  have:=h1.inj _ _ _ q2 e'
  omega
 ·cases hn:G1.lim b with
  |some L' =>
   have:(G1.cut w1 σ1 m G.res).lim b=some L':=by simp [Gh.cut,hn]
   rw [this] at e
   cases e
   exact h1.lim _ _ hn
  |none =>
   obtain ⟨rfl,id,cs,p1,p2,p3⟩:=wX e hn
   obtain ⟨vs,T,q,l,_⟩:=h1.blk _ _ _ p2 p3
   exact ⟨vs,T,(0,0),q,by simp [rI,q],fun hlt=>absurd hlt (Nat.not_lt.2 (h1.fresh _ _ p2).1)⟩
 ·have ht:t<m∧G1.tok t=some (b,n,c):=by
   simp only [Gh.cut] at e
   split at e
   ·exact ⟨‹_›,e⟩
   ·cases e
  obtain ⟨sz,ex,q1,q2,q3,q4⟩:=h1.tok _ _ _ _ ht.2
  refine ⟨sz,ex,by rw [List.getElem?_take_of_lt ht.1];exact q1,q2,q3,fun hx=>?_⟩
  obtain ⟨bb,vs,T,r1,r2,r3,r4,r5,r6⟩:=q4 hx
  exact ⟨bb,vs,T,r1,by simp [Gh.cut,r2,r3,ht.1],by simp [Gh.cut,r3],r4,r5,r6⟩
 ·obtain ⟨q1,q2,_⟩:=uM e
  obtain ⟨p1,p,p2⟩:=h1.own _ _ q1
  exact ⟨p1,p,hL.tok _ _ q2 p2⟩
 ·obtain ⟨q1,q2,q3⟩:=h1.defs r e
  refine ⟨q1,q2,notlim r q3 fun i hi e'=>?_⟩
  exact (h1.fresh _ _ e').2.2.2 e
 ·obtain ⟨q1,q2,q3⟩:=hS.res id r e
  obtain ⟨p1,p2,p3⟩:=h1.res id r (he.res _ _ ((lI hS).res _ _ e))
  refine ⟨by simp [Gh.cut,p1],by simp;omega,fun cs hc=>?_⟩
  rw [List.getElem?_take_of_lt (by omega)]
  exact p3 cs hc
theorem xL (hS:RelS P hh G w σ) (he:Evo (G.shut σ) w G1 w1) (h1:RelS P hh G1 w1 σ1) (hm:σ.length≤m):Evo G w (G1.cut w1 σ1 m G.res) w1 where
 loc id b e:=by
  have:=hS.lt _ _ e
  have h:=he.loc id b e
  simp [Gh.cut,h,show id<m by omega]
 lim b L e:=by
  obtain ⟨L',q1,q2,q3⟩:=he.lim b L e
  exact ⟨L',by simp [Gh.cut,q1],q2,q3⟩
 tok t b n c e:=by
  obtain ⟨_,_,q,_⟩:=hS.tok _ _ _ _ e
  have:=(List.getElem?_eq_some_iff.1 q).1
  obtain ⟨b',n',c',r1,r2,r3⟩:=he.tok t b n c e
  exact ⟨b',n',c',by simp [Gh.cut,r1,show t<m by omega],r2,r3⟩
 own b L t e1 e2:=he.own b L t e1 (uM e2).1
 defs r e:=he.defs r e
 B0:=he.B0
 h0:=he.h0
 os:=he.os
 tape:=he.tape
 output:=he.output
 size:=he.size
 res id r e:=e
end Go.Am
namespace Go.Am
variable {P:Program} {hh:String→Bool} {G:Gh} {w:World}
theorem iF:∀ xs:List AV,clrs xs=xs.map clr
 |[]=>by simp [clrs]
 |x::xs=>by simp [clrs,iF xs]
theorem FD (x:AV):(clr x).cells=x.cells.map clr:=by
 cases x<;>simp [clr,AV.cells,iF]
theorem qK {xs:List AV} {i:Nat} {y:AV} (h:(clrs xs)[i]? = some y):∃ x,xs[i]? = some x∧y=clr x:=by
 rw [iF,List.getElem?_map] at h
 cases e:xs[i]? with
 |none=>rw [e] at h;cases h
 |some x=>rw [e] at h;exact ⟨x,rfl,by simpa using h.symm⟩
theorem JG {xs:List AV} {i j:Nat} {y c:AV} (hy:(clrs xs)[i]? = some y) (hc:y.cells[j]? = some c):∃ x c',xs[i]? = some x∧x.cells[j]? = some c'∧c=clr c':=by
 obtain ⟨x,q1,rfl⟩:=qK hy
 rw [FD,List.getElem?_map] at hc
 cases e:x.cells[j]? with
 |none=>rw [e] at hc;cases hc
 |some c'=>rw [e] at hc;exact ⟨x,c',q1,e,by simpa using hc.symm⟩
theorem LitAt.clr {xs:List AV} {tk:Option Nat} {b o sz:Nat} (h:LitAt G w xs tk b o sz):LitAt G w (clrs xs) tk b o sz:=by
 obtain ⟨q1,q2,q3,q4⟩:=h
 refine ⟨by rw [iF,List.length_map];exact q1,q2,fun i y e=>?_,fun k hk=>q4 k (by rw [iF,List.length_map] at hk;exact hk)⟩
 obtain ⟨x,e1,rfl⟩:=qK e
 rw [FD,List.length_map]
 exact q3 i x e1
theorem nB.clr {full:Bool} {tk:Option Nat} {n cap:Nat} {base:Option Addr} (h:nB G full tk n base cap):nB G (full&&tk.isSome) tk n base cap:=by
 refine ⟨h.1,fun e=>h.2.1 (by simp at e;exact e.1),fun t e=>?_⟩
 obtain ⟨b,m,c,q1,q2,q3⟩:=h.2.2 t e
 exact ⟨b,m,c,q1,q2,fun hf=>q3 (by subst e;simpa using hf)⟩
theorem RelV.clr {a:AV} {u:Value} (h:RelV G w a u):RelV G w (clr a) u:=by
 induction h with
 |undef v=>exact .undef v
 |int k n=>exact .int k n
 |bool b=>exact .bool b
 |str s=>exact .str s
 |func e1 e2 _ _ e3 e4 =>
  refine .func (by rw [iF,List.length_map];exact e1) (by rw [iF,List.length_map];exact e2) (fun i x u q1 q2=>?_) fun i x u q1 q2=>?_
  ·obtain ⟨y,q3,rfl⟩:=qK q1;exact e3 i y u q3 q2
  ·obtain ⟨y,q3,rfl⟩:=qK q1;exact e4 i y u q3 q2
 |nilFunc=>exact .nilFunc
 |yield h=>exact .yield h
 |ptr h=>exact .ptr h
 |nilPtr=>exact .nilPtr
 |lptr ht hi hl _ ih =>
  refine .lptr ht (by rw [iF,List.length_map];exact hi) hl.clr fun i x j c u q1 q2 q3=>?_
  obtain ⟨y,c',e1,e2,rfl⟩:=JG q1 q2
  exact ih i y j c' u e1 e2 q3
 |nil ht hb=>exact .nil ht.clr hb
 |@lit xs full tk b o sz cap ht hl _ ih =>
  have hlen:(clrs xs).length=xs.length:=by rw [iF,List.length_map]
  have:=RelV.lit (G:=G) (w:=w) (xs:=clrs xs) (by rw [hlen];exact ht.clr) hl.clr fun i x j c u q1 q2 q3=>by
   obtain ⟨y,c',e1,e2,rfl⟩:=JG q1 q2
   exact ih i y j c' u e1 e2 q3
  rwa [hlen] at this
 |ref h hb hc hn=>exact .ref h hb hc hn
 |map h=>exact .map h
 |nilMap=>exact .nilMap
 |agg h _ ih =>
  refine .agg (by rw [iF,List.length_map];exact h) fun i x u q1 q2=>?_
  obtain ⟨y,q3,rfl⟩:=qK q1;exact ih i y u q3 q2
 |tuple h _ ih =>
  refine .tuple (by rw [iF,List.length_map];exact h) fun i x u q1 q2=>?_
  obtain ⟨y,q3,rfl⟩:=qK q1;exact ih i y u q3 q2
end Go.Am
namespace Go.Am
variable {P:Program} {hh:String→Bool} {G G0 G1 G':Gh} {w w0 w1:World} {σ σ1:St} {env:Env} {n m:Nat} {v:AV}
def W8 (tmps:Array Value):ResultVar→Sem Value
 |.tmp t=>pure (tmps.getD t undef)
 |.cell a t=>do loadVar t (← asAddr (tmps.getD a undef))
theorem zH {tmps:Array Value} (hE:eT G w n env tmps) (hS:RelS P hh G w σ):∀ {rs:List ResultVar} {az:List ARes} {vs:List AV},nR P rs=some az→k8 env σ az=some vs →
  ∃ us:List Value,(rs.mapM (W8 tmps):Sem (List Value)).run P w = .ok us w∧us.length=vs.length ∧
   ∀ (i:Nat) (a:AV) (u:Value),vs[i]? = some a→us[i]? = some u→RelV G w a u
 |[],az,vs,h1,h2=>by
  simp [nR] at h1
  subst h1
  simp [k8] at h2
  subst h2
  exact ⟨[],by simp,rfl,fun i a u e=>by simp at e⟩
 |.tmp t::rs,az,vs,h1,h2=>by
  simp only [nR] at h1
  split at h1
  ·rename_i l hl
   cases h1
   simp only [k8] at h2
   cases hr:k8 env σ l with
   |none=>simp [hr] at h2
   |some ws =>
    simp only [hr,Option.map_some,Option.some.injEq] at h2
    subst h2
    obtain ⟨us,e1,e2,e3⟩:=zH hE hS hl hr
    refine ⟨tmps.getD t undef::us,by simp only [List.mapM_cons,W8,Sem.run_bind,Sem.run_pure,Result.andThen_ok,e1],by simp [e2],fun i a u q1 q2=>?_⟩
    cases i with
    |zero=>simp at q1 q2;subst q1;subst q2;simpa using hE.2 t
    |succ i=>simp at q1 q2;exact e3 i a u q1 q2
  ·cases h1
 |.cell a t::rs,az,vs,h1,h2=>by
  simp only [nR] at h1
  split at h1
  ·rename_i sh l hsh hl
   cases h1
   simp only [k8] at h2
   split at h2
   ·rename_i v ws hv hr
    cases h2
    obtain ⟨us,e1,e2,e3⟩:=zH hE hS hl hr
    obtain ⟨p,r,q1,q2,q3⟩:=xA hS hsh (hE.2 a) hv
    refine ⟨r::us,by simp only [List.mapM_cons,W8,Sem.run_bind,q1,asAddr,Sem.run_pure,Result.andThen_ok,q2,e1],by simp [e2],fun i a u p1 p2=>?_⟩
    cases i with
    |zero=>simp at p1 p2;subst p1;subst p2;exact q3
    |succ i=>simp at p1 p2;exact e3 i a u p1 p2
   ·cases h2
  ·cases h1
theorem D7 {fn:Func} {az:List ARes} {tmps:Array Value} (hE:eT G w n env tmps) (hS:RelS P hh G w σ) (hc:nR P fn.results.toList=some az) (h:f9 az env σ=some v) :
  ∃ u,(results fn tmps).run P w = .ok u w∧RelV G w v u:=by
 cases hr:k8 env σ az with
 |none=>simp [f9,hr] at h
 |some vs =>
  obtain ⟨us,e1,e2,e3⟩:=zH hE hS hc hr
  have hm:(fn.results.mapM (W8 tmps):Sem (Array Value)).run P w = .ok us.toArray w:=by
   rw [Array.mapM_eq_mapM_toList,Sem.run_map,e1,Result.andThen_ok]
  refine ⟨if h:us.toArray.size=1 then us.toArray[0] else .tuple us.toArray,?_,?_⟩
  ·unfold results
   rw [Sem.run_bind]
   refine (congrArg (fun r=>Result.andThen r _) hm).trans ?_
   simp only [Result.andThen_ok,Sem.run_pure]
  ·rcases vs with _|⟨a,_|⟨b,vs⟩⟩<;>rcases us with _|⟨u,_|⟨u',us⟩⟩<;>try (simp at e2;done)
   ·simp [f9,hr] at h
    subst h
    exact .tuple rfl fun i a u q1 q2=>by simp at q1
   ·simp [f9,hr] at h
    subst h
    exact e3 0 _ _ rfl rfl
   ·simp [f9,hr] at h
    subst h
    exact .tuple (by simpa using e2) fun i a u q1 q2=>e3 i a u q1 (by simpa using q2)
def DM (r:Nat):Deferred:={ target:=.collected r,args:=#[] }
def qI (G:Gh) (B:Nat) (ds:List Deferred):Prop:=∃ rs:List Nat,ds=rs.map DM∧rs.Nodup∧∀ r∈rs,G.defs r∧B≤r
theorem qI.mono {B:Nat} {ds:List Deferred} (h:qI G B ds) (hd:∀ r,G.defs r→G'.defs r):qI G' B ds:=by
 obtain ⟨rs,q1,q2,q3⟩:=h
 exact ⟨rs,q1,q2,fun r hr=>⟨hd r (q3 r hr).1,(q3 r hr).2⟩⟩
theorem PT {r:Nat} {tmps:Array Value} (hS:RelS P hh G w σ) (hE:eT G w n env tmps) (hr:G.defs r) (he:Evo G0 w0 G w) (h0:¬G0.defs r) :
  ∃ w' G',(Instr.takeDeferred r).run P w = .ok [] w'∧RelS P hh G' w' σ∧eT G' w' n env tmps∧Evo G0 w0 G' w'∧∀ x,G.defs x→x≠r→G'.defs x:=by
 obtain ⟨d1,d2,d3⟩:=hS.defs r hr
 have hp:=kV w r (.deferred none)
 let G':Gh:={ G with defs:=fun x=>G.defs x∧x≠r }
 have hE':Evo G' w G' { w with heap:=w.heap.setIfInBounds r (.deferred none) }:=oE hp d3
 have hS':RelS P hh G' w σ:=⟨hS.lt,fun id b x e1 e2=>(hS.blk id b x e1 e2).ghost rfl rfl rfl rfl,hS.inj,fun id b e=>by
   obtain ⟨q1,q2,q3,q4⟩:=hS.fresh id b e
   exact ⟨q1,q2,q3,fun h=>q4 h.1⟩,hS.lim,hS.tok,hS.own,fun x e=>hS.defs x e.1,hS.base,hS.size,hS.res⟩
 refine ⟨{ w with heap:=w.heap.setIfInBounds r (.deferred none) },G',?_,?_,(hE.ghost (G':=G') rfl rfl rfl rfl).mono hE',?_,fun x q1 q2=>⟨q1,q2⟩⟩
 ·simp [Instr.takeDeferred,qE d1 (fun _ _ _ e=>by cases e),yT _ d1 (fun _ _ _ e=>by cases e)]
 ·refine ⟨hS'.lt,fun id b x e1 e2=>(hS'.blk id b x e1 e2).mono hE' (hp.other _ fun e=>?_),hS'.inj,fun id b e=>?_,fun b L e=>?_,fun t b k c e=>?_,fun b t e=>?_,fun x e=>?_,fun b hb=>?_,by rw [hp.size];exact hS'.size,hS'.res⟩
  ·subst e
   exact (hS.fresh _ _ e1).2.2.2 hr
  ·obtain ⟨q1,q2,q3,q4⟩:=hS'.fresh id b e
   exact ⟨q1,by rw [hp.size];exact q2,q3,q4⟩
  ·obtain ⟨vs,T,fr,q,l⟩:=hS'.lim b L e
   refine ⟨vs,T,fr,?_,l⟩
   rw [hp.other _ fun e'=>by subst e';rw [show G'.lim b=G.lim b from rfl,d3] at e;cases e]
   exact q
  ·obtain ⟨sz,ex,q1,q2,q3,q4⟩:=hS'.tok t b k c e
   refine ⟨sz,ex,q1,q2,q3,fun hx=>?_⟩
   obtain ⟨bb,vs,T,r1,r2,r3,r4,r5,r6⟩:=q4 hx
   refine ⟨bb,vs,T,r1,r2,r3,r4,?_,r6⟩
   rw [hp.other _ fun e'=>by subst e';rw [show G'.lim bb=G.lim bb from rfl,d3] at r3;cases r3]
   exact r5
  ·obtain ⟨q1,q2⟩:=hS'.own b t e
   exact ⟨by rw [hp.size];exact q1,q2⟩
  ·obtain ⟨q1,q2,q3⟩:=hS'.defs x e
   refine ⟨?_,q2,q3⟩
   rw [hp.other _ e.2]
   exact q1
  ·rw [hp.other _ (by have:G'.B0=G.B0:=rfl;omega)]
   exact hS'.base b hb
 ·have:Evo G0 w0 G' w:=⟨he.loc,he.lim,he.tok,he.own,fun x e=>⟨he.defs x e,fun e'=>by subst e';exact h0 e⟩,he.B0,he.h0,he.os,he.tape,he.output,he.size,he.res⟩
  exact this.trans hE'
theorem zQ {fn:Func} {tmps:Array Value} {R:Ending→World→Prop}:∀ (rs:List Nat) {G:Gh} {w:World},rs.Nodup→(∀ r∈rs,G.defs r∧¬G0.defs r)→RelS P hh G w σ→eT G w n env tmps→Evo G0 w0 G w →
  (∀ G' w',RelS P hh G' w' σ→eT G' w' n env tmps→Evo G0 w0 G' w'→∃ v,(results fn tmps).run P w' = .ok v w'∧R (.returned v) w') →
  LeavesInM Fence.wide 0 P fn tmps R (rs.map DM) .returning w
 |[],G,w,_,_,hS,hE,he,h=>h G w hS hE he
 |r::rs,G,w,hn,hr,hS,hE,he,h=>by
  obtain ⟨q1,q2⟩:=List.nodup_cons.1 hn
  obtain ⟨p1,p2⟩:=hr r (List.mem_cons_self ..)
  obtain ⟨w',G',t1,t2,t3,t4,t5⟩:=PT hS hE p1 he p2
  refine ⟨by simp,.inl ⟨r,w',rfl,t1,zQ rs q2 (fun x hx=>⟨t5 x (hr x (List.mem_cons_of_mem _ hx)).1 (fun e=>q1 (e▸hx)),(hr x (List.mem_cons_of_mem _ hx)).2⟩) t2 t3 t4 h⟩⟩
theorem JJ {Q:Out→Prop} {u:Value} (hS:RelS P hh G w σ) (he:Evo (G.shut σ) w G1 w1) (h1:RelS P hh G1 w1 σ1) (hv:RelV G1 w1 v u) (hl:NV σ σ1 v Q) :
  ∃ o G2,Q o∧RelV G2 w1 o.v u∧RelS P hh G2 w1 o.σ∧Evo G w G2 w1:=by
 rcases hl with hq|⟨d,v',v'',hs,hc,hk,hlen,hq⟩
 ·refine ⟨_,{ G1 with res:=G.res },hq,hv.ghost rfl rfl rfl rfl,h1.reserve _ fun id x e=>?_,?_⟩
  ·have:=h1.res id x (he.res _ _ ((lI hS).res _ _ e))
   exact this
  ·have h2:=(lI hS).trans he
   exact ⟨h2.loc,h2.lim,h2.tok,h2.own,h2.defs,h2.B0,h2.h0,h2.os,h2.tape,h2.output,h2.size,fun _ _ e=>e⟩
 ·have hkept:WT σ σ1 σ.length:=⟨Nat.le_refl _,hlen,fun i hi=>.inl ⟨hi,hk i hi⟩⟩
  have hv2:=sI h1 (oC h1 G.res) d hs hv
  refine ⟨_,_,hq,?_,JO hS he h1 hkept,xL hS he h1 (Nat.le_refl _)⟩
  rcases hc with rfl|rfl
  ·exact hv2
  ·exact hv2.clr
end Go.Am
namespace Go.Am
variable {P:Program} {hh:String→Bool} {G G0 G1 G':Gh} {w w0 w1:World} {σ σ' σ1:St} {env env':Env} {n m:Nat} {v:AV} {a:Act}
def FW (F:Fence):Prop:=F=Fence.wide∨∃ l,F=Fence.wide.inRound l
theorem FW.fn {F:Fence} (h:FW F) (f:FuncId):F.fn f:=by rcases h with rfl|⟨l,rfl⟩<;>trivial
theorem FW.depth {F:Fence} (h:FW F):¬F.depth.isSome=true:=by rcases h with rfl|⟨l,rfl⟩<;>simp [Fence.wide,Fence.inRound]
theorem FW.calls {F:Fence} (h:FW F) {f:FuncId} {args:Array Value} {w:World} {R:Ending→World→Prop} (hc:CallsIn Fence.wide 0 P f args w R):CallsIn F 0 P f args w R:=by
 rcases h with rfl|⟨l,rfl⟩
 ·exact hc
 ·exact hc
theorem FW.round {F:Fence} (h:FW F) {l:Nat} {f:FuncId} {tmps:Array Value} {x y:Code} {w:World} {R:Ending→World→Prop} (hc:RoundIn Fence.wide 0 P l f tmps x y w R):RoundIn F 0 P l f tmps x y w R:=by
 rcases h with rfl|⟨l',rfl⟩
 ·exact hc
 ·exact hc
theorem eT.put {dst:Option Nat} {u:Value} (hE:eT G w n env a.tmps) (hd:∀ d,dst=some d→d<n) (hv:RelV G w v u):eT G w n (Env.put env dst v) (a.put dst u).tmps:=by
 cases dst with
 |none=>exact hE
 |some d =>
  refine ⟨by simp [Act.put,hE.1],fun t=>?_⟩
  have hdn:=hd d rfl
  by_cases ht:d=t
  ·subst ht
   have:d<a.tmps.size:=by rw [hE.1];exact hdn
   simpa [Env.put,Env.get,Act.put,Array.getD_eq_getD_getElem?,Array.getElem?_setIfInBounds_self,this] using hv
  ·have:=hE.2 t
   simpa [Env.put,Env.get,ht,Act.put,Array.getD_eq_getD_getElem?,Array.getElem?_setIfInBounds_ne ht] using this
theorem FM:RelV G w (.tuple []) undef:=.tuple rfl fun i a v e=>by simp at e
theorem y6 (h:v = .tuple []):RelV G w v undef:=by subst h;exact FM
theorem gZ {ops:Array Oper} {o:Oper} {d:AOper} (h:mT P hh n ops o=some d) :
  bN P hh o.pos o.op=some d.op∧d.dst=o.dst∧(∀ t,o.dst=some t→t<n) ∧
   ((o.guard=none∧d.guard=none)∨∃ j want t,o.guard=some (j,want)∧(ops[j]?).bind (·.dst)=some t∧d.guard=some (t,want)):=by
 have key:∀ {b:Bool} {op g},bN P hh o.pos o.op=some op→(match o.guard with
   |none=>some none
   |some (j,want)=>match (ops[j]?).bind (·.dst) with|some t=>some (some (t,want))|none=>none)=some g→(b=true→∀ t,o.dst=some t→t<n) →
   (if b=true then some { dst:=o.dst,op,guard:=g:AOper } else none)=some d→bN P hh o.pos o.op=some d.op∧d.dst=o.dst∧(∀ t,o.dst=some t→t<n) ∧
   ((o.guard=none∧d.guard=none)∨∃ j want t,o.guard=some (j,want)∧(ops[j]?).bind (·.dst)=some t∧d.guard=some (t,want)):=by
  intro b op g h1 h2 hb h
  split at h
  ·rename_i hd
   cases h
   refine ⟨h1,rfl,hb hd,?_⟩
   split at h2
   ·rename_i hg;cases h2;exact .inl ⟨hg,rfl⟩
   ·rename_i j want hg
    split at h2
    ·rename_i t ht;cases h2;exact .inr ⟨j,want,t,hg,ht,rfl⟩
    ·cases h2
  ·cases h
 unfold mT at h
 cases hds:o.dst with
 |none =>
  simp only [hds] at h
  split at h
  ·rename_i op g h1 h2
   rw [hds] at key
   exact key (b:=true) h1 h2 (fun _ t e=>by cases e) (by simpa using h)
  ·cases h
 |some t =>
  simp only [hds] at h
  split at h
  ·rename_i op g h1 h2
   rw [hds] at key
   exact key (b:=decide (t<n)) h1 h2 (fun hb t' e=>by cases e;simpa using hb) h
  ·cases h
theorem n8 {ops:Array Oper} {o:Oper} {d:AOper} {b:Bool} (hc:mT P hh n ops o=some d) (hg:∀ t want,d.guard=some (t,want)→RelV G w (Env.get env t) (a.tmps.getD t undef)) (h:d.wanted env=some b) :
  Region.wanted o (yielded ops a.tmps)=b:=by
 obtain ⟨_,_,_,hgd⟩:=gZ hc
 rcases hgd with ⟨q1,q2⟩|⟨j,want,t,q1,q2,q3⟩
 ·simp [AOper.wanted,q2] at h
  simp [Region.wanted,q1,h]
 ·have hr:=hg t want q3
  simp only [AOper.wanted,q3] at h
  simp only [Region.wanted,q1,yielded,q2,Option.bind_some]
  generalize hu:a.tmps.getD t undef=u at hr
  split at h
  ·rename_i c hx
   rw [hx] at hr
   cases hr
   cases h
   have:a.tmps[t]? = some (.bool c):=by
    rw [Array.getD_eq_getD_getElem?] at hu
    cases e:a.tmps[t]? with
    |none=>rw [e] at hu;simp [undef] at hu
    |some z=>rw [e] at hu;simp at hu;rw [hu]
   rw [this]
   simp
  ·rename_i hx
   rw [hx] at hr
   cases h
   cases hr with
   |tuple hl _ =>
    rename_i vs
    cases e:a.tmps[t]? with
    |none=>simp
    |some z =>
     rw [Array.getD_eq_getD_getElem?,e] at hu
     simp at hu
     subst hu
     simp
  ·cases h
theorem tT {x:AOpd} (h:∀ t∈x.tmps,Env.get env t=Env.get env' t):x.ev env=x.ev env':=by
 cases x with
 |t n=>exact h n (by simp [AOpd.tmps])
 |c v=>rfl
theorem u0 {xs:List AOpd} (h:∀ t∈xs.flatMap AOpd.tmps,Env.get env t=Env.get env' t):xs.map (·.ev env)=xs.map (·.ev env') :=
 List.map_congr_left fun x hx=>tT fun t ht=>h t (List.mem_flatMap.2 ⟨x,hx,ht⟩)
theorem zY:∀ {ps:List (Nat×Nat×AOpd)} {cs:List AV},(∀ t∈ps.flatMap fun p=>p.2.2.tmps,Env.get env t=Env.get env' t)→cF env cs ps=cF env' cs ps
 |[],cs,_=>rfl
 |(off,k,x)::ps,cs,h=>by
  have h1:x.ev env=x.ev env':=tT fun t ht=>h t (by simp [ht])
  have h2:∀ cs,cF env cs ps=cF env' cs ps:=fun cs=>zY fun t ht=>h t (by simp only [List.flatMap_cons,List.mem_append];exact .inr ht)
  simp only [cF,h1,h2]
theorem pM {d:Nat} {x:Option AOpd} (h:∀ t∈x.toList.flatMap AOpd.tmps,Env.get env t=Env.get env' t):bV env d x=bV env' d x:=by
 cases x with
 |none=>rfl
 |some y=>simp only [bV];rw [tT fun t ht=>h t (by simpa using ht)]
theorem yV {q:AOp} (h:∀ t∈q.tmps,Env.get env t=Env.get env' t):aop q env σ=aop q env' σ:=by
 have m1:∀ {x:AOpd},(∀ t∈x.tmps,t∈q.tmps)→x.ev env=x.ev env':=fun hx=>tT fun t ht=>h t (hx t ht)
 cases q with
 |mov x|box _ x|load _ x|nilCheck x|not x|neg x|conv _ x|faddr x _|field x _ _|srange x|snext x|mrange x|mnext x|entry x|ext x _|len _ x =>
  have:=m1 (x:=x) (fun t ht=>ht)
  simp only [aop,this]
 |pick c x y|mapset _ c x y =>
  have e1:=m1 (x:=c) (fun t ht=>by simp [AOp.tmps,ht])
  have e2:=m1 (x:=x) (fun t ht=>by simp [AOp.tmps,ht])
  have e3:=m1 (x:=y) (fun t ht=>by simp [AOp.tmps,ht])
  simp only [aop,e1,e2,e3]
 |alloc _|mkmap=>rfl
 |build z ps=>simp only [aop];rw [zY h]
 |mklit _ xs|mkref _ xs|min xs|max xs =>
  have:=u0 (xs:=xs) h
  simp only [aop,this]
 |store _ x y|bin _ x y|eql _ _ x y|append _ _ x y|apref _ _ x y|copy _ x y|mkslice _ _ x y|iaddr _ _ x y|index _ _ _ x y|sindex x y|lookup _ _ _ x y =>
  have e1:=m1 (x:=x) (fun t ht=>by simp [AOp.tmps,ht])
  have e2:=m1 (x:=y) (fun t ht=>by simp [AOp.tmps,ht])
  simp only [aop,e1,e2]
 |mkfun f xs ys =>
  have e1:=u0 (xs:=xs) (fun t ht=>h t (by simp only [AOp.tmps,List.mem_append];exact .inl ht))
  have e2:=u0 (xs:=ys) (fun t ht=>h t (by simp only [AOp.tmps,List.mem_append];exact .inr ht))
  simp only [aop,e1,e2]
 |slicev sz x l hi mx =>
  have e1:=m1 (x:=x) (fun t ht=>by simp [AOp.tmps,ht])
  have e2:∀ d,bV env d l=bV env' d l:=fun d=>pM fun t ht=>h t (by simp only [AOp.tmps,List.mem_append,List.flatMap_append];exact .inr (.inl (.inl ht)))
  have e3:∀ d,bV env d hi=bV env' d hi:=fun d=>pM fun t ht=>h t (by simp only [AOp.tmps,List.mem_append,List.flatMap_append];exact .inr (.inl (.inr ht)))
  have e4:mx.map (fun m=>fP (m.ev env))=mx.map (fun m=>fP (m.ev env')):=by
   cases mx with
   |none=>rfl
   |some y =>
    have:=m1 (x:=y) (fun t ht=>by simp only [AOp.tmps,List.mem_append,List.flatMap_append];exact .inr (.inr (by simpa using ht)))
    simp [this]
  simp only [aop,e1,e2,e3,e4]
 |slicea k sz x l hi =>
  have e1:=m1 (x:=x) (fun t ht=>by simp [AOp.tmps,ht])
  have e2:∀ d,bV env d l=bV env' d l:=fun d=>pM fun t ht=>h t (by simp only [AOp.tmps,List.mem_append,List.flatMap_append];exact .inr (.inl ht))
  have e3:∀ d,bV env d hi=bV env' d hi:=fun d=>pM fun t ht=>h t (by simp only [AOp.tmps,List.mem_append,List.flatMap_append];exact .inr (.inr ht))
  simp only [aop,e1,e2,e3]
 |call f xs=>rfl
theorem US {q:AOp} {s:St} (h1:q.acts=false) (h2:q.allocs=false) (h3:q.reads=false) (h:aop q env σ=some (v,s)) (τ:St):aop q env τ=some (v,τ):=by
 cases q<;>simp only [AOp.acts,AOp.allocs,AOp.reads] at h1 h2 h3<;>first|(cases h1;done)|(cases h2;done)|(cases h3;done)|skip
 all_goals
  simp only [aop] at h ⊢
  repeat' split at h
 all_goals first|(cases h;done)|skip
 all_goals
  simp only [Option.some.injEq,Prod.mk.injEq] at h
  obtain ⟨rfl,_⟩:=h
 all_goals simp_all
theorem OZ {pos:String} {op:Op} {f:AOpd} {args:List AOpd} (h:bN P hh pos op=some (.call f args)) :
  ∃ c fo,op = .call c∧c.callee = .value fo∧opd fo=some f∧C9 c.args.toList=some args:=by
 cases op with
 |call c =>
  simp only [bN,qR] at h
  repeat' split at h
  all_goals first|(cases h;done)|skip
  all_goals simp_all
 |_ =>
  exfalso
  simp only [bN] at h
  repeat' split at h
  all_goals first|(cases h;done)|(simp_all;done)
theorem L9 {pos:String} {op:Op} {z:List AV} (h:bN P hh pos op=some (.alloc z)):∃ t,op = .alloc t∧fV P t=some z:=by
 cases op with
 |alloc t =>
  simp only [bN] at h
  split at h
  ·rename_i z' hz;cases h;exact ⟨t,rfl,hz⟩
  ·cases h
 |call c =>
  exfalso
  simp only [bN,qR] at h
  repeat' split at h
  all_goals first|(cases h;done)|(simp_all;done)
 |_ =>
  exfalso
  simp only [bN] at h
  repeat' split at h
  all_goals first|(cases h;done)|(simp_all;done)
theorem L7 {pos:String} {c:Call}:bN P hh pos (.defer c)=none:=by simp [bN]
theorem F9 {F:Fence} {o:Oper} {q:AOp} (h:bN P hh o.pos o.op=some q) (ρ:Operand→Value):o.semAt F.round ρ=execOp ρ o :=
 Oper.semAt_eq _ _ _ fun c e=>by rw [e,L7] at h;cases h
theorem H7 {F:Fence} {o:Oper} {next:Act→World→Prop} {Q:Exit→Act→World→Prop} {r:Result Next} (h:wW P hh G w v σ' r)
  (hn:∀ u G' w',RelV G' w' v u→RelS P hh G' w' σ'→Evo G w G' w'→next (a.put o.dst u) w'):o.uponIn F 0 P a next Q r:=by
 obtain ⟨nx,w',G',rfl,hv,hS,he⟩:=h
 rcases hv with ⟨u,rfl,hu⟩|⟨rfl,hv⟩
 ·exact hn u G' w' hu hS he
 ·exact hn undef G' w' (y6 hv) hS he
def fU (G:Gh) (w:World) (args:List AV) (vs:Array Value):Prop :=
 vs.size=args.length∧∀ (i:Nat) (x:AV) (u:Value),args[i]? = some x→vs[i]? = some u→RelV G w x u
theorem fU.append {xs ys:List AV} {us vs:Array Value} (h1:fU G w xs us) (h2:fU G w ys vs):fU G w (xs++ys) (us++vs):=by
 refine ⟨by simp [h1.1,h2.1],fun i x u e1 e2=>?_⟩
 by_cases hi:i<xs.length
 ·rw [List.getElem?_append_left hi] at e1
  rw [Array.getElem?_append_left (by rw [h1.1];exact hi)] at e2
  exact h1.2 i x u e1 e2
 ·rw [List.getElem?_append_right (by omega)] at e1
  rw [Array.getElem?_append_right (by rw [h1.1];omega),h1.1] at e2
  exact h2.2 _ x u e1 e2
def EX (P:Program) (hh:String→Bool) (f:FuncId) (args:List AV) (σ:St) (R:Out→Prop):Prop :=
 (∀ vs w,(callFunc f vs).run P w = .ok (.enter f vs) w) ∧
 ∀ {G:Gh} {w:World} {vs:Array Value},fU G w args vs→RelS P hh G w σ →
  CallsIn Fence.wide 0 P f vs w fun e w'=>∃ r G' u,e = .returned u∧R r∧RelV G' w' r.v u∧RelS P hh G' w' r.σ∧Evo G w G' w'
def l0 (P:Program) (hh:String→Bool) (f:AV) (args:List AV) (σ:St) (R:Out→Prop):Prop :=
 ∀ {G:Gh} {w:World} {fv:Value} {vs:Array Value},RelV G w f fv→fU G w args vs→RelS P hh G w σ →
  ∃ d nx w0,(Deferred.ofValue fv vs).run P w = .ok d w∧(invoke d.target d.args).run P w = .ok nx w0 ∧
   ∀ {F:Fence} (o:Oper) (a:Act) (next:Act→World→Prop) (Q:Exit→Act→World→Prop),FW F →
    (∀ r G' w' u,R r→RelV G' w' r.v u→RelS P hh G' w' r.σ→Evo G w G' w'→next (a.put o.dst u) w')→o.uponIn F 0 P a next Q (.ok nx w0)
theorem EC {f:FuncId} {first cap args:List AV} {R:Out→Prop} (h:EX P hh f (first++args++cap) σ R):l0 P hh (.func f first cap) args σ R:=by
 intro G w fv vs hf ha hS
 cases hf with
 |@func _ _ _ first' cap' e1 e2 e3 e4 =>
  have hargs:fU G w (first++args++cap) (first'++vs++cap'):=(fU.append (fU.append ⟨e1,e3⟩ ha) ⟨e2,e4⟩)
  refine ⟨{ target:=.fn (.func f) cap',args:=first'++vs },.enter f (first'++vs++cap'),w,by simp [Deferred.ofValue],by simp [invoke,h.1],fun o a next Q hF hn=>?_⟩
  refine ⟨fun h0=>absurd h0 hF.depth,(hF.calls (h.2 hargs hS)).mono fun e w' hr=>?_⟩
  obtain ⟨r,G',u,rfl,q1,q2,q3,q4⟩:=hr
  exact hn r G' w' u q1 q2 q3 q4
theorem NE {f:AV} {args:List AV} {R R':Out→Prop} (h:l0 P hh f args σ R) (hr:∀ r,R r→R' r):l0 P hh f args σ R':=by
 intro G w fv vs hf ha hS
 obtain ⟨d,nx,w0,h1,h2,h3⟩:=h hf ha hS
 exact ⟨d,nx,w0,h1,h2,fun o a next Q hF hn=>h3 o a next Q hF fun r G' w' u q=>hn r G' w' u (hr r q)⟩
theorem EQ {F:Fence} {o:Oper} {f:AOpd} {args:List AOpd} {R:Out→Prop} {next:Act→World→Prop} {Q:Exit→Act→World→Prop} (hF:FW F) (hc:bN P hh o.pos o.op=some (.call f args))
  (hE:eT G w n env a.tmps) (hS:RelS P hh G w σ) (h:l0 P hh (f.ev env) (args.map (·.ev env)) σ R)
  (hn:∀ r G' w' u,R r→RelV G' w' r.v u→RelS P hh G' w' r.σ→Evo G w G' w'→next (a.put o.dst u) w'):o.uponIn F 0 P a next Q ((execOp a.eval o).run P w):=by
 obtain ⟨c,fo,h1,h2,h3,h4⟩:=OZ hc
 obtain ⟨l,r⟩:=w8 (a:=a) h4 hE
 obtain ⟨d,nx,w0,q1,q2,q3⟩:=h (vs:=c.args.map a.eval) (cI (a:=a) h3 hE) ⟨by simpa using l,fun i x u e1 e2=>r i x u e1 (by simpa using e2)⟩ hS
 have:(execOp a.eval o).run P w = .ok nx w0:=by
  simp only [execOp,h1,resolve,h2]
  simp only [Sem.run_bind,q1,Result.andThen_ok,q2]
 rw [this]
 exact q3 o a next Q hF hn
end Go.Am
namespace Go.Am
variable {P:Program} {hh:String→Bool} {G G0 G1 G':Gh} {w w0 w1:World} {σ σ' σ1:St} {env env':Env} {n m:Nat} {v:AV} {a:Act}
theorem oR {α:Type} {p:α→Bool} {l:List α} {i j:Nat} {x:α} (h:i<j) (hx:l[i]? = some x) (hp:p x=true):(l.take i).countP p<(l.take j).countP p:=by
 have h1:(l.take (i+1)).countP p=(l.take i).countP p+1:=by
  rw [List.take_add_one,hx,List.countP_append]
  simp [hp]
 have h2:(l.take (i+1)).countP p≤(l.take j).countP p:=by
  have:l.take (i+1)=(l.take j).take (i+1):=by rw [List.take_take];congr 1;omega
  rw [this]
  exact (List.take_sublist _ _).countP_le
 omega
theorem tX:∀ (os:List AOper) (b q i:Nat),(((os.zipIdx b).filter fun p=>p.1.op.acts).map (·.2))[q]? = some i↔∃ p o,i=b+p∧os[p]? = some o∧o.op.acts=true∧q=(os.take p).countP (·.op.acts)
 |[],b,q,i=>by simp
 |o::os,b,q,i=>by
  have ih:=tX os (b+1)
  simp only [List.zipIdx_cons,List.filter_cons]
  by_cases ho:o.op.acts=true
  ·simp only [ho,if_true,List.map_cons]
   cases q with
   |zero =>
    simp only [List.getElem?_cons_zero,Option.some.injEq]
    constructor
    ·rintro rfl;exact ⟨0,o,by omega,rfl,ho,rfl⟩
    ·rintro ⟨p,o',h1,h2,h3,h4⟩
     cases p with
     |zero=>omega
     |succ p=>simp [List.countP_cons,ho] at h4
   |succ q =>
    simp only [List.getElem?_cons_succ,ih]
    constructor
    ·rintro ⟨p,o',h1,h2,h3,h4⟩
     exact ⟨p+1,o',by omega,by simpa using h2,h3,by simp [List.countP_cons,ho,h4]⟩
    ·rintro ⟨p,o',h1,h2,h3,h4⟩
     cases p with
     |zero=>simp at h4
     |succ p=>exact ⟨p,o',by omega,by simpa using h2,h3,by simpa [List.countP_cons,ho] using h4⟩
  ·simp only [ho,if_false,Bool.false_eq_true,ih]
   constructor
   ·rintro ⟨p,o',h1,h2,h3,h4⟩
    exact ⟨p+1,o',by omega,by simpa using h2,h3,by simp [List.countP_cons,ho,h4]⟩
   ·rintro ⟨p,o',h1,h2,h3,h4⟩
    cases p with
    |zero=>simp at h2;subst h2;exact absurd h3 ho
    |succ p=>exact ⟨p,o',by omega,by simpa using h2,h3,by simpa [List.countP_cons,ho] using h4⟩
theorem i5 {os:List AOper} {q i:Nat}:(cR os)[q]? = some i↔∃ o,os[i]? = some o∧o.op.acts=true∧q=(os.take i).countP (·.op.acts):=by
 have:=tX os 0 q i
 unfold cR
 rw [this]
 constructor
 ·rintro ⟨p,o,h1,h2,h3,h4⟩;have:i=p:=by omega
  subst this;exact ⟨o,h2,h3,h4⟩
 ·rintro ⟨o,h2,h3,h4⟩;exact ⟨i,o,by omega,h2,h3,h4⟩
theorem zL {os:List AOper}:(cR os).length=os.countP (·.op.acts):=by
 have h:∀ (os:List AOper) (b:Nat),(((os.zipIdx b).filter fun p=>p.1.op.acts).map (·.2)).length=os.countP (·.op.acts):=by
  intro os
  induction os with
  |nil=>intro b;rfl
  |cons o os ih =>
   intro b
   have:=ih (b+1)
   simp only [List.length_map] at this ⊢
   simp only [List.zipIdx_cons,List.filter_cons,List.countP_cons]
   split<;>simp_all
 exact h os 0
theorem wT {α:Type} {p:α→Bool}:∀ {l:List α} {m:Nat},m≤l.length→(∀ q x,q<m→l[q]? = some x→p x=true)→m≤(l.takeWhile p).length
 |[],m,h,_=>by simpa using h
 |x::l,0,_,_=>Nat.zero_le _
 |x::l,m+1,h,hp=>by
  have hx:p x=true:=hp 0 x (by omega) rfl
  have:=wT (l:=l) (m:=m) (by simpa using h) fun q y hq hy=>hp (q+1) y (by omega) (by simpa using hy)
  simp [hx,this]
theorem FB {α:Type} {p:α→Bool}:∀ {l:List α} {m:Nat},(∀ q x,l[q]? = some x→p x=true→q<m)→(l.filter p).length≤m
 |[],m,_=>Nat.zero_le _
 |x::l,m,h=>by
  cases m with
  |zero =>
   have:(x::l).filter p=[]:=by
    rw [List.filter_eq_nil_iff]
    intro y hy hpy
    obtain ⟨q,hq⟩:=List.getElem?_of_mem hy
    have:=h q y hq hpy
    omega
   rw [this]
   simp
  |succ m =>
   have:=FB (l:=l) (p:=p) (m:=m) fun q y hq hy=>by have:=h (q+1) y (by simpa using hq) hy;omega
   simp only [List.filter_cons]
   split
   ·simp;omega
   ·omega
theorem P9 {md:Region.Mode} {e:Edge} (h:Region.binds .any e=true):Region.binds md e=true:=by
 unfold Region.binds at *
 cases hg:e.ground<;>simp [hg] at h ⊢
def HW (l:List Oper) (acc:Array Nat):Prop :=
 acc.size=l.length∧∀ (j:Nat) (o:Oper) (i:Nat),l[j]? = some o→(acc.getD j 0).testBit i=true→∃ e∈o.after.toList,Region.binds .any e=true∧(i=e.on∨(e.on<j∧(acc.getD e.on 0).testBit i=true))
theorem wY (acc:Array Nat) (i:Nat):∀ (es:List Edge) (s:Nat),(es.foldl (fun s e=>if Region.binds .any e then s|||2^e.on|||acc.getD e.on 0 else s) s).testBit i=true →
  s.testBit i=true∨∃ e∈es,Region.binds .any e=true∧(i=e.on∨(acc.getD e.on 0).testBit i=true)
 |[],s,h=>.inl h
 |e::es,s,h=>by
  rcases wY acc i es _ h with h|⟨e',h1,h2⟩
  ·dsimp only at h
   split at h
   ·rename_i hb
    simp only [Nat.testBit_or,Bool.or_eq_true,Nat.testBit_two_pow,decide_eq_true_eq] at h
    rcases h with (h|h)|h
    ·exact .inl h
    ·exact .inr ⟨e,by simp,hb,.inl h.symm⟩
    ·exact .inr ⟨e,by simp,hb,.inr h⟩
   ·exact .inl h
  ·exact .inr ⟨e',by simp [h1],h2⟩
theorem sN (acc:Array Nat) (x i:Nat) (h:i<acc.size):(acc.push x).getD i 0=acc.getD i 0:=by
 simp [Array.getD_eq_getD_getElem?,Array.getElem?_push,show i≠acc.size by omega]
theorem KC {l:List Oper} {acc:Array Nat} (h:HW l acc) (o:Oper) :
  HW (l++[o]) (acc.push (o.after.foldl (fun s e=>if Region.binds .any e then s|||2^e.on|||acc.getD e.on 0 else s) 0)):=by
 obtain ⟨h1,h2⟩:=h
 refine ⟨by simp [h1],fun j o' i hj hb=>?_⟩
 by_cases hlt:j<acc.size
 ·rw [sN _ _ _ hlt] at hb
  rw [List.getElem?_append_left (by omega)] at hj
  obtain ⟨e,e1,e2,e3⟩:=h2 j o' i hj hb
  refine ⟨e,e1,e2,e3.imp id fun q=>⟨q.1,?_⟩⟩
  rw [sN _ _ _ (by omega)]
  exact q.2
 ·rw [List.getElem?_append_right (by omega)] at hj
  have hj0:j=acc.size:=by
   have:=(List.getElem?_eq_some_iff.1 hj).1
   simp at this
   omega
  subst hj0
  rw [h1,Nat.sub_self] at hj
  simp at hj
  subst hj
  rw [Array.getD_eq_getD_getElem?,Array.getElem?_push_size] at hb
  simp only [Option.getD_some] at hb
  rw [←Array.foldl_toList] at hb
  rcases wY acc i _ _ hb with hb|⟨e,e1,e2,e3⟩
  ·simp at hb
  ·refine ⟨e,e1,e2,e3.imp id fun q=>?_⟩
   have hlt:e.on<acc.size:=by
    rcases Nat.lt_or_ge e.on acc.size with h'|h'
    ·exact h'
    ·rw [Array.getD_eq_getD_getElem?,Array.getElem?_eq_none h'] at q;simp at q
   exact ⟨hlt,by rw [sN _ _ _ hlt];exact q⟩
theorem H2 (ops:Array Oper):HW ops.toList (Region.before ops):=by
 have h:∀ (l pre:List Oper) (acc:Array Nat),HW pre acc→HW (pre++l) (l.foldl (fun acc o=>acc.push (o.after.foldl (fun s e=>if Region.binds .any e then s|||2^e.on|||acc.getD e.on 0 else s) 0)) acc):=by
  intro l
  induction l with
  |nil=>intro pre acc h;simpa using h
  |cons o l ih =>
   intro pre acc h
   have:=ih (pre++[o]) _ (KC h o)
   simpa using this
 have:=h ops.toList [] #[] ⟨rfl,fun j o i hj=>by simp at hj⟩
 unfold Region.before
 rw [←Array.foldl_toList]
 simpa using this
theorem vB {ops:Array Oper} {L:Nat→Prop} (hc:∀ (j:Nat) (o:Oper),ops[j]? = some o→L j→∀ e∈o.after.toList,Region.binds .any e=true→L e.on) :
  ∀ (j:Nat) (o:Oper),ops[j]? = some o→(∀ e∈o.after.toList,Region.binds .any e=true→L e.on)→∀ i,((Region.before ops).getD j 0).testBit i=true→L i:=by
 have hs:=H2 ops
 intro j
 induction j using Nat.strongRecOn with
 |_ j ih =>
  intro o ho hl i hb
  obtain ⟨e,e1,e2,e3⟩:=hs.2 j o i (by simpa using ho) hb
  rcases e3 with rfl|⟨q1,q2⟩
  ·exact hl e e1 e2
  ·have hlt:e.on<ops.size:=by
    have:=hs.1
    have h':e.on<(Region.before ops).size:=by
     rcases Nat.lt_or_ge e.on (Region.before ops).size with h'|h'
     ·exact h'
     ·rw [Array.getD_eq_getD_getElem?,Array.getElem?_eq_none h'] at q2;simp at q2
    simpa [this] using h'
   exact ih e.on q1 ops[e.on] (Array.getElem?_eq_getElem hlt) (hc _ _ (Array.getElem?_eq_getElem hlt) (hl e e1 e2)) i q2
theorem M0 {md:Region.Mode} {ops:Array Oper} {listed:Array Bool} (he:sC md ops=true) (hsz:listed.size=ops.size) (hr:Region.ready md ops listed=[]):∀ i,i<ops.size→listed.getD i false=true:=by
 unfold sC at he
 simp only [List.all_eq_true,List.mem_range] at he
 have key:∀ k i,i<ops.size→M5 md ops i=k→listed.getD i false=true:=by
  intro k
  induction k using Nat.strongRecOn with
  |_ k ih =>
   intro i hi hk
   have h2:=he i hi
   have ho:ops[i]? = some ops[i]:=Array.getElem?_eq_getElem hi
   rw [ho] at h2
   simp only [Option.map_some,Option.getD_some,List.all_eq_true] at h2
   cases hl:listed.getD i false with
   |true=>rfl
   |false =>
    exfalso
    have hmem:i∈Region.ready md ops listed:=by
     rw [mem_ready]
     refine ⟨?_,ops[i],ho,fun e hm hb=>?_⟩
     ·rw [Array.getD_eq_getD_getElem?,Array.getElem?_eq_getElem (by omega)] at hl ⊢
      exact hl
     ·have:=h2 e (by simpa using hm)
      simp only [hb,Bool.not_true,Bool.false_or,Bool.and_eq_true,decide_eq_true_eq] at this
      obtain ⟨q1,q2⟩:=this
      exact ih _ (by omega) e.on q1 rfl
    rw [hr] at hmem
    cases hmem
 exact fun i hi=>key _ i hi rfl
def tM (P:Program) (hh:String→Bool) (hist:List St) (d:ADOper) (env:Env) (k next:Nat) (v:AV):Prop :=
  (d.o.wanted env=some false∧v = .tuple []∧(d.o.op.acts=true→∃ s,hist[k]? = some s∧hist[k+1]? = some s)) ∨
  (d.o.wanted env=some true ∧
    ((∃ z,d.o.op = .alloc z∧v = .ptr next 0) ∨
     (d.o.op.acts=false∧d.o.op.allocs=false∧d.o.op.reads=false∧∃ s s',aop d.o.op env s=some (v,s')) ∨
     (d.o.op.reads=true∧∀ j s,d.lo≤j→j≤d.hi→hist[j]? = some s→aop d.o.op env s=some (v,s)) ∨
     (d.o.op.acts=true∧∃ s s',hist[k]? = some s∧hist[k+1]? = some s'∧aop d.o.op env s=some (v,s')) ∨
     (∃ f args s s',d.o.op = .call f args∧hist[k]? = some s∧hist[k+1]? = some s'∧l0 P hh (f.ev env) (args.map (·.ev env)) s (fun r=>r.v=v∧r.σ=s'))))
def qS (P:Program) (hh:String→Bool) (hist:List St):List ADOper→Env→Nat→Nat→List AV→Prop
 |[],_,_,_,vs=>vs=[]
 |d::ds,env,k,next,v::vs=>tM P hh hist d env k next v∧qS P hh hist ds (Env.put env d.o.dst v) (if d.o.op.acts then k+1 else k) (if d.o.op.allocs then next+1 else next) vs
 |_::_,_,_,_,[]=>False
def dM:List ADOper→Env→List AV→Env
 |d::ds,env,v::vs=>dM ds (Env.put env d.o.dst v) vs
 |_,env,_=>env
theorem yP {hist:List St}:∀ {ds:List ADOper} {env:Env} {k next:Nat} {vs:List AV},qS P hh hist ds env k next vs→vs.length=ds.length∧∀ (i:Nat) (d:ADOper),ds[i]? = some d →
  ∃ v,vs[i]? = some v∧tM P hh hist d (dM (ds.take i) env vs) (k+(ds.take i).countP (·.o.op.acts)) (next+(ds.take i).countP (·.o.op.allocs)) v
 |[],env,k,next,vs,h=>by
  simp only [qS] at h
  subst h
  exact ⟨rfl,fun i d e=>by simp at e⟩
 |d::ds,env,k,next,[],h=>h.elim
 |d::ds,env,k,next,v::vs,h=>by
  obtain ⟨h1,h2⟩:=h
  obtain ⟨l,r⟩:=yP h2
  refine ⟨by simp [l],fun i d' e=>?_⟩
  cases i with
  |zero =>
   simp at e
   subst e
   exact ⟨v,rfl,by simpa [dM] using h1⟩
  |succ i =>
   simp at e
   obtain ⟨v',q1,q2⟩:=r i d' e
   refine ⟨v',by simpa using q1,?_⟩
   simp only [List.take_succ_cons,dM,List.countP_cons]
   have e1:(if d.o.op.acts then k+1 else k)+(ds.take i).countP (·.o.op.acts)=k+((ds.take i).countP (·.o.op.acts)+if d.o.op.acts=true then 1 else 0):=by split<;>omega
   have e2:(if d.o.op.allocs then next+1 else next)+(ds.take i).countP (·.o.op.allocs)=next+((ds.take i).countP (·.o.op.allocs)+if d.o.op.allocs=true then 1 else 0):=by split<;>omega
   rw [←e1,←e2]
   exact q2
theorem mW {t:Nat}:∀ {ds:List ADOper} {env:Env} {vs:List AV},(∀ (j:Nat) (d:ADOper),ds[j]? = some d→d.o.dst≠some t)→Env.get (dM ds env vs) t=Env.get env t
 |[],env,vs,_=>rfl
 |d::ds,env,[],_=>rfl
 |d::ds,env,v::vs,h=>by
  simp only [dM]
  rw [mW fun j d' e=>h (j+1) d' (by simpa using e)]
  have:=h 0 d rfl
  cases hd:d.o.dst with
  |none=>rfl
  |some t' =>
   have:t'≠t:=fun e=>this (by rw [hd,e])
   simp [Env.put,Env.get,this]
theorem rH {t:Nat}:∀ {ds:List ADOper} {env:Env} {vs:List AV} {j:Nat} {d:ADOper} {v:AV},ds[j]? = some d→d.o.dst=some t→vs[j]? = some v →
  (∀ (j':Nat) (d':ADOper),j'≠j→ds[j']? = some d'→d'.o.dst≠some t)→Env.get (dM ds env vs) t=v
 |[],env,vs,j,d,v,h,_,_,_=>by simp at h
 |d0::ds,env,[],j,d,v,_,_,h,_=>by simp at h
 |d0::ds,env,v0::vs,0,d,v,h1,h2,h3,h4=>by
  simp at h1 h3
  subst h1
  subst h3
  simp only [dM]
  rw [mW fun j d' e=>h4 (j+1) d' (by omega) (by simpa using e),h2]
  simp [Env.put,Env.get]
 |d0::ds,env,v0::vs,j+1,d,v,h1,h2,h3,h4=>by
  simp only [dM]
  exact rH (by simpa using h1) h2 (by simpa using h3) fun j' d' hne e=>h4 (j'+1) d' (by omega) (by simpa using e)
theorem CA:∀ {ds:List ADOper} {j:Nat} {d:ADOper} {z:List AV},ds[j]? = some d→d.o.op = .alloc z→(dX ds)[(ds.take j).countP (·.o.op.allocs)]? = some (.cells z)
 |[],j,d,z,h,_=>by simp at h
 |d0::ds,0,d,z,h,hz=>by
  simp at h
  subst h
  simp [dX,hz]
 |d0::ds,j+1,d,z,h,hz=>by
  have ih:=CA (ds:=ds) (j:=j) (by simpa using h) hz
  have e:(d0.o.op.allocs=true∧∃ z,dX (d0::ds) = .cells z::dX ds)∨(d0.o.op.allocs=false∧dX (d0::ds)=dX ds):=by
   simp only [dX,List.filterMap_cons]
   cases d0.o.op<;>first|exact .inr ⟨rfl,rfl⟩|exact .inl ⟨rfl,_,rfl⟩
  simp only [List.take_succ_cons,List.countP_cons]
  rcases e with ⟨e1,z',e2⟩|⟨e1,e2⟩
  ·rw [e2,e1]
   simpa using ih
  ·rw [e2,e1]
   simpa using ih
theorem tI (before:Array Nat) (os:List AOper):(iS before os).map (·.o)=os:=by
 have h:∀ (os:List AOper) (k:Nat) (f:AOper×Nat→ADOper),(∀ p,(f p).o=p.1)→((os.zipIdx k).map f).map (·.o)=os:=by
  intro os
  induction os with
  |nil=>intro k f _;rfl
  |cons o os ih=>intro k f hf;simp only [List.zipIdx_cons,List.map_cons,hf];rw [ih (k+1) f hf]
 exact h os 0 _ fun p=>rfl
theorem pK {before:Array Nat} {os:List AOper} {i:Nat} {d:ADOper} (h:(iS before os)[i]? = some d) :
  os[i]? = some d.o∧d.lo=((cR os).filter fun a=>(before.getD i 0).testBit a).length∧d.hi=((cR os).takeWhile fun a=>!(before.getD a 0).testBit i).length:=by
 unfold iS at h
 simp only [List.getElem?_map,List.getElem?_zipIdx,Nat.zero_add,Option.map_map] at h
 cases ho:os[i]? with
 |none=>simp [ho] at h
 |some o=>simp [ho] at h;subst h;exact ⟨rfl,by simp,by simp⟩
theorem D3 {before:Array Nat} {os:List AOper} (p:AOp→Bool) (i:Nat):((iS before os).take i).countP (fun d=>p d.o.op)=(os.take i).countP (fun o=>p o.op):=by
 conv=>rhs;rw [←tI before os]
 rw [←List.map_take,List.countP_map]
 rfl
structure Drawn (before:Array Nat) (os:List AOper):Prop where
 one:∀ (i j:Nat) (o o':AOper) (t:Nat),os[i]? = some o→os[j]? = some o'→i≠j→o.dst=some t→o'.dst≠some t
 uses:∀ (i:Nat) (o:AOper) (t j:Nat) (o':AOper),os[i]? = some o→t∈o.tmps→os[j]? = some o'→o'.dst=some t→(j<i∧(before.getD i 0).testBit j=true)∨(i<j∧(before.getD j 0).testBit i=true)
 acts:∀ (q q' i j:Nat),(cR os)[q]? = some i→(cR os)[q']? = some j→i<j→(before.getD j 0).testBit i=true
theorem KR {before:Array Nat} {os:List AOper} (h:CE before os=true):Drawn before os:=by
 unfold CE at h
 simp only [Bool.and_eq_true,List.all_eq_true] at h
 obtain ⟨⟨h1,h2⟩,h3⟩:=h
 refine ⟨fun i j o o' t e1 e2 hne hd hd'=>?_,fun i o t j o' e1 ht e2 hd=>?_,fun q q' i j e1 e2 hlt=>?_⟩
 ·have:=h1 (o,i) (List.mem_zipIdx_iff_getElem?.2 e1) (o',j) (List.mem_zipIdx_iff_getElem?.2 e2)
  simp [hd,hd',hne] at this
 ·have:=h2 (o,i) (List.mem_zipIdx_iff_getElem?.2 e1) t ht (o',j) (List.mem_zipIdx_iff_getElem?.2 e2)
  simpa [hd] using this
 ·have:=h3 i (List.mem_of_getElem? e1) j (List.mem_of_getElem? e2)
  simpa [hlt] using this
theorem pP {ops:Array Oper}:∀ {l:List Oper} {os:List AOper},gK P hh n ops l=some os→os.length=l.length∧∀ (i:Nat) (o:Oper),l[i]? = some o→∃ d,os[i]? = some d∧mT P hh n ops o=some d
 |[],os,h=>by simp [gK] at h;subst h;exact ⟨rfl,fun i o e=>by simp at e⟩
 |o::l,os,h=>by
  simp only [gK] at h
  split at h
  ·rename_i d ds h1 h2
   cases h
   obtain ⟨q1,q2⟩:=pP h2
   refine ⟨by simp [q1],fun i o' e=>?_⟩
   cases i with
   |zero=>simp at e;subst e;exact ⟨d,rfl,h1⟩
   |succ i=>simp at e;simpa using q2 i o' e
  ·cases h
end Go.Am
namespace Go.Am
variable {P:Program} {hh:String→Bool} {G G0 G1 G':Gh} {w w0 w1 w':World} {σ σ' σ1:St} {env env':Env} {n m m':Nat} {v:AV} {a:Act}
def OR:Option AJump→Exit
 |none=>.normal
 |some .ret=>.ret
 |some (.exit id)=>.exit id
def rC (P:Program) (hh:String→Bool) (G:Gh) (w:World) (n B:Nat) (Q:Out→Prop):Exit→Act→World→Prop:=fun e a' w' =>
 ∃ o G',Q o∧e=OR o.j∧eT G' w' n o.env a'.tmps∧RelS P hh G' w' o.σ∧Evo G w G' w'∧qI G' B a'.defers
structure Ctx (P:Program) (hh:String→Bool) (ops:Array Oper) (os:List AOper) (ds:List ADOper) (n:Nat) (hist:List St) (vs:List AV) (env:Env) (σ:St):Prop where
 comp:gK P hh n ops ops.toList=some os
 dsEq:ds=iS (Region.before ops) os
 drawn:Drawn (Region.before ops) os
 facts:qS P hh hist ds env 0 σ.length vs
structure DInv (P:Program) (hh:String→Bool) (ops:Array Oper) (os:List AOper) (ds:List ADOper) (n:Nat) (hist:List St) (vs:List AV) (env:Env) (σ:St) (G0:Gh) (w0:World) (dfs:List Deferred)
  (listed:Array Bool) (m:Nat) (a:Act) (w:World) (G:Gh):Prop where
 size:listed.size=ops.size
 closed:∀ (j:Nat) (o:Oper),ops[j]? = some o→listed.getD j false=true→∀ e∈o.after.toList,Region.binds .any e=true→listed.getD e.on false=true
 acts:∀ (q i:Nat),(cR os)[q]? = some i→(listed.getD i false=true↔q<m)
 mle:m≤(cR os).length
 rel:∃ s,hist[m]? = some s∧RelS P hh G w s
 evo:Evo G0 w0 G w
 tsize:a.tmps.size=n
 tset:∀ (j:Nat) (d:ADOper) (t:Nat) (v:AV),listed.getD j false=true→ds[j]? = some d→d.o.dst=some t→vs[j]? = some v→RelV G w v (a.tmps.getD t undef)
 told:∀ t,(∀ (j:Nat) (d:ADOper),listed.getD j false=true→ds[j]? = some d→d.o.dst≠some t)→RelV G w (Env.get env t) (a.tmps.getD t undef)
 res:∀ (j:Nat) (d:ADOper) (z:List AV),listed.getD j false=false→ds[j]? = some d→d.o.op = .alloc z→G.res (σ.length+(ds.take j).countP (·.o.op.allocs))=some (some z)
 defers:a.defers=dfs
section
variable {ops:Array Oper} {os:List AOper} {ds:List ADOper} {hist:List St} {vs:List AV} {dfs:List Deferred} {listed:Array Bool} {md:Region.Mode}
theorem GH (hc:Ctx P hh ops os ds n hist vs env σ):os.length=ops.size∧ds.length=ops.size:=by
 have h1:=(pP hc.comp).1
 have h2:ds.map (·.o)=os:=by rw [hc.dsEq];exact tI _ _
 have h3:=congrArg List.length h2
 simp at h1 h3
 omega
theorem WA (hc:Ctx P hh ops os ds n hist vs env σ) {i:Nat} {o:Oper} (ho:ops[i]? = some o) :
  ∃ d,ds[i]? = some d∧os[i]? = some d.o∧mT P hh n ops o=some d.o∧d.lo=((cR os).filter fun a=>((Region.before ops).getD i 0).testBit a).length ∧
   d.hi=((cR os).takeWhile fun a=>!((Region.before ops).getD a 0).testBit i).length:=by
 obtain ⟨x,h1,h2⟩:=(pP hc.comp).2 i o (by simpa using ho)
 have hi:i<ds.length:=by rw [(GH hc).2];exact (Array.getElem?_eq_some_iff.1 ho).1
 have hd:ds[i]? = some ds[i]:=List.getElem?_eq_getElem hi
 have hw:(iS (Region.before ops) os)[i]? = some ds[i]:=by rw [←hc.dsEq];exact hd
 obtain ⟨q1,q2,q3⟩:=pK hw
 rw [h1] at q1
 cases q1
 exact ⟨_,hd,h1,h2,q2,q3⟩
theorem uJ {b:Bool} {i j:Nat} (h:j≠i):(listed.setIfInBounds i true).getD j b=listed.getD j b:=by
 simp [Array.getD_eq_getD_getElem?,Array.getElem?_setIfInBounds_ne (Ne.symm h)]
theorem yZ {b:Bool} {i:Nat} (h:i<listed.size):(listed.setIfInBounds i true).getD i b=true:=by
 simp [Array.getD_eq_getD_getElem?,Array.getElem?_setIfInBounds_self,h]
theorem HH {i:Nat} (h:i<listed.size):listed.getD i true=listed.getD i false:=by
 simp [Array.getD_eq_getD_getElem?,Array.getElem?_eq_getElem h]
theorem DInv.next {i:Nat} {o:Oper} {d:ADOper} {u:Value} {s':St} (hc:Ctx P hh ops os ds n hist vs env σ) (h:DInv P hh ops os ds n hist vs env σ G0 w0 dfs listed m a w G)
  (ho:ops[i]? = some o) (hi:listed.getD i false=false) (hall:∀ e∈o.after.toList,Region.binds .any e=true→listed.getD e.on false=true) (hd:ds[i]? = some d) (hcomp:mT P hh n ops o=some d.o)
  (hv:vs[i]? = some v) (hmono:∀ (x:AV) (u:Value),RelV G w x u→RelV G' w' x u) (hevo:Evo G0 w0 G' w') (hs:hist[m']? = some s') (hS:RelS P hh G' w' s')
  (hm:(d.o.op.acts=true∧(cR os)[m]? = some i∧m'=m+1)∨(d.o.op.acts=false∧m'=m))
  (hres:∀ (j:Nat) (d':ADOper) (z:List AV),j≠i→ds[j]? = some d'→d'.o.op = .alloc z→G.res (σ.length+(ds.take j).countP (·.o.op.allocs))=some (some z)→G'.res (σ.length+(ds.take j).countP (·.o.op.allocs))=some (some z))
  (hu:RelV G' w' v u):DInv P hh ops os ds n hist vs env σ G0 w0 dfs (listed.setIfInBounds i true) m' (a.put o.dst u) w' G':=by
 obtain ⟨c1,c2,c3,c4⟩:=gZ hcomp
 have hin:i<ops.size:=(Array.getElem?_eq_some_iff.1 ho).1
 have hil:i<listed.size:=by rw [h.size];exact hin
 have hosd:∀ (j:Nat) (d:ADOper),ds[j]? = some d→os[j]? = some d.o:=fun j d e=>by
  have:(iS (Region.before ops) os)[j]? = some d:=by rw [←hc.dsEq];exact e
  exact (pK this).1
 have lst:∀ j,(listed.setIfInBounds i true).getD j false=true↔(j=i∨listed.getD j false=true):=by
  intro j
  by_cases hj:j=i
  ·subst hj;simp only [yZ hil,true_or]
  ·simp only [uJ hj,hj,false_or]
 have putne:∀ t,o.dst≠some t→(a.put o.dst u).tmps.getD t undef=a.tmps.getD t undef:=by
  intro t ht
  cases hdst:o.dst with
  |none=>rfl
  |some t' =>
   have:t'≠t:=fun e=>ht (by rw [hdst,e])
   simp [Act.put,Array.getD_eq_getD_getElem?,Array.getElem?_setIfInBounds_ne this]
 have putself:∀ t,o.dst=some t→(a.put o.dst u).tmps.getD t undef=u:=by
  intro t ht
  have:t<a.tmps.size:=by rw [h.tsize];exact c3 t ht
  rw [ht]
  simp [Act.put,Array.getD_eq_getD_getElem?,Array.getElem?_setIfInBounds_self,this]
 refine ⟨by simpa using h.size,fun j o' ho' hl e he hb=>?_,fun q i' hq=>?_,?_,⟨s',hs,hS⟩,hevo,?_,fun j d' t v' hl hd' hdst hv'=>?_,fun t ht=>?_,fun j d' z hl hd' hz=>?_,?_⟩
 ·rw [lst] at hl ⊢
  rcases hl with rfl|hl
  ·rw [ho] at ho'
   cases ho'
   exact .inr (hall e he hb)
  ·exact .inr (h.closed j o' ho' hl e he hb)
 ·rw [lst]
  rcases hm with ⟨h1,h2,rfl⟩|⟨h1,rfl⟩
  ·by_cases hi':i'=i
   ·subst hi'
    have:q=m:=by
     obtain ⟨_,_,_,q1⟩:=i5.1 hq
     obtain ⟨_,_,_,q2⟩:=i5.1 h2
     rw [q1,q2]
    simp [this]
   ·have hqm:q≠m:=fun e=>by subst e;rw [h2] at hq;cases hq;exact hi' rfl
    rw [h.acts q i' hq]
    simp only [hi',false_or]
    omega
  ·have hi':i'≠i:=fun e=>by
    subst e
    obtain ⟨x,q1,q2,_⟩:=i5.1 hq
    rw [hosd _ _ hd] at q1
    cases q1
    rw [h1] at q2
    cases q2
   simp only [hi',false_or]
   exact h.acts q i' hq
 ·rcases hm with ⟨h1,h2,rfl⟩|⟨h1,rfl⟩
  ·exact (List.getElem?_eq_some_iff.1 h2).1
  ·exact h.mle
 ·have:=h.tsize
  cases hdst:o.dst<;>simp [Act.put,this]
 ·rw [lst] at hl
  by_cases hji:j=i
  ·subst hji
   rw [hd] at hd'
   cases hd'
   rw [hv] at hv'
   cases hv'
   rw [putself t (by rw [←c2];exact hdst)]
   exact hu
  ·have hl:=hl.resolve_left hji
   rw [putne t fun e=>hc.drawn.one j i _ _ t (hosd _ _ hd') (hosd _ _ hd) hji hdst (by rw [c2];exact e)]
   exact hmono _ _ (h.tset j d' t v' hl hd' hdst hv')
 ·have hne:o.dst≠some t:=fun e=>ht i d ((lst i).2 (.inl rfl)) hd (by rw [c2];exact e)
  rw [putne t hne]
  exact hmono _ _ (h.told t fun j d' hl hd'=>ht j d' ((lst j).2 (.inr hl)) hd')
 ·have hji:j≠i:=fun e=>by subst e;rw [yZ hil] at hl;cases hl
  rw [uJ hji] at hl
  exact hres j d' z hji hd' hz (h.res j d' z hl hd' hz)
 ·have:=h.defers
  cases hdst:o.dst<;>simpa [Act.put] using this
theorem DInv.step {F:Fence} {i:Nat} {K:Act→World→Prop} {Q:Exit→Act→World→Prop} (hF:FW F) (hc:Ctx P hh ops os ds n hist vs env σ) (h:DInv P hh ops os ds n hist vs env σ G0 w0 dfs listed m a w G) (h0:∀ id r,G0.res id=some r→id<σ.length)
  (hr:i∈Region.ready md ops listed) (hK:∀ m' a' w' G',DInv P hh ops os ds n hist vs env σ G0 w0 dfs (listed.setIfInBounds i true) m' a' w' G'→K a' w'):wpOpIn F 0 P ops Q i K a w:=by
 obtain ⟨hl0,o,ho,hall0⟩:=mem_ready.1 hr
 have hin:i<ops.size:=(Array.getElem?_eq_some_iff.1 ho).1
 have hi:listed.getD i false=false:=by rw [←HH (by rw [h.size];exact hin)];exact hl0
 have hall:∀ e∈o.after.toList,Region.binds .any e=true→listed.getD e.on false=true:=fun e he hb=>hall0 e (by simpa using he) (P9 hb)
 obtain ⟨d,hd,hos,hcomp,hlo,hhi⟩:=WA hc ho
 obtain ⟨c1,c2,c3,c4⟩:=gZ hcomp
 obtain ⟨flen,fget⟩:=yP hc.facts
 obtain ⟨v,hv,fact⟩:=fget i d hd
 have hbef:∀ k,((Region.before ops).getD i 0).testBit k=true→listed.getD k false=true:=vB (L:=fun j=>listed.getD j false=true) h.closed i o ho hall
 have hbefL:∀ j,listed.getD j false=true→∀ k,((Region.before ops).getD j 0).testBit k=true→listed.getD k false=true:=by
  intro j hj k hk
  have hjn:j<ops.size:=by
   rcases Nat.lt_or_ge j ops.size with h'|h'
   ·exact h'
   ·rw [Array.getD_eq_getD_getElem?,Array.getElem?_eq_none (by rw [h.size];exact h')] at hj;simp at hj
  exact vB (L:=fun j=>listed.getD j false=true) h.closed j _ (Array.getElem?_eq_getElem hjn) (h.closed j _ (Array.getElem?_eq_getElem hjn) hj) k hk
 have hosd:∀ (j:Nat) (d:ADOper),ds[j]? = some d→os[j]? = some d.o:=fun j d e=>by
  have:(iS (Region.before ops) os)[j]? = some d:=by rw [←hc.dsEq];exact e
  exact (pK this).1
 -- what the text's environment has is what the machine's has
 have look:∀ t∈d.o.tmps,RelV G w (Env.get (dM (ds.take i) env vs) t) (a.tmps.getD t undef):=by
  intro t ht
  by_cases hw:∃ (j:Nat) (d':ADOper),ds[j]? = some d'∧d'.o.dst=some t
  ·obtain ⟨j,d',hj,hdst⟩:=hw
   have uniq:∀ (j':Nat) (e:ADOper),j'≠j→ds[j']? = some e→e.o.dst≠some t:=fun j' e hne he=>hc.drawn.one j j' _ _ t (hosd _ _ hj) (hosd _ _ he) (Ne.symm hne) hdst
   rcases hc.drawn.uses i _ t j _ hos ht (hosd _ _ hj) hdst with ⟨hlt,hb⟩|⟨hlt,hb⟩
   ·obtain ⟨vj,hvj,_⟩:=fget j d' hj
    have he:Env.get (dM (ds.take i) env vs) t=vj:=by
     refine rH (j:=j) (d:=d') ?_ hdst hvj fun j' e hne he=>uniq j' e hne ?_
     ·rw [List.getElem?_take_of_lt hlt];exact hj
     ·rw [List.getElem?_take] at he
      split at he
      ·exact he
      ·cases he
    rw [he]
    exact h.tset j d' t vj (hbef j hb) hj hdst hvj
   ·have he:Env.get (dM (ds.take i) env vs) t=Env.get env t:=by
     refine mW fun j' e he=>?_
     rw [List.getElem?_take] at he
     split at he
     ·exact uniq j' e (by omega) he
     ·cases he
    rw [he]
    refine h.told t fun j' e hl he hdst'=>?_
    by_cases hjj:j'=j
    ·subst hjj
     have:=hbefL _ hl i hb
     rw [hi] at this
     cases this
    ·exact uniq j' e hjj he hdst'
  ·have he:Env.get (dM (ds.take i) env vs) t=Env.get env t:=by
    refine mW fun j' e he hdst=>hw ⟨j',e,?_,hdst⟩
    rw [List.getElem?_take] at he
    split at he
    ·exact he
    ·cases he
   rw [he]
   exact h.told t fun j' e _ he hdst=>hw ⟨j',e,he,hdst⟩
 obtain ⟨E,hEdef⟩:∃ E:Env,E=d.o.tmps.map fun t=>(t,Env.get (dM (ds.take i) env vs) t):=⟨_,rfl⟩
 have hEget:∀ t,(t∈d.o.tmps→Env.get E t=Env.get (dM (ds.take i) env vs) t)∧(t∉d.o.tmps→Env.get E t = .undef):=by
  intro t
  rw [hEdef]
  generalize d.o.tmps=ts
  induction ts with
  |nil=>exact ⟨fun h=>by simp at h,fun _=>rfl⟩
  |cons x ts ih =>
   simp only [List.map_cons,Env.get]
   by_cases hx:x=t
   ·subst hx
    simp
   ·rw [if_neg hx]
    refine ⟨fun hm=>ih.1 ?_,fun hm=>ih.2 fun h=>hm (List.mem_cons_of_mem _ h)⟩
    rcases List.mem_cons.1 hm with e|e
    ·exact absurd e.symm hx
    ·exact e
 have hE:eT G w n E a.tmps:=by
  refine ⟨h.tsize,fun t=>?_⟩
  by_cases ht:t∈d.o.tmps
  ·rw [(hEget t).1 ht];exact look t ht
  ·rw [(hEget t).2 ht];exact .undef _
 have hcongr:∀ t∈d.o.op.tmps,Env.get E t=Env.get (dM (ds.take i) env vs) t:=fun t ht=>(hEget t).1 (by unfold AOper.tmps;exact List.mem_append_left _ ht)
 have hguard:∀ t want,d.o.guard=some (t,want)→RelV G w (Env.get (dM (ds.take i) env vs) t) (a.tmps.getD t undef):=fun t want hg=>look t (by unfold AOper.tmps;rw [hg];simp)
 obtain ⟨s,hs,hS⟩:=h.rel
 -- which acting operation this is
 have hact:d.o.op.acts=true→(cR os)[m]? = some i∧(ds.take i).countP (·.o.op.acts)=m:=by
  intro ha
  have hq:(cR os)[(os.take i).countP (·.op.acts)]? = some i:=i5.2 ⟨d.o,hos,ha,rfl⟩
  have hcnt:(ds.take i).countP (·.o.op.acts)=(os.take i).countP (·.op.acts):=by rw [hc.dsEq];exact D3 _ i
  have hge:m≤(os.take i).countP (·.op.acts):=by
   rcases Nat.lt_or_ge ((os.take i).countP (·.op.acts)) m with hlt|hge
   ·have:=(h.acts _ _ hq).2 hlt
    rw [hi] at this
    cases this
   ·exact hge
  have hle:(os.take i).countP (·.op.acts)≤m:=by
   rcases Nat.lt_or_ge m ((os.take i).countP (·.op.acts)) with hlt|hge
   ·exfalso
    have hml:m<(cR os).length:=by have:=(List.getElem?_eq_some_iff.1 hq).1;omega
    obtain ⟨i',hi'⟩:∃ i',(cR os)[m]? = some i':=⟨_,List.getElem?_eq_getElem hml⟩
    have hlt':i'<i:=by
     obtain ⟨x,q1,q2,q3⟩:=i5.1 hi'
     rcases Nat.lt_trichotomy i' i with h'|h'|h'
     ·exact h'
     ·subst h';omega
     ·have:=oR (p:=fun o:AOper=>o.op.acts) h' hos ha
      omega
    have:=hbef i' (hc.drawn.acts m _ i' i hi' hq hlt')
    have:=(h.acts m i' hi').1 this
    omega
   ·exact hge
  have:(os.take i).countP (·.op.acts)=m:=by omega
  exact ⟨by rw [←this];exact hq,by rw [hcnt,this]⟩
 have hkeep:∀ {G':Gh} {w':World},Evo G w G' w'→∀ (j:Nat) (d':ADOper) (z:List AV),j≠i→ds[j]? = some d'→d'.o.op = .alloc z→G.res (σ.length+(ds.take j).countP (·.o.op.allocs))=some (some z) →
   G'.res (σ.length+(ds.take j).countP (·.o.op.allocs))=some (some z):=fun he j d' z _ _ _ q=>he.res _ _ q
 have fin:∀ {σ':St} {m':Nat} {r:Result Next},wW P hh G w v σ' r→hist[m']? = some σ'→((d.o.op.acts=true∧(cR os)[m]? = some i∧m'=m+1)∨(d.o.op.acts=false∧m'=m))→o.uponIn F 0 P a K Q r:=by
  intro σ' m' r hres hs' hm
  refine H7 hres fun u G' w' hu hS' he=>hK m' _ _ G' ?_
  exact h.next hc ho hi hall hd hcomp hv (fun x u hx=>hx.mono he) (h.evo.trans he) hs' hS' hm (hkeep he) hu
 unfold wpOpIn
 rw [ho]
 dsimp only
 rcases fact with ⟨hw,hv0,hst⟩|⟨hw,fact⟩
 ·rw [n8 hcomp hguard hw]
  simp only [Bool.false_eq_true,if_false]
  refine ⟨fun f _=>hF.fn f,?_⟩
  by_cases ha:d.o.op.acts=true
  ·obtain ⟨p1,p2⟩:=hact ha
   obtain ⟨s1,q1,q2⟩:=hst ha
   rw [Nat.zero_add,p2] at q1 q2
   rw [hs] at q1
   cases q1
   exact hK (m+1) _ _ G (h.next hc ho hi hall hd hcomp hv (fun x u hx=>hx) h.evo q2 hS (.inl ⟨ha,p1,rfl⟩) (fun j d' z _ _ _ q=>q) (y6 hv0))
  ·exact hK m _ _ G (h.next hc ho hi hall hd hcomp hv (fun x u hx=>hx) h.evo hs hS (.inr ⟨by simpa using ha,rfl⟩) (fun j d' z _ _ _ q=>q) (y6 hv0))
 ·rw [n8 hcomp hguard hw]
  simp only [if_true]
  refine ⟨fun f _=>hF.fn f,?_⟩
  rw [F9 c1]
  rcases fact with ⟨z,hz,hvz⟩|⟨f1,f2,f3,s1,s2,f4⟩|⟨f1,f2⟩|⟨f1,s1,s2,f2,f3,f4⟩|⟨f,args,s1,s2,f1,f2,f3,f4⟩
  ·
   rw [hz] at c1
   obtain ⟨T,hT,hzc⟩:=L9 c1
   obtain ⟨cs,e1,e2,e3⟩:=FT hzc w
   have hrun:(execOp a.eval o).run P w = .ok (.value (.pointer (some ⟨w.heap.size,0,none⟩))) (w.alloc (.cells cs T)):=by simp [execOp,hT,e1]
   rw [hrun,Oper.uponIn_value]
   have hid:=h.res i d z hi hd hz
   obtain ⟨id,hidd⟩:∃ id,id=σ.length+(ds.take i).countP (·.o.op.allocs):=⟨_,rfl⟩
   rw [←hidd] at hid hvz
   obtain ⟨q1,q2,q3⟩:=hS.res _ _ hid
   have q4:=q3 z rfl
   have hS1:RelS P hh { G with res:=fun x=>if x=id then none else G.res x } w s:=hS.reserve _ fun x r hx=>by
    split at hx
    ·cases hx
    ·exact hS.res x r hx
   have he1:Evo G0 w0 { G with res:=fun x=>if x=id then none else G.res x } w :=
    ⟨h.evo.loc,h.evo.lim,h.evo.tok,h.evo.own,h.evo.defs,h.evo.B0,h.evo.h0,h.evo.os,h.evo.tape,h.evo.output,h.evo.size,fun x r hx=>by
     have:=h0 x r hx
     have hne:x≠id:=by omega
     simp only [hne,if_false]
     exact h.evo.res x r hx⟩
   obtain ⟨p1,p2⟩:=hS1.place (id:=id) (x:=.cells z) (o:=.cells cs T) (by simp) q1 q4 (ES (by omega) fun k x u g1 g2=>e3 _ _ k x u g1 g2)
   refine hK m _ _ _ (h.next hc ho hi hall hd hcomp hv (fun x u hx=>(hx.ghost (G':={ G with res:=fun x=>if x=id then none else G.res x }) rfl rfl rfl rfl).mono p2) (he1.trans p2) hs p1
    (.inr ⟨by rw [hz];rfl,rfl⟩) (fun j d' z' hji hd' hz' q=>p2.res _ _ ?_) (by rw [hvz];exact .ptr eI))
   have hne:σ.length+(ds.take j).countP (·.o.op.allocs)≠id:=by
    rw [hidd]
    have a1:d.o.op.allocs=true:=by rw [hz];rfl
    have a2:d'.o.op.allocs=true:=by rw [hz'];rfl
    rcases Nat.lt_trichotomy j i with h'|h'|h'
    ·have:=oR (p:=fun d:ADOper=>d.o.op.allocs) h' hd' a2;omega
    ·exact absurd h' hji
    ·have:=oR (p:=fun d:ADOper=>d.o.op.allocs) h' hd a1;omega
   simp only [hne,if_false]
   exact q
  ·rw [←yV hcongr] at f4
   exact fin (uO c1 hE hS (US f1 f2 f3 f4 s)) hs (.inr ⟨f1,rfl⟩)
  ·have hna:d.o.op.acts=false:=by revert f1;cases d.o.op<;>simp [AOp.reads,AOp.acts]
   have hlo':d.lo≤m:=by
    rw [hlo]
    refine FB fun q x hq hx=>?_
    exact (h.acts q x hq).1 (hbef x hx)
   have hhi':m≤d.hi:=by
    rw [hhi]
    refine wT h.mle fun q x hq hx=>?_
    have hx':=(h.acts q x hx).2 hq
    cases hb:((Region.before ops).getD x 0).testBit i with
    |false=>rfl
    |true =>
     have:=hbefL x hx' i hb
     rw [hi] at this
     cases this
   have f2':=f2 m s hlo' hhi' hs
   rw [←yV hcongr] at f2'
   exact fin (uO c1 hE hS f2') hs (.inr ⟨hna,rfl⟩)
  ·obtain ⟨p1,p2⟩:=hact f1
   rw [Nat.zero_add,p2] at f2 f3
   rw [hs] at f2
   cases f2
   rw [←yV hcongr] at f4
   exact fin (uO c1 hE hS f4) f3 (.inl ⟨f1,p1,rfl⟩)
  ·have hacts:d.o.op.acts=true:=by rw [f1];rfl
   obtain ⟨p1,p2⟩:=hact hacts
   rw [Nat.zero_add,p2] at f2 f3
   rw [hs] at f2
   cases f2
   have hc':=c1
   rw [f1] at hc' hcongr
   have hf:f.ev E=f.ev (dM (ds.take i) env vs):=tT fun t ht=>hcongr t (by simp [AOp.tmps,ht])
   have hargs:args.map (·.ev E)=args.map (·.ev (dM (ds.take i) env vs)):=u0 fun t ht=>hcongr t (by simp only [AOp.tmps,List.mem_append];exact .inr ht)
   rw [←hf,←hargs] at f4
   refine EQ hF hc' hE hS f4 fun r G' w' u hr hu hS' he=>hK (m+1) _ _ G' ?_
   obtain ⟨hr1,hr2⟩:=hr
   rw [hr1] at hu
   rw [hr2] at hS'
   exact h.next hc ho hi hall hd hcomp hv (fun x u hx=>hx.mono he) (h.evo.trans he) f3 hS' (.inl ⟨hacts,p1,rfl⟩) (hkeep he) hu
theorem DInv.all {F:Fence} {Q:Exit→Act→World→Prop} (hF:FW F) (hc:Ctx P hh ops os ds n hist vs env σ) (h0:∀ id r,G0.res id=some r→id<σ.length) (hed:sC md ops=true)
  (hQ:∀ listed m a w G,DInv P hh ops os ds n hist vs env σ G0 w0 dfs listed m a w G→(∀ i,i<ops.size→listed.getD i false=true)→Q .normal a w) :
  ∀ (fuel:Nat) (listed:Array Bool) (m:Nat) (a:Act) (w:World) (G:Gh),DInv P hh ops os ds n hist vs env σ G0 w0 dfs listed m a w G→(List.range ops.size).countP (fun i=>!listed.getD i false)≤fuel →
   wpAnyIn F 0 P md ops Q fuel listed a w
 |0,listed,m,a,w,G,h,hle=>by
  have hall:∀ i,i<ops.size→listed.getD i false=true:=by
   intro i hi
   have:=List.countP_eq_zero.1 (Nat.le_zero.1 hle) i (List.mem_range.2 hi)
   simpa using this
  refine ⟨?_,hQ _ _ _ _ _ h hall⟩
  rw [List.eq_nil_iff_forall_not_mem]
  intro i hi
  obtain ⟨q1,o,ho,_⟩:=mem_ready.1 hi
  have hin:i<ops.size:=(Array.getElem?_eq_some_iff.1 ho).1
  rw [HH (by rw [h.size];exact hin),hall i hin] at q1
  cases q1
 |fuel+1,listed,m,a,w,G,h,hle=>by
  refine ⟨fun hr=>hQ _ _ _ _ _ h (M0 hed h.size hr),fun i hi=>h.step hF hc h0 hi fun m' a' w' G' h'=>DInv.all hF hc h0 hed hQ fuel _ m' a' w' G' h' ?_⟩
  obtain ⟨q1,o,ho,_⟩:=mem_ready.1 hi
  have hin:i<ops.size:=(Array.getElem?_eq_some_iff.1 ho).1
  have hil:i<listed.size:=by rw [h.size];exact hin
  rw [HH hil] at q1
  have key:∀ (l:List Nat),i∈l→l.countP (fun j=>!(listed.setIfInBounds i true).getD j false)+1≤l.countP (fun j=>!listed.getD j false):=by
   intro l
   have mono:∀ l:List Nat,l.countP (fun j=>!(listed.setIfInBounds i true).getD j false)≤l.countP (fun j=>!listed.getD j false):=fun l =>
    List.countP_mono_left fun j _ hj=>by
     by_cases hji:j=i
     ·subst hji;rw [q1];rfl
     ·rw [uJ hji] at hj;exact hj
   induction l with
   |nil=>intro hm;cases hm
   |cons x l ih =>
    intro hm
    simp only [List.countP_cons]
    by_cases hx:x=i
    ·subst hx
     rw [yZ hil,q1]
     have:=mono l
     simp only [Bool.not_true,Bool.not_false,Bool.false_eq_true,if_false,if_true]
     omega
    ·have:=ih ((List.mem_cons.1 hm).resolve_left fun e=>hx e.symm)
     rw [uJ hx]
     omega
  have:=key _ (List.mem_range.2 hin)
  omega
end
theorem MV {F:Fence} {ops:Array Oper} {os:List AOper} {hist:List St} {vs:List AV} {id B:Nat} {σf:St} {Q:Out→Prop} (hF:FW F) (hc:gK P hh n ops ops.toList=some os) (he:A3 ops=true)
  (hd:CE (Region.before ops) os=true) (hE:eT G w n env a.tmps) (hS:RelS P hh G w σ) (hM:qI G B a.defers)
  (facts:qS P hh hist (iS (Region.before ops) os) env 0 σ.length vs) (hst:hist[0]? = some (σ++dX (iS (Region.before ops) os)))
  (hend:hist[(cR os).length]? = some σf) (hQ:Q ⟨none,dM (iS (Region.before ops) os) env vs,σf,.undef⟩):(Code.region id ops true).wpIn F 0 P (rC P hh G w n B Q) a w:=by
 have hctx:Ctx P hh ops os (iS (Region.before ops) os) n hist vs env σ:=⟨hc,rfl,KR hd,facts⟩
 obtain ⟨ds,hds⟩:∃ ds,ds=iS (Region.before ops) os:=⟨_,rfl⟩
 rw [←hds] at hctx hst hQ
 have h0:∀ id r,G.res id=some r→id<σ.length:=fun id r e=>(hS.res id r e).2.1
 obtain ⟨G1,hG1⟩:∃ G1:Gh,G1={ G with res:=fun id=>if σ.length≤id then (match (dX ds)[id-σ.length]? with|some (.cells z)=>some (some z)|_=>none) else G.res id }:=⟨_,rfl⟩
 have hS1:RelS P hh G1 w.drew (σ++dX ds):=by
  rw [hG1]
  refine ((hS.drew).more (dX ds)).reserve _ fun id r e=>?_
  split at e
  ·rename_i hle
   split at e
   ·rename_i z hz
    cases e
    have hlt:=(List.getElem?_eq_some_iff.1 hz).1
    refine ⟨tA hS hle,by simp;omega,fun cs hcs=>?_⟩
    cases hcs
    rw [List.getElem?_append_right hle]
    exact hz
   ·cases e
  ·obtain ⟨q1,q2,q3⟩:=hS.res id r e
   exact ⟨q1,by simp;omega,fun cs hcs=>by rw [List.getElem?_append_left q2];exact q3 cs hcs⟩
 have he1:Evo G w G1 w.drew:=by
  have:=oO (G:=G) (w:=w)
  rw [hG1]
  exact ⟨this.loc,this.lim,this.tok,this.own,this.defs,this.B0,this.h0,this.os,this.tape,this.output,this.size,fun id r e=>by
   have:=h0 id r e
   simp only [show ¬σ.length≤id by omega,if_false]
   exact e⟩
 have hE1:eT G1 w.drew n env a.tmps:=(hE.mono oO).ghost (by rw [hG1]) (by rw [hG1]) (by rw [hG1]) (by rw [hG1])
 have hstart:DInv P hh ops os ds n hist vs env σ G w a.defers (Array.replicate ops.size false) 0 a w.drew G1:=by
  have hf:∀ j,(Array.replicate ops.size false).getD j false=false:=fun j=>by
   rw [Array.getD_eq_getD_getElem?,Array.getElem?_replicate]
   split<;>rfl
  refine ⟨by simp,fun j o _ hl=>(by rw [hf] at hl;cases hl),fun q i _=>(by rw [hf];simp),Nat.zero_le _,⟨_,hst,hS1⟩,he1,hE.1,fun j d t v hl=>(by rw [hf] at hl;cases hl),fun t _=>hE1.2 t,fun j d z _ hd' hz=>?_,rfl⟩
  rw [hG1]
  simp only [Nat.le_add_right,if_true,Nat.add_sub_cancel_left,CA hd' hz]
 have hed:∀ md,sC md ops=true:=by
  unfold A3 at he
  simp only [Bool.and_eq_true] at he
  intro md
  cases md
  ·exact he.1.2
  ·exact he.2
  ·exact he.1.1
 have hany:∀ md,wpAnyIn F 0 P md ops (rC P hh G w n B Q) ops.size (Array.replicate ops.size false) a w.drew:=by
  intro md
  refine DInv.all hF hctx h0 (hed md) ?_ _ _ _ _ _ _ hstart (by have:=List.countP_le_length (p:=fun i=>!(Array.replicate ops.size false).getD i false) (l:=List.range ops.size);simpa using this)
  intro listed m a' w' G' h hall
  obtain ⟨s,hs,hS'⟩:=h.rel
  have hm:m=(cR os).length:=by
   have h1:=h.mle
   rcases Nat.lt_or_ge m (cR os).length with hlt|hge
   ·exfalso
    obtain ⟨i,hi⟩:∃ i,(cR os)[m]? = some i:=⟨_,List.getElem?_eq_getElem hlt⟩
    have hin:i<ops.size:=by
     obtain ⟨x,q,_⟩:=i5.1 hi
     have:=(List.getElem?_eq_some_iff.1 q).1
     rw [(GH hctx).1] at this
     exact this
    have:=(h.acts m i hi).1 (hall i hin)
    omega
   ·omega
  rw [hm,hend] at hs
  cases hs
  have hlen:=(GH hctx).2
  have hE':eT G' w' n (dM ds env vs) a'.tmps:=by
   refine ⟨h.tsize,fun t=>?_⟩
   by_cases hw:∃ (j:Nat) (d':ADOper),ds[j]? = some d'∧d'.o.dst=some t
   ·obtain ⟨j,d',hj,hdst⟩:=hw
    obtain ⟨vj,hvj,_⟩:=(yP hctx.facts).2 j d' hj
    have hosd:∀ (j:Nat) (d:ADOper),ds[j]? = some d→os[j]? = some d.o:=fun j d e=>by
     rw [hds] at e
     exact (pK e).1
    rw [rH hj hdst hvj fun j' e hne he=>hctx.drawn.one j j' _ _ t (hosd _ _ hj) (hosd _ _ he) (Ne.symm hne) hdst]
    exact h.tset j d' t vj (hall j (by rw [←hlen];exact (List.getElem?_eq_some_iff.1 hj).1)) hj hdst hvj
   ·rw [mW fun j' e he hdst=>hw ⟨j',e,he,hdst⟩]
    exact h.told t fun j' e _ he hdst=>hw ⟨j',e,he,hdst⟩
  refine ⟨_,{ G' with res:=G.res },hQ,rfl,hE'.ghost rfl rfl rfl rfl,hS'.reserve _ fun id r e=>hS'.res id r (h.evo.res id r e),?_,?_⟩
  ·exact ⟨h.evo.loc,h.evo.lim,h.evo.tok,h.evo.own,h.evo.defs,h.evo.B0,h.evo.h0,h.evo.os,h.evo.tape,h.evo.output,h.evo.size,fun _ _ e=>e⟩
  ·rw [h.defers]
   exact hM.mono h.evo.defs
 refine wpIn_region_draw fun t=>?_
 unfold Region.schedule
 have hdrew:({ w with drawn:=w.drawn+1 }:World)=w.drew:=rfl
 rw [hdrew]
 split
 ·exact wpAnyIn_sound ops.size t _ a _ (hany _)
 ·exact wpAnyIn_sound ops.size _ _ a _ (hany _)
end Go.Am
namespace Go.Am
variable {P:Program} {hh:String→Bool} {G G0 G1 G':Gh} {w w0 w1 w':World} {σ σ' σ1:St} {env env':Env} {n m m':Nat} {v:AV} {a:Act}
section
variable {cd:Code}
theorem PQ (h:comp P hh n cd=some .skip):cd = .skip∨∃ l,cd = .label l:=by
 cases cd<;>simp only [comp] at h<;>(repeat' split at h)<;>first|(cases h;done)|exact .inl rfl|exact .inr ⟨_,rfl⟩
theorem PY {j:AJump} (h:comp P hh n cd=some (.jump j)):cd=NB j:=by
 cases cd<;>simp only [comp] at h<;>(repeat' split at h)<;>first|(cases h;done)|(cases h;rfl)
theorem DK {x y:ACode} (h:comp P hh n cd=some (.seq x y)):∃ c d,cd = .seq c d∧comp P hh n c=some x∧comp P hh n d=some y:=by
 cases cd<;>simp only [comp] at h<;>(repeat' split at h)<;>first|(cases h;done)|(cases h;exact ⟨_,_,rfl,by assumption,by assumption⟩)
theorem OX {c:AOpd} {x y:ACode} (h:comp P hh n cd=some (.cond c x y)):∃ o p q,cd = .cond o p q∧opd o=some c∧comp P hh n p=some x∧comp P hh n q=some y:=by
 cases cd<;>simp only [comp] at h<;>(repeat' split at h)<;>first|(cases h;done)|(cases h;exact ⟨_,_,_,rfl,by assumption,by assumption,by assumption⟩)
theorem MD {id:Nat} {x:ACode} (h:comp P hh n cd=some (.block id x)):∃ c,cd = .block id c∧comp P hh n c=some x:=by
 cases cd<;>simp only [comp] at h<;>(repeat' split at h)<;>first|(cases h;done)|(cases h;exact ⟨_,rfl,by assumption⟩)
theorem PV {x:ACode} (h:comp P hh n cd=some (.loop x)):∃ c,cd = .loop c∧comp P hh n c=some x:=by
 cases cd<;>simp only [comp] at h<;>(repeat' split at h)<;>first|(cases h;done)|(cases h;exact ⟨_,rfl,by assumption⟩)
theorem LE {x:ACode} (h:comp P hh n cd=some (.scope x)):∃ c,cd = .scope c∧comp P hh n c=some x:=by
 cases cd<;>simp only [comp] at h<;>(repeat' split at h)<;>first|(cases h;done)|(cases h;exact ⟨_,rfl,by assumption⟩)
theorem SS {os:List AOper} (h:comp P hh n cd=some (.reg os)):∃ id ops,cd = .region id ops false∧gK P hh n ops ops.toList=some os:=by
 cases cd<;>simp only [comp] at h<;>(repeat' split at h)<;>first|(cases h;done)|skip
 rename_i id ops dr _ os' h1 h2
 cases h
 have:dr=false:=by simpa using h2
 subst this
 exact ⟨id,ops,rfl,h1⟩
theorem OU {ds:List ADOper} (h:comp P hh n cd=some (.dreg ds)) :
  ∃ id ops os,cd = .region id ops true∧gK P hh n ops ops.toList=some os∧A3 ops=true∧CE (Region.before ops) os=true∧ds=iS (Region.before ops) os:=by
 cases cd<;>simp only [comp] at h<;>(repeat' split at h)<;>first|(cases h;done)|skip
 rename_i id ops dr _ os' h1 h2 h3
 cases h
 subst h2
 simp only [Bool.and_eq_true] at h3
 exact ⟨id,ops,os',rfl,h1,h3.1,h3.2,rfl⟩
theorem LG {f:AOpd} {ps:List Nat} {x y:ACode} (h:comp P hh n cd=some (.rangeFunc f ps x y)) :
  ∃ o pa c d,cd = .rangeFunc o pa c d∧opd o=some f∧comp P hh n c=some x∧comp P hh n d=some y∧pa.toList=ps∧(∀ p∈ps,p<n)∧o8 c=true∧o8 d=true:=by
 cases cd<;>simp only [comp] at h<;>(repeat' split at h)<;>first|(cases h;done)|skip
 rename_i o pa c d _ _ _ f' x' y' h1 h2 h3 h4
 cases h
 simp only [Bool.and_eq_true,List.all_eq_true,decide_eq_true_eq] at h4
 exact ⟨o,pa,c,d,rfl,h1,h2,h3,rfl,h4.1.1,h4.1.2,h4.2⟩
end
theorem jW {b:Frame} {a:Act} {k:List Item} {cs:List Frame} {w:World} {c:Code}:step P (lone (b.atR a (.code (.scope c)::k)) cs w) = .next (lone (b.atR a (.code c::.inScope c::k)) cs w) :=
 step_lone_go (by simp [stepG,stepG.exec,Frame.atR])
theorem CQ {b:Frame} {a:Act} {k:List Item} {cs:List Frame} {w:World} {c:Code}:step P (lone (b.atR a (.inScope c::k)) cs w) = .next (lone (b.atR a k) cs w) :=
 step_lone_go (by simp [stepG,stepG.exec,Frame.atR])
theorem H8 {F:Fence} {c:Code} {Q:Exit→Act→World→Prop} (hg:∀ l a w,¬Q (.goto l) a w) (h:c.wpIn F n P Q a w):(Code.scope c).wpIn F n P Q a w:=by
 intro b k cs hro hb hr
 have h0:(lone (b.atR a (.code (.scope c)::k)) cs w).fenced P F:=fenced_calm hb hr rfl
 obtain ⟨e,a₁,w₁,hq,harr⟩:=h b (.inScope c::k) cs hro hb hr
 cases e with
 |normal=>exact ⟨.normal,a₁,w₁,hq,.head h0 jW (StepsIn.trans harr (.one (fenced_calm hb hr rfl) CQ))⟩
 |exit id' =>
  have hx:exitTo id' (.inScope c::k)=exitTo id' k:=by simp [exitTo]
  exact ⟨.exit id',a₁,w₁,hq,fun k' hk=>.head h0 jW (harr.1 k' (by rw [hx];exact hk)),
   fun hr' hk=>let ⟨k₁,h1,h2⟩:=harr.2 hr' (by rw [hx];exact hk);⟨k₁,h1,.head h0 jW h2⟩⟩
 |goto l=>exact absurd hq (hg _ _ _)
 |ret=>exact ⟨_,a₁,w₁,hq,.of_steps (.one h0 jW) harr⟩
 |panic ch=>exact ⟨_,a₁,w₁,hq,.of_steps (.one h0 jW) harr⟩
 |outgrown=>exact ⟨_,a₁,w₁,hq,.of_steps (.one h0 jW) harr⟩
def lU (F:Fence) (n:Nat) (P:Program) (c:Code) (Q:Exit→Act→World→Prop) (a:Act) (w:World):Prop :=
 ∀ (b:Frame) (k:List Item) (cs:List Frame),b.roundOf=F.round→F.fn b.fn→F.room (cs.length+1+n) →
  ∃ e a' w',Q e a' w'∧ArrivesIn (Machine.fenced P F) P (lone (b.atR a (.code c::.inLoop c::k)) cs w) b k cs e a' w'
theorem lU.round {F:Fence} {c:Code} {Q:Exit→Act→World→Prop} (h:c.wpIn F n P (Exit.then (lU F n P c Q) Q) a w):lU F n P c Q a w:=by
 intro b k cs hro hb hr
 obtain ⟨e,a₁,w₁,hq,harr⟩:=h b (.inLoop c::k) cs hro hb hr
 cases e with
 |normal =>
  obtain ⟨e₂,a₂,w₂,hq₂,harr₂⟩:=hq b k cs hro hb hr
  exact ⟨e₂,a₂,w₂,hq₂,.of_steps (StepsIn.trans harr (.one (fenced_calm hb hr rfl) stepR_inLoop)) harr₂⟩
 |exit id=>exact ⟨_,a₁,w₁,hq,.pass (x:=.inLoop c) rfl (fun _ _=>.inl (by simp)) harr⟩
 |goto l=>exact ⟨_,a₁,w₁,hq,.pass (x:=.inLoop c) rfl (fun _ _=>.inl (by simp)) harr⟩
 |ret=>exact ⟨_,a₁,w₁,hq,.pass (x:=.inLoop c) rfl (fun _ _=>.inl (by simp)) harr⟩
 |panic ch=>exact ⟨_,a₁,w₁,hq,.pass (x:=.inLoop c) rfl (fun _ _=>.inl (by simp)) harr⟩
 |outgrown=>exact ⟨_,a₁,w₁,hq,.pass (x:=.inLoop c) rfl (fun _ _=>.inl (by simp)) harr⟩
theorem lU.mono {F:Fence} {c:Code} {Q Q':Exit→Act→World→Prop} (h:lU F n P c Q a w) (hq:∀ e a w,Q e a w→Q' e a w):lU F n P c Q' a w :=
 fun b k cs hro hb hr=>let ⟨e,a',w',q,r⟩:=h b k cs hro hb hr;⟨e,a',w',hq _ _ _ q,r⟩
theorem lU.wpIn {F:Fence} {c:Code} {Q:Exit→Act→World→Prop} (h:lU F n P c Q a w):(Code.loop c).wpIn F n P Q a w :=
 fun b k cs hro hb hr=>let ⟨e,a',w',q,r⟩:=h b k cs hro hb hr;⟨e,a',w',q,.of_steps (.one (fenced_calm hb hr rfl) stepR_loop) r⟩
def wpL (F:Fence) (P:Program) (cd:Code) (Q:Exit→Act→World→Prop) (a:Act) (w:World):Prop :=
 match cd with
 |.loop c=>lU F 0 P c Q a w
 |cd=>cd.wpIn F 0 P Q a w
theorem wpL.wpIn {F:Fence} {cd:Code} {Q:Exit→Act→World→Prop} (h:wpL F P cd Q a w):cd.wpIn F 0 P Q a w:=by
 cases cd<;>first|exact h|exact lU.wpIn h
theorem wpL.mono {F:Fence} {cd:Code} {Q Q':Exit→Act→World→Prop} (h:wpL F P cd Q a w) (hq:∀ e a w,Q e a w→Q' e a w):wpL F P cd Q' a w:=by
 cases cd<;>first|exact wpIn_mono h hq|exact lU.mono h hq
theorem F1 (k:Nat) (hk:0<k) (w:World):∃ j w',j<k∧(w'=w∨w'=w.drew)∧(choose (.mapNext k)).run P w = .ok j w':=by
 rw [run_choose_drew]
 by_cases h:(Question.mapNext k).forced=true
 ·rw [if_pos h];exact ⟨0,w,hk,.inl rfl,rfl⟩
 ·rw [if_neg h];exact ⟨_,_,Nat.mod_lt _ hk,.inr rfl,rfl⟩
theorem KO {ty:TypeId} {id k:Nat} {left:List Nat} {last:Option Nat} {es:List (AV×AV)} {u:Value} (hS:RelS P hh G w σ) (hx:RelV G w (.ptr id 0) u) (hσ:σ[id]? = some (.miter m k left last))
  (he:σ[m]? = some (.map es)) (hk:es.length=k) :
  (left=[]∧∃ w',(Instr.next u false ty).run P w = .ok (.tuple #[.bool false]) w'∧RelS P hh G w' σ∧Evo G w G w') ∨
  ∃ i x y w' q,i∈left∧es[i]? = some (x,y)∧(Instr.next u false ty).run P w = .ok q w'∧RelV G w' (.tuple [.bool true,x,y]) q∧RelS P hh G w' (σ.set id (.miter m k (left.filter (·≠i)) (some i)))∧Evo G w G w':=by
 cases hx with
 |ptr hl =>
  rename_i b
  obtain ⟨bm,seen,stepped,h1,h2,h3,h4,h5⟩:=hS.blk _ _ _ hl hσ
  obtain ⟨ents,hb,hlen,hborn,hrel⟩:=hS.blk _ _ _ h1 he
  have hbl:∀ e∈ents,e.born<k:=fun e hm=>by
   obtain ⟨i,hi⟩:=Array.getElem?_of_mem hm
   have:=(Array.getElem?_eq_some_iff.1 hi).1
   rw [hborn i e hi]
   omega
  obtain ⟨L,hL⟩:∃ L,L=ents.filter fun e=>!seen.contains e.born:=⟨_,rfl⟩
  have hLm:∀ e∈L,e∈ents∧seen.contains e.born=false:=fun e hm=>by
   rw [hL,Array.mem_filter] at hm
   exact ⟨hm.1,by simpa using hm.2⟩
  have hold:L.filter (·.born<k)=L:=by
   rw [Array.filter_eq_self]
   intro e hm
   simpa using hbl e (hLm e hm).1
  have hnew:L.filter (·.born≥k) = #[]:=by
   rw [Array.filter_eq_empty_iff]
   intro e hm
   have:=hbl e (hLm e hm).1
   simp
   omega
  have hchk:(!seen.isEmpty&&!ents.isEmpty&&ents.all (·.born≥stepped))=false:=by
   cases hs:seen.isEmpty with
   |true=>simp
   |false =>
    rw [h5 hs]
    cases hn:ents.isEmpty with
    |true=>simp
    |false =>
     simp only [Bool.not_false,Bool.true_and]
     rw [Bool.eq_false_iff]
     intro hall
     have h0:0<ents.size:=by
      rcases Nat.eq_zero_or_pos ents.size with h|h
      ·simp [Array.isEmpty,h] at hn
      ·exact h
     have:=Array.all_eq_true.1 hall 0 h0
     have h':=hbl ents[0] (Array.getElem_mem h0)
     simp at this
     omega
  have hpre:∀ (j:Nat) (w1:World) (c:Array (Option MapEntry)) (x:Option MapEntry),c=(if L.isEmpty then #[none] else #[])++L.map some→c[j]? = some x→(choose (.mapNext c.size)).run P w = .ok j w1 →
    (Instr.next (.pointer (some ⟨b,0,none⟩)) false ty).run P w=(match x with
     |some e=>(do setObj b (.mapIter (some bm) k (seen.push e.born) es.length);pure (.tuple #[.bool true,e.key,e.val]):Sem Value)
     |none=>(pure (.tuple #[.bool false]):Sem Value)).run P w1:=by
   intro j w1 c x hc hx hch
   unfold Instr.next
   simp only [Sem.run_bind,qE h2 (fun _ _ _ e=>by cases e),Result.andThen_ok,jK hb,hchk,Bool.false_eq_true,if_false,←hL,hold,hnew,Array.append_empty,Sem.run_pure]
   rw [←hc,hch]
   simp only [Result.andThen_ok,hx]
   cases x<;>rfl
  have hleft:∀ i,i∈left↔i<k∧seen.contains i=false:=fun i=>by rw [h3];simp [List.mem_filter]
  have hdrew:∀ w1,(w1=w∨w1=w.drew)→RelS P hh G w1 σ∧Evo G w G w1∧w1.heap=w.heap:=fun w1 h=>by
   rcases h with rfl|rfl
   ·exact ⟨hS,.refl _ _,rfl⟩
   ·exact ⟨hS.drew,oO,rfl⟩
  by_cases hemp:L.isEmpty=true
  ·left
   obtain ⟨j,w1,hj,hw1,hch⟩:=F1 (P:=P) 1 (by omega) w
   have hL0:L = #[]:=by simpa using hemp
   have hcs:((if L.isEmpty then #[none] else #[])++L.map some:Array (Option MapEntry)) = #[none]:=by rw [hL0];simp
   have hj0:j=0:=by omega
   subst hj0
   have hrun:=hpre 0 w1 #[none] none hcs.symm rfl hch
   refine ⟨?_,w1,by rw [hrun];rfl,(hdrew w1 hw1).1,(hdrew w1 hw1).2.1⟩
   rw [List.eq_nil_iff_forall_not_mem]
   intro i hi
   obtain ⟨q1,q2⟩:=(hleft i).1 hi
   have hie:i<ents.size:=by omega
   have:ents[i]∈L:=by
    rw [hL,Array.mem_filter]
    refine ⟨Array.getElem_mem hie,?_⟩
    rw [hborn i _ (Array.getElem?_eq_getElem hie),q2]
    rfl
   rw [hL0] at this
   simp at this
  ·right
   have hpos:0<L.size:=by
    rcases Nat.eq_zero_or_pos L.size with h|h
    ·simp [Array.isEmpty,h] at hemp
    ·exact h
   have hcs:((if L.isEmpty then #[none] else #[])++L.map some:Array (Option MapEntry))=L.map some:=by simp [hemp]
   obtain ⟨j,w1,hj,hw1,hch⟩:=F1 (P:=P) L.size hpos w
   have hje:(L.map some)[j]? = some (some L[j]):=by simp [hj]
   have hrun:=hpre j w1 (L.map some) (some L[j]) hcs.symm hje (by simpa using hch)
   obtain ⟨hm,hns⟩:=hLm L[j] (Array.getElem_mem hj)
   obtain ⟨i,hi⟩:=Array.getElem?_of_mem hm
   have hbi:=hborn i _ hi
   have hik:i<es.length:=by have:=(Array.getElem?_eq_some_iff.1 hi).1;omega
   have hei:es[i]? = some es[i]:=List.getElem?_eq_getElem hik
   obtain ⟨hS1,he1,hh1⟩:=hdrew w1 hw1
   have hb1:w1.heap[b]? = some (.mapIter (some bm) k seen stepped):=by rw [hh1];exact h2
   have hw:=hS1.write (y:=.miter m k (left.filter (·≠i)) (some i)) hl (kV w1 b (.mapIter (some bm) k (seen.push L[j].born) es.length)) hσ (fun _ _ _ e=>by cases e)
    ⟨bm,seen.push L[j].born,es.length,h1,tC hb1,by
     rw [h3,List.filter_filter]
     refine List.filter_congr fun x _=>?_
     rw [hbi]
     simp only [Array.contains_push]
     by_cases hxi:x=i<;>simp [hxi,Bool.and_comm],by simp [hbi],fun _=>hk⟩
   refine ⟨i,es[i].1,es[i].2,_,_,(hleft i).2 ⟨by omega,by rw [←hbi];exact hns⟩,hei,hrun.trans (by simp only [Sem.run_bind,yT _ hb1 (fun _ _ _ e=>by cases e),Result.andThen_ok,Sem.run_pure];rfl),.tuple rfl fun q x y g1 g2=>?_,hw.1,he1.trans hw.2⟩
   have hr:=hrel i _ _ hei hi
   have he2:Evo G w G _:=he1.trans hw.2
   match q with
   |0=>simp at g1 g2;subst g1;subst g2;exact .bool _
   |1=>simp at g1 g2;subst g1;subst g2;exact hr.1.mono he2
   |2=>simp at g1 g2;subst g1;subst g2;exact hr.2.mono he2
   |_+3=>simp at g1
end Go.Am
namespace Go.Am
variable {P:Program} {hh:String→Bool} {G G0 G1 G':Gh} {w w0 w1 w':World} {σ σ' σ1:St} {env env':Env} {n m m':Nat} {v:AV}
theorem RelV.thin (hS:RelS P hh G w σ) (hL:Last σ G m G') {a a':AV} {u:Value} (h:RelV G w a u) (ht:RJ σ m a a'):RelV G' w a' u:=by
 rcases ht with ⟨rfl,ho⟩|⟨d,v1,hs,rfl|rfl⟩
 ·exact h.less hL.toLess ho
 ·exact sI hS hL d hs h
 ·exact (sI hS hL d hs h).clr
theorem CX:∀ {cs cs':List AV},TZ σ m cs cs'→cs'.length=cs.length∧∀ (i:Nat) (y:AV),cs'[i]? = some y→∃ x,cs[i]? = some x∧RJ σ m x y
 |[],[],_=>⟨rfl,fun i y e=>by simp at e⟩
 |[],_::_,h=>h.elim
 |_::_,[],h=>h.elim
 |a::az,b::bs,h=>by
  obtain ⟨h1,h2⟩:=h
  obtain ⟨l,r⟩:=CX h2
  refine ⟨by simp [l],fun i y e=>?_⟩
  cases i with
  |zero=>simp at e;subst e;exact ⟨a,rfl,h1⟩
  |succ i=>simp at e;simpa using r i y e
theorem yX:∀ {e'':Env},N3 σ m env e''→∀ t,Env.get e'' t = .undef∨RJ σ m (Env.get env t) (Env.get e'' t)
 |[],_,t=>.inl rfl
 |(k,v)::e,h,t=>by
  obtain ⟨h1,h2⟩:=h
  by_cases hk:k=t
  ·subst hk;right;simpa [Env.get] using h1
  ·simpa [Env.get,hk] using yX h2 t
theorem II {σ2:St} {envL:Env} {tmps:Array Value} (hS:RelS P hh G w σ) (he:Evo (G.shut σ) w G1 w1) (h1:RelS P hh G1 w1 σ1) (hE:eT G1 w1 n envL tmps) (hm1:σ.length≤σ2.length) (hm2:σ2.length≤σ1.length)
  (hk:∀ i,i<σ2.length→∃ b,σ2[i]? = some b∧aAE σ envL σ1 σ2.length i b):RelS P hh (G1.cut w1 σ1 σ2.length G.res) w1 σ2:=by
 -- the same without the thin ones
 have hL:=oC (m:=σ2.length) h1 G.res
 have loc':∀ id b,(G1.cut w1 σ1 σ2.length G.res).loc id=some b→id<σ2.length∧G1.loc id=some b:=by
  intro id b e
  simp only [Gh.cut] at e
  split at e
  ·exact ⟨‹_›,e⟩
  ·cases e
 have notlim:∀ b,G1.lim b=none→(∀ id,σ2.length≤id→G1.loc id≠some b)→(G1.cut w1 σ1 σ2.length G.res).lim b=none:=by
  intro b q1 q2
  cases e:(G1.cut w1 σ1 σ2.length G.res).lim b with
  |none=>rfl
  |some L =>
   obtain ⟨_,id,cs,p1,p2,_⟩:=wX e q1
   exact absurd p2 (q2 id p1)
 have located:∀ {id b y},id<σ.length→G1.loc id=some b→σ[id]? = some y→∃ b0,G.loc id=some b0∧g7 P hh G w y b0:=by
  intro id b y hlt hl hy
  cases e:G.loc id with
  |none =>
   obtain ⟨r,hr⟩:=JE e hlt
   have:=(h1.res _ _ (he.res _ _ hr)).1
   rw [hl] at this
   cases this
  |some b0=>exact ⟨b0,rfl,hS.blk _ _ _ e hy⟩
 refine ⟨fun id b e=>(loc' _ _ e).1,fun id b x e1 e2=>?_,fun i j b e1 e2=>h1.inj i j b (loc' _ _ e1).2 (loc' _ _ e2).2,fun id b e=>?_,fun b L e=>?_,fun t b n c e=>?_,fun b t e=>?_,fun r e=>?_,h1.base,h1.size,fun id r e=>?_⟩
 ·obtain ⟨q1,q2⟩:=loc' _ _ e1
  obtain ⟨y,hy,hb⟩:=hk id q1
  rw [e2] at hy
  cases hy
  rcases hb with ⟨hlt,hkp,hx⟩|⟨hx,ho⟩|⟨cs,cs',hx,rfl,ht,_⟩
  ·refine (h1.blk _ _ _ q2 hx).less hL.toLess ?_
   rcases hkp with hkp|⟨y,hy,ho⟩|⟨st,pe,st',pe',env,ps,a,c,p1,p2⟩
   ·obtain ⟨b0,_,hb0⟩:=located hlt q2 (by rw [←hkp];exact hx)
    exact pH hm1 (hb0.ok hS)
   ·rw [hx] at hy
    cases hy
    exact uN ho
   ·obtain ⟨b0,_,hb0⟩:=located hlt q2 p1
    rw [hx] at p2
    cases p2
    exact pH hm1 (x:=.loop st pe env ps a c) (hb0.ok hS)
  ·exact (h1.blk _ _ _ q2 hx).less hL.toLess (uN ho)
  ·obtain ⟨vs,T,p1,p2,p3⟩:=h1.blk _ _ _ q2 hx
   obtain ⟨l,r⟩:=CX ht
   refine ⟨vs,T,p1,by omega,fun i a v r1 r2=>?_⟩
   obtain ⟨x,r3,r4⟩:=r i a r1
   exact (p3 i x v r3 r2).thin h1 hL r4
 ·obtain ⟨q1,q2⟩:=loc' _ _ e
  obtain ⟨f1,f2,f3,f4⟩:=h1.fresh _ _ q2
  refine ⟨f1,f2,notlim b f3 fun i hi e'=>?_,f4⟩
  have:=h1.inj _ _ _ q2 e'
  omega
 ·cases hn:G1.lim b with
  |some L' =>
   have:(G1.cut w1 σ1 σ2.length G.res).lim b=some L':=by simp [Gh.cut,hn]
   rw [this] at e
   cases e
   exact h1.lim _ _ hn
  |none =>
   obtain ⟨rfl,id,cs,p1,p2,p3⟩:=wX e hn
   obtain ⟨vs,T,q,l,_⟩:=h1.blk _ _ _ p2 p3
   exact ⟨vs,T,(0,0),q,by simp [rI,q],fun hlt=>absurd hlt (Nat.not_lt.2 (h1.fresh _ _ p2).1)⟩
 ·have ht:t<σ2.length∧G1.tok t=some (b,n,c):=by
   simp only [Gh.cut] at e
   split at e
   ·exact ⟨‹_›,e⟩
   ·cases e
  obtain ⟨sz,ex,q1,q2,q3,q4⟩:=h1.tok _ _ _ _ ht.2
  have hb:σ2[t]? = some (.tok sz n ex):=by
   obtain ⟨y,hy,hb⟩:=hk t ht.1
   rcases hb with ⟨_,_,hx⟩|⟨hx,_⟩|⟨cs,cs',hx,_⟩
   ·rw [hy,←q1,hx]
   ·rw [hy,←q1,hx]
   ·rw [hx] at q1;cases q1
  refine ⟨sz,ex,hb,q2,q3,fun hx=>?_⟩
  obtain ⟨bb,vs,T,r1,r2,r3,r4,r5,r6⟩:=q4 hx
  exact ⟨bb,vs,T,r1,by simp [Gh.cut,r2,r3,ht.1],by simp [Gh.cut,r3],r4,r5,r6⟩
 ·obtain ⟨q1,q2,_⟩:=uM e
  obtain ⟨p1,p,p2⟩:=h1.own _ _ q1
  exact ⟨p1,p,hL.tok _ _ q2 p2⟩
 ·obtain ⟨q1,q2,q3⟩:=h1.defs r e
  refine ⟨q1,q2,notlim r q3 fun i hi e'=>?_⟩
  exact (h1.fresh _ _ e').2.2.2 e
 ·obtain ⟨q1,q2,q3⟩:=hS.res id r e
  obtain ⟨p1,p2,p3⟩:=h1.res id r (he.res _ _ ((lI hS).res _ _ e))
  have hlt:id<σ2.length:=by omega
  refine ⟨by simp [Gh.cut,p1],hlt,fun cs hc=>?_⟩
  obtain ⟨y,hy,hb⟩:=hk id hlt
  have h3:=p3 cs hc
  rcases hb with ⟨_,_,hx⟩|⟨hx,_⟩|⟨ds,ds',hx,rfl,ht,hp⟩
  ·rw [hy,←h3,hx]
  ·rw [hy,←h3,hx]
  ·rcases hp with hp|⟨t,off,hp⟩
   ·omega
   ·have:=hE.2 t
    rw [hp] at this
    generalize tmps.getD t undef=u at this
    cases this with
    |ptr hl=>rw [p1] at hl;cases hl
end Go.Am
namespace Go.Am
variable {P:Program} {hh:String→Bool} {G G0 G1 G2 G':Gh} {w w0 w1 w2 w':World} {σ σ' σ1 σ2:St} {env env':Env} {n m m':Nat} {v:AV}
theorem vR {t:Nat}:∀ {xs:List AV},noToks t xs↔∀ x∈xs,noTok t x
 |[]=>by simp [noToks]
 |x::xs=>by simp [noToks,vR (xs:=xs)]
theorem jP {t:Nat} {xs:List AV} (h:noToks t xs) {i:Nat} {x:AV} (hx:xs[i]? = some x):noTok t x:=vR.1 h x (List.mem_of_getElem? hx)
theorem I6 {t:Nat} {x:AV}:noTok t x↔∀ c∈x.cells,noTok t c:=by
 cases x<;>simp [AV.cells,noTok,vR]
theorem v8 {t:Nat} {x c:AV} {j:Nat} (h:noTok t x) (hc:x.cells[j]? = some c):noTok t c:=I6.1 h c (List.mem_of_getElem? hc)
theorem EZ {sz:Nat}:∀ {xs:List AV},(∀ (i:Nat) (x:AV),xs[i]? = some x→x.cells.length=sz)→∀ {k:Nat} {c:AV},(xs.flatMap AV.cells)[k]? = some c→∃ i j x,xs[i]? = some x∧x.cells[j]? = some c∧k=i*sz+j
 |[],_,k,c,h=>by simp at h
 |x::xs,hs,k,c,h=>by
  simp only [List.flatMap_cons] at h
  have hx:=hs 0 x rfl
  by_cases hk:k<x.cells.length
  ·rw [List.getElem?_append_left hk] at h
   exact ⟨0,k,x,rfl,h,by omega⟩
  ·rw [List.getElem?_append_right (by omega)] at h
   obtain ⟨i,j,y,h1,h2,h3⟩:=EZ (fun i y e=>hs (i+1) y (by simpa using e)) h
   exact ⟨i+1,j,y,by simpa using h1,h2,by rw [Nat.add_mul];omega⟩
theorem HT {sz:Nat}:∀ {xs:List AV},(∀ (i:Nat) (x:AV),xs[i]? = some x→x.cells.length=sz)→(xs.flatMap AV.cells).length=xs.length*sz
 |[],_=>by simp
 |x::xs,hs=>by
  have hx:=hs 0 x rfl
  have:=HT (xs:=xs) (fun i y e=>hs (i+1) y (by simpa using e))
  simp only [List.flatMap_cons,List.length_append,List.length_cons,this,hx,Nat.add_mul]
  omega
def Gh.thaw (G:Gh) (t bb:Nat):Gh :=
  { G with
    loc:=fun id=>if id=t then some bb else G.loc id
    lim:=fun b=>if b=bb then none else G.lim b
    own:=fun b=>if G.own b=some t then none else G.own b
    tok:=fun u=>if u=t then none else G.tok u }
theorem RelV.thaw {t bb:Nat} (hl:G.loc t=none) (ho:G.own bb=some t) {a:AV} {u:Value} (h:RelV G w a u) (hn:noTok t a):RelV (G.thaw t bb) w a u:=by
 have hloc:∀ {id b},G.loc id=some b→(G.thaw t bb).loc id=some b:=fun {id b} e=>by
  have:id≠t:=fun e'=>by rw [e',hl] at e;cases e
  simp [Gh.thaw,this,e]
 have hlit:∀ {xs tk b o sz},tk≠some t→LitAt G w xs tk b o sz→LitAt (G.thaw t bb) w xs tk b o sz:=by
  intro xs tk b o sz hne ⟨⟨L,q1,q2⟩,q3,q4,q5⟩
  have hb:b≠bb:=fun e=>hne (q3 t (by rw [e];exact ho))
  refine ⟨⟨L,by simp [Gh.thaw,hb,q1],q2⟩,fun u e=>?_,q4,q5⟩
  simp only [Gh.thaw] at e
  split at e
  ·cases e
  ·exact q3 u e
 have htk:∀ {full tk n base cap},tk≠some t→nB G full tk n base cap→nB (G.thaw t bb) full tk n base cap:=by
  intro full tk n base cap hne ⟨q1,q2,q3⟩
  refine ⟨q1,q2,fun u e=>?_⟩
  obtain ⟨b,m,c,r1,r2⟩:=q3 u e
  have:u≠t:=fun e'=>hne (by rw [e,e'])
  exact ⟨b,m,c,by simp [Gh.thaw,this,r1],r2⟩
 induction h with
 |undef v=>exact .undef v
 |int k n=>exact .int k n
 |bool b=>exact .bool b
 |str s=>exact .str s
 |func e1 e2 _ _ e3 e4=>exact .func e1 e2 (fun i x u q1 q2=>e3 i x u q1 q2 (jP hn.1 q1)) (fun i x u q1 q2=>e4 i x u q1 q2 (jP hn.2 q1))
 |nilFunc=>exact .nilFunc
 |yield h=>exact .yield (hloc h)
 |ptr h=>exact .ptr (hloc h)
 |nilPtr=>exact .nilPtr
 |lptr ht hi hl _ ih =>
  refine .lptr (fun u e=>?_) hi (hlit hn.1 hl) fun i x j c u q1 q2 q3=>ih i x j c u q1 q2 q3 (v8 (jP hn.2 q1) q2)
  obtain ⟨p,q⟩:=ht u e
  have:u≠t:=fun e'=>hn.1 (by rw [e,e'])
  exact ⟨p,by simp [Gh.thaw,this,q]⟩
 |nil ht hb=>exact .nil (htk hn.1 ht) hb
 |lit ht hl _ ih=>exact .lit (htk hn.1 ht) (hlit hn.1 hl) fun i x j c u q1 q2 q3=>ih i x j c u q1 q2 q3 (v8 (jP hn.2 q1) q2)
 |ref h hb hc hn'=>exact .ref (hloc h) hb hc hn'
 |map h=>exact .map (hloc h)
 |nilMap=>exact .nilMap
 |agg h _ ih=>exact .agg h fun i x u q1 q2=>ih i x u q1 q2 (jP hn q1)
 |tuple h _ ih=>exact .tuple h fun i x u q1 q2=>ih i x u q1 q2 (jP hn q1)
theorem MP {tmps:Array Value} (hS:RelS P hh G w σ) (he:Evo G w G2 w2) (h2:RelS P hh G2 w2 σ1) (hE:eT G2 w2 n env tmps) (hres:∀ id r,G2.res id=some r→G.res id=some r) (ht:TD σ.length env σ1 env' σ2) :
  ∃ G3,RelS P hh G3 w2 σ2∧eT G3 w2 n env' tmps∧Evo G w G3 w2∧G3.defs=G2.defs:=by
 obtain ⟨t,p,xs,sz,t0,tc,t1,t2,tx,t3,t4,t5,t6⟩:=ht
 have hlt:t<σ1.length:=(List.getElem?_eq_some_iff.1 t1).1
 have hp:=hE.2 p
 rw [t2] at hp
 simp only [Env.get,if_true] at hp
 generalize hu:tmps.getD p undef=u at hp
 have hnl:G2.loc t=none:=by
  cases e:G2.loc t with
  |none=>rfl
  |some b=>exact (h2.blk _ _ _ e t1).elim
 obtain ⟨base,cap,rfl,htk,hbn⟩:=kX hp
 obtain ⟨b0,m0,c0,g1,g2,g3⟩:=htk.2.2 t rfl
 obtain ⟨sz1,ex1,g4,g5,_,g6⟩:=h2.tok _ _ _ _ g1
 rw [t1] at g4
 cases g4
 obtain ⟨rfl,rfl⟩:=g3 rfl rfl
 obtain ⟨bb,vs,T,rfl,r2,r3,r4,r5,r6⟩:=g6 rfl
 have hsize:∀ (i:Nat) (x:AV),xs[i]? = some x→x.cells.length=sz:=fun i x e=>(lF tc e).1
 have hcells:∀ (i:Nat) (x:AV) (j:Nat) (c:AV) (q:Value),xs[i]? = some x→x.cells[j]? = some c→w2.cell? ⟨bb,i*sz+j,none⟩=some q→RelV G2 w2 c q:=by
  intro i x j c q e1 e2 e3
  cases hp with
  |nil=>simp at e1
  |@lit _ _ _ b' o' sz' _ _ hl hc =>
   have:sz'=sz:=by rw [←hl.size i x e1,hsize i x e1]
   subst this
   exact hc i x j c q e1 e2 (by simpa using e3)
 have hbb:bb<w2.heap.size:=(Array.getElem?_eq_some_iff.1 r5).1
 have hrel:∀ {a:AV} {u:Value},RelV G2 w2 a u→noTok t a→RelV (G2.thaw t bb) w2 a u:=fun h hn=>h.thaw hnl r2 hn
 have hown:∀ {b u},(G2.thaw t bb).own b=some u→G2.own b=some u∧u≠t:=by
  intro b u e
  simp only [Gh.thaw] at e
  split at e
  ·cases e
  ·rename_i hne;exact ⟨e,fun e'=>hne (by rw [e,e'])⟩
 refine ⟨G2.thaw t bb,⟨fun id b e=>?_,fun id b x e1 e2=>?_,fun i j b e1 e2=>?_,fun id b e=>?_,fun b L e=>?_,fun u b k c e=>?_,fun b u e=>?_,fun r e=>?_,h2.base,h2.size,fun id r e=>?_⟩,⟨hE.1,fun q=>?_⟩,⟨fun id b e=>?_,fun b L e=>?_,fun u b k c e=>?_,fun b L u e1 e2=>?_,he.defs,he.B0,he.h0,he.os,he.tape,he.output,he.size,fun id r e=>he.res id r e⟩,rfl⟩
 ·rw [t6,List.length_set]
  simp only [Gh.thaw] at e
  split at e
  ·omega
  ·exact h2.lt _ _ e
 ·simp only [Gh.thaw] at e1
  split at e1
  ·rename_i hid
   subst hid
   cases e1
   rw [t6,List.getElem?_set_self hlt] at e2
   cases e2
   refine ⟨vs,T,r5,?_,fun i a v q1 q2=>?_⟩
   ·rw [HT hsize]
    exact Nat.le_trans (Nat.mul_le_mul_right _ g5) r6
   ·obtain ⟨i',j,x,p1,p2,rfl⟩:=EZ hsize q1
    refine hrel (hcells i' x j a v p1 p2 ?_) (v8 (jP tx p1) p2)
    rw [cell_of_row w2 bb _ vs T (0,0) r5]
    exact q2
  ·rename_i hid
   rw [t6,List.getElem?_set_ne (fun e=>hid e.symm)] at e2
   have hb:=h2.blk _ _ _ e1 e2
   have hn:=t4 id x hid e2
   cases x with
   |cells cs =>
    obtain ⟨vs',T',q1,q2,q3⟩:=hb
    exact ⟨vs',T',q1,q2,fun i a v p1 p2=>hrel (q3 i a v p1 p2) (jP hn p1)⟩
   |map es =>
    obtain ⟨ents,q1,q2,q3,q4⟩:=hb
    exact ⟨ents,q1,q2,q3,fun i p e p1 p2=>⟨hrel (q4 i p e p1 p2).1 (hn p (List.mem_of_getElem? p1)).1,hrel (q4 i p e p1 p2).2 (hn p (List.mem_of_getElem? p1)).2⟩⟩
   |tok _ _ _=>exact hb
   |siter s pos=>exact hb
   |miter m n left last =>
    obtain ⟨bm,seen,stepped,q1,q2⟩:=hb
    refine ⟨bm,seen,stepped,?_,q2⟩
    have:m≠t:=fun e=>by rw [e,hnl] at q1;cases q1
    simp [Gh.thaw,this,q1]
   |loop st pend env ps a c=>exact hn.elim
   |dead=>trivial
 ·have aux:∀ {i},G2.loc i=some bb→False:=fun {i} e=>by have:=(h2.fresh _ _ e).2.2.1;rw [r3] at this;cases this
  simp only [Gh.thaw] at e1 e2
  split at e1<;>split at e2
  ·omega
  ·cases e1;exact (aux e2).elim
  ·cases e2;exact (aux e1).elim
  ·exact h2.inj _ _ _ e1 e2
 ·simp only [Gh.thaw] at e
  split at e
  ·cases e
   refine ⟨r4,hbb,by simp [Gh.thaw],fun hd=>?_⟩
   have:=(h2.defs _ hd).2.2
   rw [r3] at this
   cases this
  ·obtain ⟨q1,q2,q3,q4⟩:=h2.fresh _ _ e
   exact ⟨q1,q2,by simp [Gh.thaw,q3],q4⟩
 ·simp only [Gh.thaw] at e
  split at e
  ·cases e
  ·exact h2.lim _ _ e
 ·simp only [Gh.thaw] at e
  split at e
  ·cases e
  ·rename_i hut
   obtain ⟨sz',ex',q1,q2,q3,q4⟩:=h2.tok _ _ _ _ e
   refine ⟨sz',ex',by rw [t6,List.getElem?_set_ne (fun e=>hut e.symm)];exact q1,q2,q3,fun hx=>?_⟩
   obtain ⟨b',vs',T',s1,s2,s3,s4,s5,s6⟩:=q4 hx
   have hb':b'≠bb:=fun e'=>by rw [e',r2] at s2;cases s2;exact hut rfl
   exact ⟨b',vs',T',s1,by simp [Gh.thaw,s2,hut],by simp [Gh.thaw,hb',s3],s4,s5,s6⟩
 ·obtain ⟨q1,q2⟩:=hown e
  obtain ⟨p1,p,p2⟩:=h2.own _ _ q1
  exact ⟨p1,p,by simp [Gh.thaw,q2,p2]⟩
 ·obtain ⟨q1,q2,q3⟩:=h2.defs r e
  exact ⟨q1,q2,by simp [Gh.thaw,q3]⟩
 ·obtain ⟨q1,q2,q3⟩:=h2.res id r e
  have hid:id≠t:=by have:=(hS.res _ _ (hres _ _ e)).2.1;omega
  refine ⟨by simp [Gh.thaw,hid,q1],by rw [t6,List.length_set];exact q2,fun cs hc=>?_⟩
  rw [t6,List.getElem?_set_ne (fun e=>hid e.symm)]
  exact q3 cs hc
 ·rw [t5]
  by_cases hq:p=q
  ·subst hq
   rw [hu]
   simp only [Env.get,if_true]
   exact .ref (by simp [Gh.thaw]) (fun _=>rfl) g5 (fun e=>by cases e)
  ·simp only [Env.get,hq,if_false]
   have h:=hE.2 q
   rw [t2] at h
   simp only [Env.get,hq,if_false] at h
   refine hrel h ?_
   generalize env.tail=e at t3
   induction e with
   |nil=>trivial
   |cons a e ih =>
    obtain ⟨k,v⟩:=a
    by_cases hk:k=q
    ·simp only [Env.get,hk,if_true];exact t3 (k,v) (by simp)
    ·simp only [Env.get,hk,if_false];exact ih fun q hq=>t3 q (List.mem_cons_of_mem _ hq)
 ·have:=hS.lt _ _ e
  have h:=he.loc _ _ e
  simp [Gh.thaw,show id≠t by omega,h]
 ·obtain ⟨L',q1,q2⟩:=he.lim b L e
  have hb:b≠bb:=by
   intro e'
   subst e'
   obtain ⟨_,p,hp'⟩:=hS.own _ _ (he.own _ _ _ e r2)
   obtain ⟨pb,pn,pc⟩:=p
   obtain ⟨_,_,q,_⟩:=hS.tok _ _ _ _ hp'
   have:=(List.getElem?_eq_some_iff.1 q).1
   omega
  exact ⟨L',by simp [Gh.thaw,hb,q1],q2⟩
 ·obtain ⟨_,_,q,_⟩:=hS.tok _ _ _ _ e
  have:=(List.getElem?_eq_some_iff.1 q).1
  obtain ⟨b',n',c',r1,r2⟩:=he.tok _ _ _ _ e
  exact ⟨b',n',c',by simp [Gh.thaw,show u≠t by omega,r1],r2⟩
 ·exact he.own b L u e1 (hown e2).1
end Go.Am
namespace Go.Am
variable {P:Program} {hh:String→Bool} {G G0 G1 G':Gh} {w w0 w1 w':World} {σ σ' σ1:St} {env env':Env} {n m m':Nat} {v:AV} {a:Act} {Q R S:Out→Prop}
theorem rC.lift {B:Nat} {e:Exit} (he:Evo G w G1 w1) (h:rC P hh G1 w1 n B Q e a w'):rC P hh G w n B Q e a w':=by
 obtain ⟨o,G',q1,q2,q3,q4,q5,q6⟩:=h
 exact ⟨o,G',q1,q2,q3,q4,he.trans q5,q6⟩
theorem rC.mono {B:Nat} {e:Exit} (hq:∀ o,Q o→R o) (h:rC P hh G w n B Q e a w'):rC P hh G w n B R e a w':=by
 obtain ⟨o,G',q1,q2⟩:=h
 exact ⟨o,G',hq _ q1,q2⟩
def HF (P:Program) (hh:String→Bool) (n:Nat) (ops:Array Oper):List Nat→List AOper→Prop
 |[],[]=>True
 |i::l,d::os=>(∃ o,ops[i]? = some o∧mT P hh n ops o=some d)∧HF P hh n ops l os
 |_,_=>False
def cW (P:Program) (hh:String→Bool):Task→(Out→Prop)→Prop
 |.code c env σ,Q=>∀ {F:Fence} {n:Nat} {cd:Code} {G:Gh} {w:World} {a:Act} {B:Nat},(F=Fence.wide∨∃ l,F=Fence.wide.inRound l∧o8 cd=true)→comp P hh n cd=some c→eT G w n env a.tmps→RelS P hh G w σ →
   qI G B a.defers→B≤w.heap.size→wpL F P cd (rC P hh G w n B Q) a w
 |.ops os env σ,Q=>∀ {F:Fence} {n:Nat} {ops:Array Oper} {l:List Nat} {G:Gh} {w:World} {a:Act} {B:Nat} {R:Exit→Act→World→Prop},FW F→HF P hh n ops l os→eT G w n env a.tmps→RelS P hh G w σ→qI G B a.defers →
   (∀ o G' a' w',Q o→o.j=none→eT G' w' n o.env a'.tmps→RelS P hh G' w' o.σ→Evo G w G' w'→qI G' B a'.defers→R .normal a' w')→wpOpsIn F 0 P ops R l a w
 |.dops ds env σ next hist reads,Q=>∀ k,hist.length=k+1→hist[k]? = some σ→∃ vs t σf,qS P hh (hist++t) ds env k next vs∧(hist++t)[k+ds.countP (·.o.op.acts)]? = some σf ∧
   Q ⟨none,dM ds env vs,σf,.undef⟩∧∀ r∈reads,ARead.ok r (hist++t)
 |.call f args σ,Q=>EX P hh f args σ Q
 |.callv f args σ,Q=>l0 P hh f args σ Q
 |.chain az env σ,Q=>∀ {F:Fence} {n:Nat} {c0:ACode} {cd:Code} {G:Gh} {w:World} {a:Act} {B:Nat} {K:Exit→Act→World→Prop},(F=Fence.wide∨∃ l,F=Fence.wide.inRound l∧o8 cd=true)→comp P hh n cd=some (PO az c0) →
   eT G w n env a.tmps→RelS P hh G w σ→qI G B a.defers→B≤w.heap.size →
   (∀ d o G' a' w',comp P hh n d=some c0→(F=Fence.wide∨∃ l,F=Fence.wide.inRound l∧o8 d=true)→Q o→o.j=none→eT G' w' n o.env a'.tmps→RelS P hh G' w' o.σ→Evo G w G' w'→qI G' B a'.defers→d.wpIn F 0 P K a' w') →
   (∀ o G' a' w',Q o→o.j≠none→eT G' w' n o.env a'.tmps→RelS P hh G' w' o.σ→Evo G w G' w'→qI G' B a'.defers→K (OR o.j) a' w')→cd.wpIn F 0 P K a w
theorem ZZ {F:Fence} {p:Prop} (h:F=Fence.wide∨∃ l,F=Fence.wide.inRound l∧p):FW F:=by
 rcases h with rfl|⟨l,rfl,_⟩
 ·exact .inl rfl
 ·exact .inr ⟨l,rfl⟩
theorem rT {F:Fence} {p q:Prop} (h:F=Fence.wide∨∃ l,F=Fence.wide.inRound l∧p) (hpq:p→q):F=Fence.wide∨∃ l,F=Fence.wide.inRound l∧q:=by
 rcases h with rfl|⟨l,rfl,h⟩
 ·exact .inl rfl
 ·exact .inr ⟨l,rfl,hpq h⟩
theorem OS {t:Task} (h:cW P hh t R) (hq:∀ o,R o→Q o):cW P hh t Q:=by
 cases t with
 |code c env σ=>intro F n cd G w a B h1 h2 h3 h4 h5 h6;exact (h h1 h2 h3 h4 h5 h6).mono fun e a w=>rC.mono hq
 |ops os env σ=>intro F n ops l G w a B R' h1 h2 h3 h4 h5 h6;exact h h1 h2 h3 h4 h5 fun o G' a' w' q=>h6 o G' a' w' (hq o q)
 |dops ds env σ next hist reads =>
  intro k h1 h2
  obtain ⟨vs,t,σf,q1,q2,q3,q4⟩:=h k h1 h2
  exact ⟨vs,t,σf,q1,q2,hq _ q3,q4⟩
 |call f args σ =>
  refine ⟨h.1,fun ha hS=>(h.2 ha hS).mono fun e w' hr=>?_⟩
  obtain ⟨r,G',u,q1,q2,q3⟩:=hr
  exact ⟨r,G',u,q1,hq _ q2,q3⟩
 |callv f args σ=>exact NE h hq
 |chain az env σ =>
  intro F n c0 cd G w a B K h1 h2 h3 h4 h5 h6 h7 h8
  exact h h1 h2 h3 h4 h5 h6 (fun d o G' a' w' p1 p2 p3=>h7 d o G' a' w' p1 p2 (hq _ p3)) fun o G' a' w' p=>h8 o G' a' w' (hq _ p)
theorem O3 (h:Q ⟨none,env,σ,.undef⟩):cW P hh (.code .skip env σ) Q:=by
 intro F n cd G w a B h1 h2 h3 h4 h5 h6
 have hp:rC P hh G w n B Q .normal a w:=⟨_,G,h,rfl,h3,h4,.refl _ _,h5⟩
 rcases PQ h2 with rfl|⟨l,rfl⟩
 ·exact wpIn_skip hp
 ·exact wpIn_label hp
theorem O8 {j:AJump} (h:Q ⟨some j,env,σ,.undef⟩):cW P hh (.code (.jump j) env σ) Q:=by
 intro F n cd G w a B h1 h2 h3 h4 h5 h6
 have hp:rC P hh G w n B Q (OR (some j)) a w:=⟨_,G,h,rfl,h3,h4,.refl _ _,h5⟩
 have:=PY h2
 subst this
 cases j with
 |ret=>exact wpIn_ret hp
 |exit id=>exact wpIn_exit hp
theorem U4 {x y:ACode} (h:cW P hh (.code x env σ) R) (h1:∀ o,R o→o.j=none→cW P hh (.code y o.env o.σ) Q) (h2:∀ o,R o→o.j≠none→Q o):cW P hh (.code (.seq x y) env σ) Q:=by
 intro F n cd G w a B f1 f2 f3 f4 f5 f6
 obtain ⟨c,d,rfl,c1,c2⟩:=DK f2
 refine wpIn_seq (wpIn_mono (h (rT f1 fun e=>by simp [o8] at e;exact e.1) c1 f3 f4 f5 f6).wpIn fun e a' w' hp=>?_)
 obtain ⟨o,G',q1,rfl,q3,q4,q5,q6⟩:=hp
 cases hj:o.j with
 |none=>exact ((h1 o q1 hj) (rT f1 fun e=>by simp [o8] at e;exact e.2) c2 q3 q4 q6 (Nat.le_trans f6 q5.size)).mono (fun e a w=>rC.lift q5) |>.wpIn
 |some j =>
  have:=h2 o q1 (by rw [hj];simp)
  have hp:rC P hh G w n B Q (OR (some j)) a' w':=⟨o,G',this,by rw [hj],q3,q4,q5,q6⟩
  cases j<;>exact hp
theorem PP {c:AOpd} {x y:ACode} (b:Bool) (hc:c.ev env = .bool b) (h:cW P hh (.code (if b then x else y) env σ) Q):cW P hh (.code (.cond c x y) env σ) Q:=by
 intro F n cd G w a B f1 f2 f3 f4 f5 f6
 obtain ⟨o,p,q,rfl,c1,c2,c3⟩:=OX f2
 have hr:=cI (a:=a) c1 f3
 rw [hc] at hr
 have hv:a.eval o = .bool b:=by generalize a.eval o=u at hr;cases hr;rfl
 refine wpIn_cond hv ?_
 cases b
 ·exact (h (rT f1 fun e=>by simp [o8] at e;exact e.2) c3 f3 f4 f5 f6).wpIn
 ·exact (h (rT f1 fun e=>by simp [o8] at e;exact e.1) c2 f3 f4 f5 f6).wpIn
theorem MZ {id:Nat} {b:ACode} (h:cW P hh (.code b env σ) R) (h1:∀ o,R o→Q (if o.j=some (.exit id) then { o with j:=none } else o)):cW P hh (.code (.block id b) env σ) Q:=by
 intro F n cd G w a B f1 f2 f3 f4 f5 f6
 obtain ⟨c,rfl,c1⟩:=MD f2
 refine wpIn_block (wpIn_mono (h (rT (q:=o8 c=true) f1 fun e=>e) c1 f3 f4 f5 f6).wpIn fun e a' w' hp=>?_)
 obtain ⟨o,G',q1,rfl,q3,q4,q5,q6⟩:=hp
 have hq:=h1 o q1
 cases hj:o.j with
 |none =>
  rw [hj,if_neg (by simp)] at hq
  exact ⟨o,G',hq,by rw [hj],q3,q4,q5,q6⟩
 |some j =>
  cases j with
  |ret =>
   rw [hj,if_neg (by simp)] at hq
   exact ⟨o,G',hq,by rw [hj],q3,q4,q5,q6⟩
  |exit id' =>
   by_cases hid:id'=id
   ·subst hid
    rw [hj,if_pos rfl] at hq
    show Exit.inBlock id' _ (.exit id') a' w'
    simp only [Exit.inBlock,if_true]
    exact ⟨_,G',hq,rfl,q3,q4,q5,q6⟩
   ·rw [hj,if_neg (by simpa using hid)] at hq
    show Exit.inBlock id _ (.exit id') a' w'
    simp only [Exit.inBlock,hid,if_false]
    exact ⟨o,G',hq,by rw [hj];rfl,q3,q4,q5,q6⟩
theorem O2 {b:ACode} (h:cW P hh (.code b env σ) R) (h1:∀ o,R o→o.j=none→cW P hh (.code (.loop b) o.env o.σ) Q) (h2:∀ o,R o→o.j≠none→Q o):cW P hh (.code (.loop b) env σ) Q:=by
 intro F n cd G w a B f1 f2 f3 f4 f5 f6
 obtain ⟨c,rfl,c1⟩:=PV f2
 refine lU.round (wpIn_mono (h (rT (q:=o8 c=true) f1 fun e=>e) c1 f3 f4 f5 f6).wpIn fun e a' w' hp=>?_)
 obtain ⟨o,G',q1,rfl,q3,q4,q5,q6⟩:=hp
 cases hj:o.j with
 |none=>exact lU.mono ((h1 o q1 hj) f1 f2 q3 q4 q6 (Nat.le_trans f6 q5.size)) (fun e a w=>rC.lift q5)
 |some j =>
  have:=h2 o q1 (by rw [hj];simp)
  have hp:rC P hh G w n B Q (OR (some j)) a' w':=⟨o,G',this,by rw [hj],q3,q4,q5,q6⟩
  cases j<;>exact hp
theorem MK {b:ACode} (h:cW P hh (.code b env σ) Q):cW P hh (.code (.scope b) env σ) Q:=by
 intro F n cd G w a B f1 f2 f3 f4 f5 f6
 obtain ⟨c,rfl,c1⟩:=LE f2
 refine H8 (fun l a w hp=>?_) (h (rT (q:=o8 c=true) f1 fun e=>e) c1 f3 f4 f5 f6).wpIn
 obtain ⟨o,G',_,q2,_⟩:=hp
 cases hj:o.j with
 |none=>rw [hj] at q2;cases q2
 |some j=>rw [hj] at q2;cases j<;>cases q2
theorem F6 {ops:Array Oper} {os:List AOper} (h:gK P hh n ops ops.toList=some os):HF P hh n ops (List.range ops.size) os:=by
 have key:∀ (l:List Oper) (os:List AOper) (k:Nat),gK P hh n ops l=some os→(∀ (i:Nat) (o:Oper),l[i]? = some o→ops[k+i]? = some o)→HF P hh n ops (List.range' k l.length) os:=by
  intro l
  induction l with
  |nil=>intro os k h _;simp [gK] at h;subst h;trivial
  |cons o l ih =>
   intro os k h hk
   simp only [gK] at h
   split at h
   ·rename_i d ds h1 h2
    cases h
    refine ⟨⟨o,by simpa using hk 0 o rfl,h1⟩,ih ds (k+1) h2 fun i o' e=>?_⟩
    have:=hk (i+1) o' (by simpa using e)
    rw [show k+1+i=k+(i+1) by omega]
    exact this
   ·cases h
 have:=key ops.toList os 0 h fun i o e=>by rw [Nat.zero_add];simpa using e
 rw [List.range_eq_range']
 simpa using this
theorem UZ {os:List AOper} (h:cW P hh (.ops os env σ) Q) (hj:∀ o,Q o→True):cW P hh (.code (.reg os) env σ) Q:=by
 intro F n cd G w a B f1 f2 f3 f4 f5 f6
 obtain ⟨id,ops,rfl,c1⟩:=SS f2
 exact wpIn_region (h (ZZ f1) (F6 c1) f3 f4 f5 fun o G' a' w' q1 q2 q3 q4 q5 q6=>⟨o,G',q1,by rw [q2];rfl,q3,q4,q5,q6⟩)
theorem P0 {ds:List ADOper} (h:cW P hh (.dops ds env (σ++dX ds) σ.length [σ++dX ds] []) Q):cW P hh (.code (.dreg ds) env σ) Q:=by
 intro F n cd G w a B f1 f2 f3 f4 f5 f6
 obtain ⟨id,ops,os,rfl,c1,c2,c3,rfl⟩:=OU f2
 obtain ⟨vs,t,σf,q1,q2,q3,_⟩:=h 0 rfl rfl
 refine MV (ZZ f1) c1 c2 c3 f3 f4 f5 q1 rfl ?_ q3
 rw [←q2,Nat.zero_add,zL]
 congr 1
 conv=>lhs;rw [←tI (Region.before ops) os]
 rw [List.countP_map]
 rfl
theorem Q9 (h:Q ⟨none,env,σ,.undef⟩):cW P hh (.ops [] env σ) Q:=by
 intro F n ops l G w a B R f1 f2 f3 f4 f5 f6
 cases l with
 |nil=>exact f6 _ G a w h rfl f3 f4 (.refl _ _) f5
 |cons i l=>exact f2.elim
theorem uS (hE:eT G w n env a.tmps) {d:AOper}:∀ t want,d.guard=some (t,want)→RelV G w (Env.get env t) (a.tmps.getD t undef):=fun t _ _=>hE.2 t
theorem m7 (dst:Option Nat) (u:Value):(a.put dst u).defers=a.defers:=by cases dst<;>rfl
theorem RY {o:AOper} {os:List AOper} (hw:o.wanted env=some false) (h:cW P hh (.ops os (Env.put env o.dst (.tuple [])) σ) Q):cW P hh (.ops (o::os) env σ) Q:=by
 intro F n ops l G w a B R f1 f2 f3 f4 f5 f6
 cases l with
 |nil=>exact f2.elim
 |cons i l =>
  obtain ⟨⟨od,ho,hcomp⟩,hrest⟩:=f2
  obtain ⟨c1,c2,c3,c4⟩:=gZ hcomp
  simp only [wpOpsIn,ho,n8 hcomp (uS f3) hw,Bool.false_eq_true,if_false]
  refine ⟨fun f _=>f1.fn f,h f1 hrest ?_ f4 (by rw [m7];exact f5) f6⟩
  rw [c2]
  exact f3.put c3 FM
theorem QZ {o:AOper} {os:List AOper} (hw:o.wanted env=some true) (ha:aop o.op env σ=some (v,σ')) (h:cW P hh (.ops os (Env.put env o.dst v) σ') Q):cW P hh (.ops (o::os) env σ) Q:=by
 intro F n ops l G w a B R f1 f2 f3 f4 f5 f6
 cases l with
 |nil=>exact f2.elim
 |cons i l =>
  obtain ⟨⟨od,ho,hcomp⟩,hrest⟩:=f2
  obtain ⟨c1,c2,c3,c4⟩:=gZ hcomp
  simp only [wpOpsIn,ho,n8 hcomp (uS f3) hw,if_true,Oper.wpIn]
  refine ⟨fun f _=>f1.fn f,?_⟩
  rw [F9 c1]
  refine H7 (uO c1 f3 f4 ha) fun u G' w' hu hS' he=>?_
  refine h f1 hrest ?_ hS' (by rw [m7];exact f5.mono he.defs) fun o' G2 a' w2 g1 g2 g3 g4 g5 g6=>f6 o' G2 a' w2 g1 g2 g3 g4 (he.trans g5) g6
  rw [c2]
  exact (f3.mono he).put c3 hu
theorem MI {o:AOper} {os:List AOper} {f:AOpd} {args:List AOpd} (hw:o.wanted env=some true) (hop:o.op = .call f args) (hc:cW P hh (.callv (f.ev env) (args.map (·.ev env)) σ) R)
  (h:∀ r,R r→cW P hh (.ops os (Env.put env o.dst r.v) r.σ) Q):cW P hh (.ops (o::os) env σ) Q:=by
 intro F n ops l G w a B R f1 f2 f3 f4 f5 f6
 cases l with
 |nil=>exact f2.elim
 |cons i l =>
  obtain ⟨⟨od,ho,hcomp⟩,hrest⟩:=f2
  obtain ⟨c1,c2,c3,c4⟩:=gZ hcomp
  simp only [wpOpsIn,ho,n8 hcomp (uS f3) hw,if_true,Oper.wpIn]
  refine ⟨fun f _=>f1.fn f,?_⟩
  rw [F9 c1]
  rw [hop] at c1
  refine EQ f1 c1 f3 f4 hc fun r G' w' u hr hu hS' he=>?_
  refine h r hr f1 hrest ?_ hS' (by rw [m7];exact f5.mono he.defs) fun o' G2 a' w2 g1 g2 g3 g4 g5 g6=>f6 o' G2 a' w2 g1 g2 g3 g4 (he.trans g5) g6
  rw [c2]
  exact (f3.mono he).put c3 hu
theorem LI {pos:String} {op:Op} {x:AOpd} (h:bN P hh pos op=some (.mnext x)):∃ o,op = .next o false∧opd o=some x:=by
 cases op with
 |next o s =>
  simp only [bN] at h
  split at h
  ·rename_i y hy
   split at h
   ·cases h
   ·rename_i hs;cases h;exact ⟨o,by simp at hs;rw [hs],hy⟩
  ·cases h
 |call c =>
  exfalso
  simp only [bN,qR] at h
  repeat' split at h
  all_goals first|(cases h;done)|(simp_all;done)
 |_ =>
  exfalso
  simp only [bN] at h
  repeat' split at h
  all_goals first|(cases h;done)|(simp_all;done)
theorem K8 {o:AOper} {os:List AOper} {x:AOpd} {id k:Nat} {es:List (AV×AV)} {left:List Nat} {last:Option Nat} (hw:o.wanted env=some true) (hop:o.op = .mnext x) (hx:x.ev env = .ptr id 0)
  (hl:σ[id]? = some (.miter m k left last)) (he:σ[m]? = some (.map es)) (hk:es.length=k)
  (h0:left=[]→cW P hh (.ops os (Env.put env o.dst (.tuple [.bool false])) σ) Q)
  (h1:∀ i x y,i∈left→es[i]? = some (x,y)→cW P hh (.ops os (Env.put env o.dst (.tuple [.bool true,x,y])) (σ.set id (.miter m k (left.filter (·≠i)) (some i)))) Q) :
  cW P hh (.ops (o::os) env σ) Q:=by
 intro F n ops l G w a B R f1 f2 f3 f4 f5 f6
 cases l with
 |nil=>exact f2.elim
 |cons i l =>
  obtain ⟨⟨od,ho,hcomp⟩,hrest⟩:=f2
  obtain ⟨c1,c2,c3,c4⟩:=gZ hcomp
  simp only [wpOpsIn,ho,n8 hcomp (uS f3) hw,if_true,Oper.wpIn]
  refine ⟨fun f _=>f1.fn f,?_⟩
  rw [F9 c1]
  rw [hop] at c1
  obtain ⟨xo,hxo,hxp⟩:=LI c1
  have hr:=cI (a:=a) hxp f3
  rw [hx] at hr
  rcases KO (ty:=od.type) f4 hr hl he hk with ⟨hnil,w1,hrun,hS1,he1⟩|⟨j,y,z,w1,q,hj,hjes,hrun,hq,hS1,he1⟩
  ·rw [show (execOp a.eval od).run P w = .ok (.value (.tuple #[.bool false])) w1 from by simp [execOp,hxo,hrun],Oper.uponIn_value]
   refine h0 hnil f1 hrest ?_ hS1 (by rw [m7];exact f5.mono he1.defs) fun o' G2 a' w2 g1 g2 g3 g4 g5 g6=>f6 o' G2 a' w2 g1 g2 g3 g4 (he1.trans g5) g6
   rw [c2]
   refine (f3.mono he1).put c3 (.tuple rfl fun i a u e1 e2=>?_)
   match i with
   |0=>simp at e1 e2;subst e1;subst e2;exact .bool _
   |_+1=>simp at e1
  ·rw [show (execOp a.eval od).run P w = .ok (.value q) w1 from by simp [execOp,hxo,hrun],Oper.uponIn_value]
   refine h1 j y z hj hjes f1 hrest ?_ hS1 (by rw [m7];exact f5.mono he1.defs) fun o' G2 a' w2 g1 g2 g3 g4 g5 g6=>f6 o' G2 a' w2 g1 g2 g3 g4 (he1.trans g5) g6
   rw [c2]
   exact (f3.mono he1).put c3 hq
section
variable {ds:List ADOper} {d:ADOper} {next:Nat} {hist:List St} {reads:List ARead}
theorem P5 (hr:∀ r∈reads,ARead.ok r hist) (h:Q ⟨none,env,σ,.undef⟩):cW P hh (.dops [] env σ next hist reads) Q:=by
 intro k h1 h2
 exact ⟨[],[],σ,rfl,by simpa using h2,h,by simpa using hr⟩
theorem TT {s:St} {k:Nat} {t:List St} (h1:hist.length=k+1) (h2:hist[k]? = some s):(hist++t)[k]? = some s:=by
 rw [List.getElem?_append_left (by omega)];exact h2
theorem vX (hna:d.o.op.acts=false) (hf:∀ k t,hist.length=k+1→hist[k]? = some σ→(∀ r∈reads,ARead.ok r (hist++t))→tM P hh (hist++t) d env k next v) {reads':List ARead}
  (hsub:∀ r∈reads,r∈reads') (hf':∀ k t,hist.length=k+1→hist[k]? = some σ→(∀ r∈reads',ARead.ok r (hist++t))→tM P hh (hist++t) d env k next v)
  (h:cW P hh (.dops ds (Env.put env d.o.dst v) σ (if d.o.op.allocs then next+1 else next) hist reads') Q):cW P hh (.dops (d::ds) env σ next hist reads) Q:=by
 intro k h1 h2
 obtain ⟨vs,t,σf,q1,q2,q3,q4⟩:=h k h1 h2
 refine ⟨v::vs,t,σf,⟨hf' k t h1 h2 q4,?_⟩,?_,q3,fun r hr=>q4 r (hsub r hr)⟩
 ·rw [hna]
  exact q1
 ·rw [List.countP_cons,hna]
  exact q2
theorem wJ {s':St} (hact:d.o.op.acts=true) (hf:∀ k t,(hist++[s']++t)[k]? = some σ→(hist++[s']++t)[k+1]? = some s'→tM P hh (hist++[s']++t) d env k next v)
  (h:cW P hh (.dops ds (Env.put env d.o.dst v) s' (if d.o.op.allocs then next+1 else next) (hist++[s']) reads) Q):cW P hh (.dops (d::ds) env σ next hist reads) Q:=by
 intro k h1 h2
 obtain ⟨vs,t,σf,q1,q2,q3,q4⟩:=h (k+1) (by simp [h1]) (by rw [List.getElem?_append_right (by omega)];simp [h1])
 have e:hist++([s']++t)=hist++[s']++t:=by simp
 refine ⟨v::vs,[s']++t,σf,?_,?_,q3,by rw [e];exact q4⟩
 ·rw [e]
  refine ⟨hf k t ?_ ?_,?_⟩
  ·rw [List.append_assoc];exact TT h1 h2
  ·rw [List.append_assoc,List.getElem?_append_right (by omega)];simp [h1]
  ·rw [hact]
   exact q1
 ·rw [e,List.countP_cons,hact,if_pos rfl,←Nat.add_assoc,Nat.add_right_comm]
  exact q2
theorem s7 {op:AOp} (h:op.acts=true):op.allocs=false:=by cases op<;>simp [AOp.acts,AOp.allocs] at h ⊢
theorem OT (hw:d.o.wanted env=some false) (h:cW P hh (.dops ds (Env.put env d.o.dst (.tuple [])) σ (if d.o.op.allocs then next+1 else next) (if d.o.op.acts then hist++[σ] else hist) reads) Q) :
  cW P hh (.dops (d::ds) env σ next hist reads) Q:=by
 cases ha:d.o.op.acts with
 |true =>
  rw [ha] at h
  exact wJ ha (fun k t e1 e2=>.inl ⟨hw,rfl,fun _=>⟨σ,e1,e2⟩⟩) h
 |false =>
  rw [ha] at h
  have hf:∀ (k:Nat) (t:List St),tM P hh (hist++t) d env k next (.tuple []):=fun k t=>.inl ⟨hw,rfl,fun e=>by rw [ha] at e;cases e⟩
  exact vX ha (fun k t _ _ _=>hf k t) (fun r hr=>hr) (fun k t _ _ _=>hf k t) h
theorem KE {z:List AV} (hw:d.o.wanted env=some true) (ho:d.o.op = .alloc z) (h:cW P hh (.dops ds (Env.put env d.o.dst (.ptr next 0)) σ (next+1) hist reads) Q):cW P hh (.dops (d::ds) env σ next hist reads) Q:=by
 have hf:∀ (k:Nat) (t:List St),tM P hh (hist++t) d env k next (.ptr next 0):=fun k t=>.inr ⟨hw,.inl ⟨z,ho,rfl⟩⟩
 refine vX (by rw [ho];rfl) (fun k t _ _ _=>hf k t) (fun r hr=>hr) (fun k t _ _ _=>hf k t) ?_
 rw [ho]
 exact h
theorem KV (hw:d.o.wanted env=some true) (hk:(d.o.op.acts||d.o.op.allocs||d.o.op.reads)=false) (ha:aop d.o.op env σ=some (v,σ)) (h:cW P hh (.dops ds (Env.put env d.o.dst v) σ next hist reads) Q) :
  cW P hh (.dops (d::ds) env σ next hist reads) Q:=by
 simp only [Bool.or_eq_false_iff] at hk
 have hf:∀ (k:Nat) (t:List St),tM P hh (hist++t) d env k next v:=fun k t=>.inr ⟨hw,.inr (.inl ⟨hk.1.1,hk.1.2,hk.2,σ,σ,ha⟩)⟩
 refine vX hk.1.1 (fun k t _ _ _=>hf k t) (fun r hr=>hr) (fun k t _ _ _=>hf k t) ?_
 rw [hk.1.2]
 exact h
theorem LY (hw:d.o.wanted env=some true) (hk:d.o.op.reads=true) (h:cW P hh (.dops ds (Env.put env d.o.dst v) σ next hist (⟨d.lo,d.hi,d.o.op,env,v⟩::reads)) Q):cW P hh (.dops (d::ds) env σ next hist reads) Q:=by
 have hna:d.o.op.acts=false:=by revert hk;cases d.o.op<;>simp [AOp.reads,AOp.acts]
 have hal:d.o.op.allocs=false:=by revert hk;cases d.o.op<;>simp [AOp.reads,AOp.allocs]
 intro k h1 h2
 obtain ⟨vs,t,σf,q1,q2,q3,q4⟩:=h k h1 h2
 refine ⟨v::vs,t,σf,⟨.inr ⟨hw,.inr (.inr (.inl ⟨hk,q4 _ (List.mem_cons_self ..)⟩))⟩,?_⟩,?_,q3,fun r hr=>q4 r (List.mem_cons_of_mem _ hr)⟩
 ·rw [hna,hal]
  exact q1
 ·rw [List.countP_cons,hna]
  exact q2
theorem PM (hw:d.o.wanted env=some true) (hk:d.o.op.acts=true) (ha:aop d.o.op env σ=some (v,σ')) (h:cW P hh (.dops ds (Env.put env d.o.dst v) σ' next (hist++[σ']) reads) Q) :
  cW P hh (.dops (d::ds) env σ next hist reads) Q:=by
 refine wJ hk (fun k t e1 e2=>.inr ⟨hw,.inr (.inr (.inr (.inl ⟨hk,σ,σ',e1,e2,ha⟩)))⟩) ?_
 rw [s7 hk]
 exact h
theorem LB {f:AOpd} {args:List AOpd} (hw:d.o.wanted env=some true) (ho:d.o.op = .call f args) (hc:cW P hh (.callv (f.ev env) (args.map (·.ev env)) σ) fun r=>r.v=v∧r.σ=σ')
  (h:cW P hh (.dops ds (Env.put env d.o.dst v) σ' next (hist++[σ']) reads) Q):cW P hh (.dops (d::ds) env σ next hist reads) Q:=by
 have hk:d.o.op.acts=true:=by rw [ho];rfl
 refine wJ hk (fun k t e1 e2=>.inr ⟨hw,.inr (.inr (.inr (.inr ⟨f,args,σ,σ',ho,e1,e2,hc⟩)))⟩) ?_
 rw [s7 hk]
 exact h
end
end Go.Am
