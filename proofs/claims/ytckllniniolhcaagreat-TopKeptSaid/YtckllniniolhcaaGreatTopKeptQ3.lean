/- A part of the proof of TopKept: an abstract machine, or what functions come to on it. -/
import Derived.Test.YtckllniniolhcaaGreatTopKeptQ2
import Derived.ChangeArms
import Derived.SizedLaws
import Derived.ChangeBears
import Derived.ChangeShapes
import Derived.WideShapes
import Derived.ProofKit
import Derived.OpenShut
import Derived.Lib.Strings
import Derived.Laws.RangeAny
open Nat (reduceLT reduceEqDiff reduceAdd reduceLeDiff reduceMul)
set_option linter.unusedVariables false
set_option linter.unusedSimpArgs false
set_option linter.defProp false
namespace Go.Am
open Go.ChangeShapes Go.WideShapes Go.ChangeAt Go.RowKit
variable {P:Program} {hh:String->Bool} {H:Type} {enc:TypeId×Value->H} {w:World} {sp:Nat->Bool} {held:Bool}
def mkV(P:Program)(t:TypeId)(cs:List AV):AV:=match P.underlying t with
 |some (.struct _)=>.agg cs
 |some (.array _ _)=>.agg cs
 |_=>cs.headD .undef
def Typ(P:Program):Nat->TypeId->List AV->Prop
 |0,_,_=>False
 |n+1,t,cs =>
  match P.underlying t with
  |some .bool=>∃ b,cs=[.bool b]
  |some (.int k)=>∃ m,cs=[.int k m]/\(Lit.int k m).wf=true
  |some .string=>∃ s:ByteArray,cs=[.str s]/\s.size<=maxLen
  |some (.slice e)=>∃ ys:List (List AV),cs=[.lit (ys.map (mkV P e)) false none]/\(ys.length<=maxLen/\ys.length*P.bytesOf e<=reachBytes)/\∀ y∈ys,Typ P n e y
  |some (.struct fs)=>∃ parts:List (List AV),cs=parts.flatten/\parts.length=fs.toList.length/\∀ (i:Nat) f p,fs.toList[i]? = some f->parts[i]? = some p->Typ P n f.type p
  |some (.array k e)=>∃ parts:List (List AV),cs=parts.flatten/\parts.length=k/\∀ p∈parts,Typ P n e p
  |_=>False
def NP(P:Program):Nat->TypeId->Bool
 |0,_=>false
 |n+1,t =>
  match P.underlying t with
  |some .bool|some (.int _)|some .string=>true
  |some (.slice e)=>decide (0<P.cellsOf e)&&NP P n e
  |some (.struct fs)=>fs.toList.all fun f=>NP P n f.type
  |some (.array _ e)=>NP P n e
  |_=>false
def UF(w:World)(b:Nat):Option Nat:=match w.heap[b]? with
 |some (.cells vs _ _)=>some vs.size
 |_=>none
noncomputable def CW(w:World):Gh:=(Gh.start w).fresh0 w (UF w) fun b=>∃ L,UF w b=some L
theorem VQ(w:World):RelS P hh (CW w) w []:=wU fun b L e=>by
 refine⟨⟨L,e⟩,?_⟩;unfold UF at e;split at e
 ·rename_i vs T fr h;simp only[Option.some.injEq] at e;exact⟨vs,T,fr,h,by omega⟩
 ·cases e
def yY(G:Gh)(w:World)(az:List AV)(cs:List Value):Prop:=az.length=cs.length/\∀ (i:Nat) a v,az[i]? = some a->cs[i]? = some v->RelV G w a v
theorem yY.nil{G:Gh}:yY G w [] []:=⟨rfl,by simp⟩
theorem yY.app{G:Gh}{az bs:List AV}{cs ds:List Value}(h:yY G w az cs)(k:yY G w bs ds):yY G w (az++bs) (cs++ds):=by
 refine⟨by simp[h.1,k.1],fun i a v e1 e2=>?_⟩;by_cases hi:i<az.length
 ·rw[List.getElem?_append_left hi] at e1;rw[List.getElem?_append_left (by rw[<-h.1];exact hi)] at e2;exact h.2 i a v e1 e2
 ·rw[List.getElem?_append_right (by omega)] at e1;rw[List.getElem?_append_right (by rw[<-h.1];omega),<-h.1] at e2;exact k.2 _ a v e1 e2
theorem yY.one{G:Gh}{a:AV}{v:Value}(h:RelV G w a v):yY G w [a] [v]:=⟨rfl,fun i x u e1 e2=>by
 cases i with
 |zero=>simp at e1 e2;subst e1;subst e2;exact h
 |succ i=>simp at e1⟩
theorem RK{n:Nat}{t:TypeId}{cs:List AV}(h:Typ P n t cs):(mkV P t cs).cells=cs:=by
 cases n with
 |zero=>exact h.elim
 |succ n =>
  simp only[Typ] at h;unfold mkV;split at h
  ·rename_i hu;rw[hu];obtain⟨b,rfl⟩:=h;rfl
  ·rename_i hu;rw[hu];obtain⟨b,rfl,_⟩:=h;rfl
  ·rename_i hu;rw[hu];obtain⟨b,rfl,_⟩:=h;rfl
  ·rename_i hu;rw[hu];obtain⟨b,rfl,_⟩:=h;rfl
  ·rename_i hu;rw[hu];rfl
  ·rename_i hu;rw[hu];rfl
  ·exact h.elim
theorem YP{a:Addr}{v:Value}(h:w.cell? a=some v)(n:Nat):a.add n=⟨a.block,a.off+n,none⟩:=by
 have hs:a.spot=none:=by
  unfold World.cell? at h;split at h
  ·split at h
   ·cases h
   ·rename_i hs;simpa using hs
  ·cases h
 obtain⟨b,o,s⟩:=a;simp only at hs;subst hs;unfold Addr.add;split
 ·rename_i h0;simp[h0]
 ·rfl
theorem aEL{b o:Nat}{v:Value}(h:w.cell? ⟨b,o,none⟩=some v):∃ L,UF w b=some L/\o<L:=by
 unfold World.cell? at h;split at h
 ·rename_i c T fr hb;refine⟨c.size,by simp only at hb;simp[UF,hb],?_⟩;simp at h;exact (Array.getElem?_eq_some_iff.1 h).1
 ·cases h
theorem ZW{G:Gh}{n:Nat}{cs:List Value}:∀ (fl:List Field) (o:Nat),(∀ (j:Nat) f,fl[j]? = some f->f.offset=o+((fl.take j).map fun f=>P.cellsOf f.type).sum)->cs.length=o+(fl.map fun f=>P.cellsOf f.type).sum ->
  (∀ f∈fl,∃ az,Typ P n f.type az/\yY G w az ((cs.drop f.offset).take (P.cellsOf f.type))) ->
  ∃ parts:List (List AV),parts.length=fl.length/\(∀ (i:Nat) f p,fl[i]? = some f->parts[i]? = some p->Typ P n f.type p)/\yY G w parts.flatten (cs.drop o)
 |[],o,_,hl,_=>⟨[],rfl,by simp,by
   have:cs.drop o=[]:=List.drop_of_length_le (by simp at hl;omega)
   rw[this];exact .nil⟩
 |f::fl,o,ho,hl,ht=>by
  have h0:=ho 0 f rfl;simp only[List.take_zero,List.map_nil,List.sum_nil,Nat.add_zero] at h0;simp only[List.map_cons,List.sum_cons] at hl;obtain⟨az,h1,h2⟩:=ht f (by simp)
  obtain⟨parts,q1,q2,q3⟩:=ZW fl (o+P.cellsOf f.type) (fun j g hj=>by
   have:=ho (j+1) g (by simpa using hj);simp only[List.take_succ_cons,List.map_cons,List.sum_cons] at this
   omega) (by omega) fun g hg=>ht g (List.mem_cons_of_mem _ hg)
  refine⟨az::parts,by simp[q1],fun i g p e1 e2=>?_,?_⟩
  ·cases i with
   |zero=>simp at e1 e2;subst e1;subst e2;exact h1
   |succ i=>exact q2 i g p (by simpa using e1) (by simpa using e2)
  ·rw[List.flatten_cons];have e:cs.drop o=(cs.drop o).take (P.cellsOf f.type)++cs.drop (o+P.cellsOf f.type):=by
    rw[<-List.drop_drop,List.take_append_drop]
   rw[e];rw[h0] at h2;exact h2.app q3
theorem aGK{G:Gh}{m:Nat}{e:TypeId}{cs:List Value}:∀ (n o:Nat),cs.length=o+n*P.cellsOf e ->
  (∀ i,i<n->∃ az,Typ P m e az/\yY G w az ((cs.drop (o+i*P.cellsOf e)).take (P.cellsOf e)))->∃ parts:List (List AV),parts.length=n/\(∀ p∈parts,Typ P m e p)/\yY G w parts.flatten (cs.drop o)
 |0,o,hl,_=>⟨[],rfl,by simp,by
   have:cs.drop o=[]:=List.drop_of_length_le (by simp at hl;omega)
   rw[this];exact .nil⟩
 |n+1,o,hl,ht=>by
  obtain⟨az,h1,h2⟩:=ht 0 (by omega);rw[Nat.zero_mul,Nat.add_zero] at h2;rw[Nat.add_mul,Nat.one_mul] at hl;obtain⟨parts,q1,q2,q3⟩:=aGK (e:=e) (cs:=cs) (m:=m) n (o+P.cellsOf e) (by omega) fun i hi=>by
   obtain⟨az,k1,k2⟩:=ht (i+1) (by omega);rw[Nat.add_mul,Nat.one_mul,Nat.add_comm (i*_),<-Nat.add_assoc] at k2;exact⟨az,k1,k2⟩
  refine⟨az::parts,by simp[q1],fun p hp=>?_,?_⟩
  ·rcases List.mem_cons.1 hp with rfl|hp
   ·exact h1
   ·exact q2 p hp
  ·rw[List.flatten_cons];have e1:cs.drop o=(cs.drop o).take (P.cellsOf e)++cs.drop (o+P.cellsOf e):=by
    rw[<-List.drop_drop,List.take_append_drop]
   rw[e1];exact h2.app q3
theorem AU{α:Type}{Q:Nat->α->Prop}:∀ n,(∀ i,i<n->∃ x,Q i x)->∃ l:List α,l.length=n/\∀ (i:Nat) x,l[i]? = some x->Q i x
 |0,_=>⟨[],rfl,by simp⟩
 |n+1,h=>by
  obtain⟨l,h1,h2⟩:=AU n fun i hi=>h i (by omega)
  obtain⟨x,hx⟩:=h n (by omega);refine⟨l++[x],by simp[h1],fun i y e=>?_⟩;by_cases hi:i<l.length
  ·rw[List.getElem?_append_left hi] at e;exact h2 i y e
  ·rw[List.getElem?_append_right (by omega)] at e;have:i-l.length=0:=by
    by_cases h0:i-l.length=0
    ·exact h0
    ·rw[List.getElem?_eq_none (by simp;omega)] at e;cases e
   rw[this] at e;simp at e;subst e;rw[show i=n by omega];exact hx
theorem pA(hl:laidOutB P=true):∀ (n m:Nat) (t:TypeId) (cs:List Value) (x:DataW H×List MemPlace),t<P.types.size->NP P n t=true->DataW.trod enc P w 0 sp held m t cs=some x->(∀ k∈x.1.weights P t,k<=reachBytes) ->
  ∃ az,Typ P n t az/\yY (CW w) w az cs
 |0,m,t,cs,x,_,ho,_,_=>by simp[NP] at ho
 |n+1,m,t,cs,x,ht,ho,h,hwt=>by
  simp only[NP] at ho;split at ho
  ·rename_i hu;obtain⟨b,rfl,_⟩:=DataW.trod_bool hu h;exact⟨[.bool b],by simp only[Typ,hu];exact⟨b,rfl⟩,.one (.bool b)⟩
  ·rename_i k hu;obtain⟨b,rfl,_,hw⟩:=DataW.trod_int hu h;exact⟨[.int k b],by simp only[Typ,hu];exact⟨b,rfl,hw⟩,.one (.int k b)⟩
  ·rename_i hu;obtain⟨s,rfl,_,hs⟩:=DataW.trod_string hu h;exact⟨[.str s],by simp only[Typ,hu];exact⟨s,rfl,hs⟩,.one (.str s)⟩
  ·rename_i e hu;simp only[Bool.and_eq_true,decide_eq_true_eq] at ho;rcases DataW.trod_slice hu h with⟨rfl,_⟩|⟨a,len,cap,elems,rest,m',_,rfl,hxe,_,hlc,hcm,hel,hei,_,_⟩
   ·refine⟨[.lit [] false none],by simp only[Typ,hu];exact⟨[],rfl,⟨by simp,by simp⟩,by simp⟩,.one (.nil ⟨Nat.le_refl _,(fun e=>by cases e),(fun t e=>by cases e)⟩ fun _=>rfl)⟩
   ·
    have hws:∀ k∈x.1.weights P t,k<=reachBytes:=hwt;rw[hxe] at hws;simp only[DataW.weights,hu,List.mem_cons,List.mem_append,List.length_map] at hws;have hwl:len*P.bytesOf e<=reachBytes:=by
     have h1:=hws _ (.inl rfl);rw[hel] at h1;exact Nat.le_trans (Nat.mul_le_mul_right _ (Nat.le_add_right _ _)) h1
    have hwe:∀ (d:DataW H),d∈elems.map (·.1)->∀ k∈d.weights P e,k<=reachBytes:=by
     have key:∀ (l:List (DataW H)) (d:DataW H),d∈l->∀ k∈d.weights P e,k∈DataW.weightsAll P e l:=by
      intro l
      induction l with
      |nil=>intro d hd;cases hd
      |cons a l ih =>
       intro d hd k hk;simp only[DataW.weightsAll,List.mem_append];rcases List.mem_cons.1 hd with rfl|hd
       ·exact .inl hk
       ·exact .inr (ih d hd k hk)
     exact fun d hd k hk=>hws k (.inr (.inl (key _ d hd k hk)))
    have hel2:∀ i,i<len->∃ y,Typ P n e y/\∃ vs,w.cells? 0 (a.add (i*P.cellsOf e)) (P.cellsOf e)=some vs/\yY (CW w) w y vs:=by
     intro i hi;have h1:=hei i hi;rw[List.getElem?_eq_getElem (by omega),Option.bind_eq_some_iff] at h1;obtain⟨vs,q1,q2⟩:=h1;obtain⟨y,q3,q4⟩:=pA hl n m' e vs _ (kid_slice hl ht hu) ho.2 q2 (hwe _ (List.mem_map.2 ⟨_,List.getElem_mem (by omega),rfl⟩));exact⟨y,q3,vs,q1,q4⟩
    obtain⟨ys,hyl,hys⟩:=AU len hel2
    refine⟨[.lit (ys.map (mkV P e)) false none],by
     simp only[Typ,hu];refine⟨ys,rfl,⟨by omega,by rw[hyl];exact hwl⟩,fun y hy=>?_⟩;obtain⟨i,hi⟩:=List.getElem?_of_mem hy
     exact (hys i y hi).1,.one ?_⟩
    by_cases h0:len=0
    ·subst h0;obtain rfl:ys=[]:=List.eq_nil_of_length_eq_zero hyl;exact .nil ⟨Nat.zero_le _,(fun e=>by cases e),(fun t e=>by cases e)⟩ fun e=>by cases e
    ·
     have hcell:∀ i j,i<len->j<P.cellsOf e->∃ v,w.cell? ((a.add (i*P.cellsOf e)).add j)=some v:=by
      intro i j hi hj;obtain⟨y,_,vs,q1,_⟩:=hel2 i hi;simp only[World.cells?,Nat.zero_le,if_true] at q1;have hlen:=mapM_some_length q1;have:=mapM_some_get q1 j j (by simp[hj]);rw[List.length_range] at hlen;rw[List.getElem?_eq_getElem (by omega)] at this;exact⟨_,this⟩
     obtain⟨v0,hv0⟩:=hcell 0 0 (by omega) ho.1;rw[Nat.zero_mul] at hv0;have ha0:a.add 0=a:=by simp[Addr.add]
     rw[ha0,ha0] at hv0;have hplain:∀ i,a.add i=⟨a.block,a.off+i,none⟩:=YP hv0;have hae:a=⟨a.block,a.off,none⟩:=by have:=hplain 0;rw[ha0] at this;simpa using this
     have hplain2:∀ i j,(a.add i).add j=⟨a.block,a.off+(i+j),none⟩:=by
      intro i j;rw[hplain];unfold Addr.add;split
      ·rename_i h;simp[h]
      ·simp[Nat.add_assoc]
     have hcell2:∀ i j,i<len->j<P.cellsOf e->∃ v,w.cell? ⟨a.block,a.off+(i*P.cellsOf e+j),none⟩=some v:=by
      intro i j hi hj;have:=hcell i j hi hj;rw[hplain2] at this;exact this
     rw[hae,show len=(ys.map (mkV P e)).length by simp[hyl]];have hsz:∀ (i:Nat) (x:AV),(ys.map (mkV P e))[i]? = some x->∃ y,ys[i]? = some y/\x=mkV P e y/\x.cells=y:=by
      intro i x hx;rw[List.getElem?_map] at hx;cases hy:ys[i]? with
      |none=>rw[hy] at hx;cases hx
      |some y =>
       rw[hy] at hx;simp at hx;exact⟨y,rfl,hx.symm,by rw[<-hx,RK (hys i y hy).1]⟩
     have hvl:∀ (i:Nat) y,ys[i]? = some y->y.length=P.cellsOf e:=by
      intro i y hy;obtain⟨_,vs,q1,q2⟩:=hys i y hy;rw[q2.1];simp only[World.cells?,Nat.zero_le,if_true] at q1;rw[mapM_some_length q1,List.length_range]
     refine .lit (sz:=P.cellsOf e) ⟨by simp;omega,(fun e=>by cases e),(fun t e=>by cases e)⟩ ⟨?_,(fun t e=>by cases e),fun i x hx=>?_,fun k hk=>?_⟩ fun i x j c u hx hc hu2=>?_
     ·obtain⟨v,hv⟩:=hcell2 (len-1) (P.cellsOf e-1) (by omega) (by omega);obtain⟨L,q1,q2⟩:=aEL hv;refine⟨L,q1,?_⟩;rw[List.length_map,hyl];have:(len-1)*P.cellsOf e+P.cellsOf e=len*P.cellsOf e:=by
       rw[<-Nat.succ_mul];congr 1;omega
      omega
     ·obtain⟨y,q1,q2,q3⟩:=hsz i x hx;rw[q3];exact hvl i y q1
     ·rw[List.length_map,hyl] at hk;have hd:k/P.cellsOf e<len:=Nat.div_lt_of_lt_mul (by rw[Nat.mul_comm];exact hk);have hm:k%P.cellsOf e<P.cellsOf e:=Nat.mod_lt _ ho.1;obtain⟨v,hv⟩:=hcell2 _ _ hd hm;have:k/P.cellsOf e*P.cellsOf e+k%P.cellsOf e=k:=by rw[Nat.mul_comm];exact Nat.div_add_mod _ _
      rw[this] at hv;rw[hv];rfl
     ·obtain⟨y,q1,q2,q3⟩:=hsz i x hx;rw[q3] at hc;obtain⟨_,vs,p1,p2⟩:=hys i y q1;have hjl:j<P.cellsOf e:=by
       rw[<-hvl i y q1];exact (List.getElem?_eq_some_iff.1 hc).1
      simp only[World.cells?,Nat.zero_le,if_true] at p1;have hg:=mapM_some_get p1 j j (by simp[hjl]);rw[hplain2] at hg;rw[hu2] at hg;exact p2.2 j c u hc hg.symm
  ·rename_i fs hu;rw[List.all_eq_true] at ho;obtain⟨xs,m',_,hxe,hcl,hxl,hf⟩:=DataW.trod_struct hu h;obtain⟨k1,k2,k3⟩:=kid_struct hl ht hu;obtain⟨parts,q1,q2,q3⟩:=ZW (P:=P) (G:=CW w) (w:=w) (n:=n) (cs:=cs) fs.toList 0 (fun j f hj=>by rw[k3 j f hj];omega) (by rw[hcl,k2];omega) fun f hfm=>by
    obtain⟨i,hi⟩:=List.getElem?_of_mem hfm;have h1:=hf i f (by simpa using hi);have hil:i<xs.length:=by rw[hxl];have:=(List.getElem?_eq_some_iff.1 hi).1;simpa using this
    rw[List.getElem?_eq_getElem hil] at h1;have hd:(xs.map (·.1))[i]? = some xs[i].1:=by rw[List.getElem?_map,List.getElem?_eq_getElem hil];rfl
    have hty:(fs.toList.map (·.type))[i]? = some f.type:=by rw[List.getElem?_map,hi];rfl
    refine pA hl n m' f.type _ _ (k1 f hfm) (ho f hfm) h1 fun k hk=>hwt k ?_
    rw[hxe];simp only[DataW.weights,hu];exact DataW.weights_mem_each hty hd k hk
   rw[List.drop_zero] at q3;exact⟨parts.flatten,by simp only[Typ,hu];exact⟨parts,rfl,q1,q2⟩,q3⟩
  ·rename_i k e hu;obtain⟨xs,m',_,hxe,hcl,hxl,hf⟩:=DataW.trod_array hu h;obtain⟨k1,k2⟩:=kid_array hl ht hu;have hwe:∀ (d:DataW H),d∈xs.map (·.1)->∀ q∈d.weights P e,q<=reachBytes:=by
    have key:∀ (l:List (DataW H)) (d:DataW H),d∈l->∀ q∈d.weights P e,q∈DataW.weightsAll P e l:=by
     intro l
     induction l with
     |nil=>intro d hd;cases hd
     |cons a l ih =>
      intro d hd q hq;simp only[DataW.weightsAll,List.mem_append];rcases List.mem_cons.1 hd with rfl|hd
      ·exact .inl hq
      ·exact .inr (ih d hd q hq)
    intro d hd q hq;refine hwt q ?_;rw[hxe];simp only[DataW.weights,hu];exact key _ d hd q hq
   obtain⟨parts,q1,q2,q3⟩:=aGK (P:=P) (G:=CW w) (w:=w) (m:=n) (e:=e) (cs:=cs) k 0 (by rw[hcl,k2];omega) fun i hi=>by
    have h1:=hf i hi;have hil:i<xs.length:=by omega
    rw[List.getElem?_eq_getElem hil] at h1;rw[Nat.zero_add];exact pA hl n m' e _ _ k1 ho h1 (hwe _ (List.mem_map.2 ⟨_,List.getElem_mem hil,rfl⟩))
   rw[List.drop_zero] at q3;exact⟨parts.flatten,by simp only[Typ,hu];exact⟨parts,rfl,q1,q2⟩,q3⟩
  ·cases ho
theorem AP(hl:laidOutB P=true)(n:Nat){t:TypeId}{v:Value}{d:DataW H}{ps:List MemPlace}(ht:t<P.types.size)(ho:NP P n t=true)(hv:Value.okWide P w .any 0 t v)(h:DataW.Trod enc P w 0 sp held t v d ps)(hwt:∀ k∈d.weights P t,k<=reachBytes):
  ∃ az,Typ P n t az/\RelV (CW w) w (mkV P t az) v:=by
 obtain⟨m,hm⟩:=h;obtain⟨az,h1,h2⟩:=pA hl n m t _ _ ht ho hm hwt;refine⟨az,h1,?_⟩;have hone:∀ {a:AV},az=[a]->(∀ cs,v≠.agg cs)->RelV (CW w) w a v:=by
  rintro a rfl hx;have hc:v.cells.toList=[v]:=by cases v<;>first|rfl|exact absurd rfl (hx _)
  rw[hc] at h2;exact h2.2 0 a v rfl rfl
 cases n with
 |zero=>exact h1.elim
 |succ n =>
  unfold mkV;simp only[Typ] at h1;split at h1<;>rename_i hu
  ·obtain⟨b,rfl⟩:=h1;rw[hu];obtain⟨c,hc⟩:=okWide_bool hu hv;exact hone rfl (by rw[hc];intro cs e;cases e)
  ·obtain⟨b,rfl,_⟩:=h1;rw[hu];obtain⟨c,hc⟩:=okWide_int hu hv;exact hone rfl (by rw[hc];intro cs e;cases e)
  ·obtain⟨b,rfl,_⟩:=h1;rw[hu];obtain⟨c,hc⟩:=okWide_string hu hv;exact hone rfl (by rw[hc];intro cs e;cases e)
  ·obtain⟨b,rfl,_⟩:=h1;rw[hu];obtain⟨_,_,_,hc⟩:=okWide_slice hu hv;exact hone rfl (by rw[hc];intro cs e;cases e)
  ·rw[hu];unfold Value.okWide at hv;rw[hu] at hv;obtain⟨cs,rfl,_,_⟩:=hv;refine .agg ?_ fun i a u e1 e2=>?_
   ·have:=h2.1;simpa[Value.cells] using this.symm
   ·exact h2.2 i a u e1 (by simpa[Value.cells] using e2)
  ·rw[hu];unfold Value.okWide at hv;rw[hu] at hv;obtain⟨cs,rfl,_,_⟩:=hv;refine .agg ?_ fun i a u e1 e2=>?_
   ·have:=h2.1;simpa[Value.cells] using this.symm
   ·exact h2.2 i a u e1 (by simpa[Value.cells] using e2)
  ·exact h1.elim
theorem E4{T:FuncId->Option AFunc}(hT:∀ f af,T f=some af->∃ fn,P.funcs[f]? = some fn/\lB P hh fn=some af){f:FuncId}{az:List AV}{vs:Array Value}{w:World}(ha:fC (CW w) w az vs)(h:Run T (.call f az []) fun o=>o.v = .bool true):
  Calls P f vs w fun e w'=>e = .returned (.bool true)/\RowKit.Below w.heap.size w w':=by
 have hs:=aNS hT h;refine (callsIn_wide.1 (hs.2 (G:=CW w) (w:=w) (vs:=vs) ha (VQ w))).mono fun e w' hr=>?_
 obtain⟨r,G',u,rfl,q1,q2,q3,q4⟩:=hr;rw[q1] at q2;cases q2;refine⟨rfl,q4.os,q4.tape,q4.output,q4.size,fun k hk=>?_⟩;have hB:G'.B0=w.heap.size:=q4.B0;have hh0:G'.h0=(CW w).h0:=q4.h0;rw[q3.base k (by rw[hB];exact hk),hh0];simp only[CW,Gh.fresh0];rw[Array.getElem?_append_left hk]
theorem LQ{G:Gh}:fC G w [] #[]:=⟨rfl,by simp⟩
theorem xM{G:Gh}{a:AV}{v:Value}{az:List AV}{vs:List Value}(h:RelV G w a v)(hs:fC G w az vs.toArray):fC G w (a::az) (v::vs).toArray:=by
 refine⟨by have:=hs.1;simp at this;simp[this],fun i x u e1 e2=>?_⟩;cases i with
 |zero=>simp at e1 e2;subst e1;subst e2;exact h
 |succ i=>exact hs.2 i x u (by simpa using e1) (by simpa using e2)
def PJ(P:Program)(n:Nat):List TypeId->List AV->Prop
 |[],cs=>cs=[]
 |t::ts,cs=>∃ a b,cs=a++b/\Typ P n t a/\PJ P n ts b
theorem KN{n:Nat}:∀ (fl:List Field) (parts:List (List AV)),parts.length=fl.length->(∀ (i:Nat) f p,fl[i]? = some f->parts[i]? = some p->Typ P n f.type p)->PJ P n (fl.map Field.type) parts.flatten
 |[],parts,hl,_=>by rw[List.length_eq_zero_iff.1 hl];rfl
 |f::fl,[],hl,_=>by simp at hl
 |f::fl,p::parts,hl,h=>⟨p,parts.flatten,rfl,h 0 f p rfl rfl,KN fl parts (by simpa using hl) fun i g q e1 e2=>h (i+1) g q (by simpa using e1) (by simpa using e2)⟩
theorem OR{n:Nat}{t:TypeId}{fs:Array Field}{cs:List AV}(hu:P.underlying t=some (.struct fs))(h:Typ P (n+1) t cs):PJ P n (fs.toList.map Field.type) cs:=by
 simp only[Typ,hu] at h;obtain⟨parts,rfl,h1,h2⟩:=h;exact KN fs.toList parts h1 h2
theorem j5{n:Nat}{t:TypeId}{k:IntKind}{cs:List AV}(hu:P.underlying t=some (.int k))(h:Typ P (n+1) t cs):∃ m,cs=[.int k m]/\(Lit.int k m).wf=true:=by
 simp only[Typ,hu] at h;exact h
theorem qO{n:Nat}{t e:TypeId}{cs:List AV}{α:Type}{f:α->AV}{Q:α->Prop}(hu:P.underlying t=some (.slice e))(h:Typ P (n+1) t cs)(hq:∀ y,Typ P n e y->∃ x,mkV P e y=f x/\Q x):∃ l:List α,cs=[.lit (l.map f) false none]/\(l.length<9223372036854775808/\l.length*P.bytesOf e<=reachBytes)/\∀ x∈l,Q x:=by
 simp only[Typ,hu] at h;obtain⟨ys,rfl,⟨h1,h1b⟩,h2⟩:=h;have key:∀ ys:List (List AV),(∀ y∈ys,Typ P n e y)->∃ l:List α,ys.map (mkV P e)=l.map f/\l.length=ys.length/\∀ x∈l,Q x:=by
  intro ys
  induction ys with
  |nil=>intro _;exact⟨[],rfl,rfl,by simp⟩
  |cons y ys ih =>
   intro hy;obtain⟨x,q1,q2⟩:=hq y (hy y (by simp));obtain⟨l,q3,q4,q5⟩:=ih fun z hz=>hy z (List.mem_cons_of_mem _ hz)
   exact⟨x::l,by simp[q1,q3],by simp[q4],fun z hz=>by
    rcases List.mem_cons.1 hz with rfl|hz
    ·exact q2
    ·exact q5 z hz⟩
 obtain⟨l,q1,q2,q3⟩:=key ys h2;exact⟨l,by rw[q1],⟨by simp only[maxLen] at h1;omega,by rw[q2];exact h1b⟩,q3⟩
theorem NE{t:TypeId}{fs:Array Field}{cs:List AV}(hu:P.underlying t=some (.struct fs)):mkV P t cs = .agg cs:=by simp[mkV,hu]
theorem aFG{t:TypeId}{a:AV}(hu:∀ fs,P.underlying t≠some (.struct fs))(hu2:∀ k e,P.underlying t≠some (.array k e)):mkV P t [a]=a:=by
 unfold mkV;split
 ·rename_i fs h;exact absurd h (hu fs)
 ·rename_i k e h;exact absurd h (hu2 k e)
 ·rfl
theorem aGP{m:Int}(h:(Lit.int .u8 m).wf=true):0<=m/\m<256:=by
 simp[Lit.wf,IntKind.min,IntKind.max,IntKind.signed,IntKind.bits] at h;omega
end Go.Am
namespace Go.Am
variable {T:FuncId->Option AFunc}
def nC(r:Option (AV×St))(K:AV->St->Prop):Prop :=
 match r with
 |some (v,σ)=>K v σ
 |none=>False
@[congr] theorem aGD{r r':Option (AV×St)}{K:AV->St->Prop}(h:r=r'):nC r K=nC r' K:=by rw[h]
@[simp] theorem aHP(v:AV)(σ:St)(K:AV->St->Prop):nC (some (v,σ)) K=K v σ:=rfl
@[simp] theorem aJY(K:AV->St->Prop):nC none K=False:=rfl
@[simp] theorem aLD(c:Prop)[Decidable c](r q:Option (AV×St))(K:AV->St->Prop):nC (if c then r else q) K=if c then nC r K else nC q K:=by split<;>rfl
def DG(v:AV)(A B:Unit->Prop):Prop :=
 match v with
 |.bool true=>A ()
 |.bool false=>B ()
 |_=>False
@[congr] theorem aGG{v v':AV}{A B:Unit->Prop}(h:v=v'):DG v A B=DG v' A B:=by rw[h]
@[simp] theorem aHV(b:Bool)(A B:Unit->Prop):DG (.bool b) A B=if b=true then A () else B ():=by cases b<;>rfl
def oU(v:AV)(want:Bool)(A B:Unit->Prop):Prop :=
 match v with
 |.bool b=>if b=want then A () else B ()
 |.tuple []=>B ()
 |_=>False
@[congr] theorem aFL{v v':AV}{want:Bool}{A B:Unit->Prop}(h:v=v'):oU v want A B=oU v' want A B:=by rw[h]
@[simp] theorem aJ9(b want:Bool)(A B:Unit->Prop):oU (.bool b) want A B=if b=want then A () else B ():=rfl
@[simp] theorem aLC(want:Bool)(A B:Unit->Prop):oU (.tuple []) want A B=B ():=rfl
def OZ(T:FuncId->Option AFunc)(f:AV)(args:List AV)(σ:St)(K:AV->St->Prop):Prop:=Run T (.callv f args σ) fun r=>K r.v r.σ
@[congr] theorem aFU{f f':AV}{args args':List AV}{σ σ':St}{K:AV->St->Prop}(h1:f=f')(h2:args=args')(h3:σ=σ'):OZ T f args σ K=OZ T f' args' σ' K:=by rw[h1,h2,h3]
def gX(T:FuncId->Option AFunc)(q:AOp)(e:Env)(σ:St)(K:AV->St->Prop):Prop :=
 match q with
 |.call f args=>OZ T (f.ev e) (args.map (·.ev e)) σ K
 |q=>nC (aop q e σ) K
@[congr] theorem aGW{q:AOp}{e e':Env}{σ σ':St}{K:AV->St->Prop}(h2:e=e')(h3:σ=σ'):gX T q e σ K=gX T q e' σ' K:=by rw[h2,h3]
def aN(T:FuncId->Option AFunc):List AOper->Env->St->(Env->St->Prop)->Prop
 |[],e,σ,K=>K e σ
 |⟨dst,q,none⟩::os,e,σ,K=>gX T q e σ fun v σ'=>aN T os (Env.put e dst v) σ' K
 |⟨dst,q,some (t,want)⟩::os,e,σ,K =>
  oU (Env.get e t) want (fun _=>gX T q e σ fun v σ'=>aN T os (Env.put e dst v) σ' K) (fun _=>aN T os (Env.put e dst (.tuple [])) σ K)
@[congr] theorem aFS{os:List AOper}{e e':Env}{σ σ':St}{K:Env->St->Prop}(h2:e=e')(h3:σ=σ'):aN T os e σ K=aN T os e' σ' K:=by rw[h2,h3]
theorem rF{Q:Out->Prop}:∀ {os:List AOper} {e:Env} {σ:St} {K:Env->St->Prop},aN T os e σ K->(∀ e σ,K e σ->Q ⟨none,e,σ,.undef⟩)->Run T (.ops os e σ) Q
 |[],e,σ,K,h,hq=>.nil (hq _ _ h)
 |o::os,e,σ,K,h,hq=>by
  have key:o.wanted e=some true->gX T o.op e σ (fun v σ'=>aN T os (Env.put e o.dst v) σ' K)->Run T (.ops (o::os) e σ) Q:=by
   intro hw h;by_cases hc:∃ f args,o.op = .call f args
   ·obtain⟨f,args,ho⟩:=hc;rw[ho] at h;exact .stepc hw ho h fun r hr=>rF hr hq
   ·have:∃ v σ',aop o.op e σ=some (v,σ')/\aN T os (Env.put e o.dst v) σ' K:=by
     unfold gX at h;split at h
     ·rename_i f args ho;exact absurd ⟨f,args,ho⟩ hc
     ·unfold nC at h;split at h
      ·rename_i v σ' hv;exact⟨v,σ',hv,h⟩
      ·exact h.elim
    obtain⟨v,σ',h1,h2⟩:=this;exact .step hw h1 (rF h2 hq)
  obtain⟨dst,q,g⟩:=o;cases g with
  |none=>exact key rfl h
  |some g =>
   obtain⟨t,want⟩:=g;simp only[aN,oU] at h;split at h
   ·rename_i b h1;split at h
    ·rename_i hb;exact key (by simp[AOper.wanted,h1,hb]) h
    ·rename_i hb;exact .off (by simp[AOper.wanted,h1];simpa using hb) (rF h hq)
   ·rename_i h1;exact .off (by simp[AOper.wanted,h1]) (rF h hq)
   ·exact h.elim
abbrev KJ:=Option AJump->Env->St->Prop
def wA(A K:KJ):KJ:=fun j e σ=>match j with|none=>A none e σ|some j=>K (some j) e σ
@[simp] theorem aG0(A K:KJ)(e:Env)(σ:St):wA A K none e σ=A none e σ:=rfl
@[simp] theorem aJH(A K:KJ)(j:AJump)(e:Env)(σ:St):wA A K (some j) e σ=K (some j) e σ:=rfl
def lJ(id:Nat)(K:KJ):KJ:=fun j e σ=>match j with|some (.exit i)=>if i=id then K none e σ else K (some (.exit i)) e σ|j=>K j e σ
@[simp] theorem aF0(id:Nat)(K:KJ)(e:Env)(σ:St):lJ id K none e σ=K none e σ:=rfl
@[simp] theorem aHS(id:Nat)(K:KJ)(e:Env)(σ:St):lJ id K (some .ret) e σ=K (some .ret) e σ:=rfl
@[simp] theorem aGL(id i:Nat)(K:KJ)(e:Env)(σ:St):lJ id K (some (.exit i)) e σ=if i=id then K none e σ else K (some (.exit i)) e σ:=rfl
def SJ(T:FuncId->Option AFunc)(c:ACode)(e:Env)(σ:St)(K:KJ):Prop:=Run T (.code c e σ) fun o=>K o.j o.env o.σ
@[congr] theorem aI5{c:ACode}{e e':Env}{σ σ':St}{K:KJ}(h2:e=e')(h3:σ=σ'):SJ T c e σ K=SJ T c e' σ' K:=by rw[h2,h3]
def wp(T:FuncId->Option AFunc):ACode->Env->St->KJ->Prop
 |.skip,e,σ,K=>K none e σ
 |.reg os,e,σ,K=>aN T os e σ fun e σ=>K none e σ
 |.seq a b,e,σ,K=>wp T a e σ (wA (fun _ e σ=>wp T b e σ K) K)
 |.cond c a b,e,σ,K=>DG (c.ev e) (fun _=>wp T a e σ K) (fun _=>wp T b e σ K)
 |.block id b,e,σ,K=>wp T b e σ (lJ id K)
 |.jump j,e,σ,K=>K (some j) e σ
 |.scope b,e,σ,K=>wp T b e σ K
 |c,e,σ,K=>SJ T c e σ K
@[congr] theorem aND{c:ACode}{e e':Env}{σ σ':St}{K:KJ}(h2:e=e')(h3:σ=σ'):wp T c e σ K=wp T c e' σ' K:=by rw[h2,h3]
theorem eG{Q:Out->Prop}:∀ {c:ACode} {e:Env} {σ:St} {K:KJ},wp T c e σ K->(∀ o,K o.j o.env o.σ->Q o)->Run T (.code c e σ) Q:=by
 intro c
 induction c generalizing Q with
 |skip=>intro e σ K h hq;exact .skip (hq ⟨none,e,σ,.undef⟩ h)
 |reg os=>intro e σ K h hq;exact .reg (rF h fun e σ hk=>hq ⟨none,e,σ,.undef⟩ hk)
 |dreg ds=>intro e σ K h hq;exact .mono h hq
 |seq a b iha ihb =>
  intro e σ K h hq;refine .seq (iha h fun o ho=>ho) (fun o ho hj=>?_) fun o ho hj=>?_
  ·simp only[hj,wA] at ho;exact ihb ho hq
  ·refine hq o ?_;cases hj':o.j with
   |none=>exact absurd hj' hj
   |some j=>simp only[hj',wA] at ho;exact ho
 |cond c a b iha ihb =>
  intro e σ K h hq;simp only[wp,DG] at h;split at h
  ·rename_i h1;exact .cond true h1 (iha h hq)
  ·rename_i h1;exact .cond false h1 (ihb h hq)
  ·exact h.elim
 |block id b ih =>
  intro e σ K h hq;refine .block (ih h fun o ho=>ho) fun o ho=>hq _ ?_
  unfold lJ at ho;split at ho
  ·rename_i i hj;split at ho
   ·rename_i hi;subst hi;rw[if_pos hj];exact ho
   ·rename_i hi;rw[if_neg (by rw[hj];simpa using hi),hj];exact ho
  ·rename_i hj;rw[if_neg (fun e=>hj _ e)];exact ho
 |loop b ih=>intro e σ K h hq;exact .mono h hq
 |rangeFunc f ps a b _ _=>intro e σ K h hq;exact .mono h hq
 |jump j=>intro e σ K h hq;exact .jump (hq ⟨some j,e,σ,.undef⟩ h)
 |scope b ih=>intro e σ K h hq;exact .scope (ih h hq)
def cZ(T:FuncId->Option AFunc)(f:FuncId)(args:List AV)(v:AV):Prop:=∀ σ,Run T (.call f args σ) fun o=>o.v=v/\o.σ=σ
theorem sA(σ τ:St)(k:Nat):(σ++τ)[σ.length+k]? = τ[k]?:=by rw[List.getElem?_append_right (by omega)];congr 1;omega
theorem lF(σ τ:St)(k:Nat)(x:ABlk):(σ++τ).set (σ.length+k) x=σ++τ.set k x:=by rw[List.set_append_right _ _ (by omega)];congr 2;omega
theorem aC2(σ τ:St)(x:ABlk):(σ++τ).set σ.length x=σ++τ.set 0 x:=lF σ τ 0 x
end Go.Am
namespace Go.Am
variable {T:FuncId->Option AFunc}
theorem aN5(e:Env)(d:Nat)(v:AV):Env.put e (some d) v=(d,v)::e:=by simp only[Env.put]
theorem aHO(e:Env)(v:AV):Env.put e none v=e:=by simp only[Env.put]
theorem aBH(k:Nat)(v:AV)(e:Env)(t:Nat):Env.get ((k,v)::e) t=if k=t then v else Env.get e t:=by simp only[Env.get]
theorem UO(e:Env)(t:Nat):AOpd.ev e (.t t)=Env.get e t:=by simp only[AOpd.ev]
theorem aOZ(e:Env)(v:AV):AOpd.ev e (.c v)=v:=by simp only[AOpd.ev]
theorem aME(os:List AOper)(e:Env)(σ:St)(K:KJ):wp T (.reg os) e σ K=aN T os e σ fun e σ=>K none e σ:=by simp only[wp]
theorem aO7(a b:ACode)(e:Env)(σ:St)(K:KJ):wp T (.seq a b) e σ K=wp T a e σ (wA (fun _ e σ=>wp T b e σ K) K):=by simp only[wp]
theorem aH4(j:AJump)(e:Env)(σ:St)(K:KJ):wp T (.jump j) e σ K=K (some j) e σ:=by simp only[wp]
theorem aKP(A K:KJ)(e:Env)(σ:St):wA A K none e σ=A none e σ:=by simp only[wA]
theorem aO3(e:Env)(σ:St)(K:Env->St->Prop):aN T [] e σ K=K e σ:=by simp only[aN]
def aOS(r:Option AV)(σ:St)(K:AV->St->Prop):Prop:=match r with|some v=>K v σ|none=>False
@[congr] theorem aIM{r r':Option AV}{σ σ':St}{K:AV->St->Prop}(h:r=r')(h2:σ=σ'):aOS r σ K=aOS r' σ' K:=by rw[h,h2]
def aPW(r:Option (List AV))(σ:St)(K:AV->St->Prop):Prop:=match r with|some cs=>K (.agg cs) σ|none=>False
@[congr] theorem aIG{r r':Option (List AV)}{σ σ':St}{K:AV->St->Prop}(h:r=r')(h2:σ=σ'):aPW r σ K=aPW r' σ' K:=by rw[h,h2]
def aNY(r:Option St)(K:AV->St->Prop):Prop:=match r with|some σ=>K (.tuple []) σ|none=>False
@[congr] theorem aI1{r r':Option St}{K:AV->St->Prop}(h:r=r'):aNY r K=aNY r' K:=by rw[h]
def lR(n:Nat)(v:AV):Option (List AV):=if (v.cells.length==n&&v.cells.all (·.cell))=true then some v.cells else none
def z0(off:Nat):AV->Option AV
 |.ptr id o=>some (.ptr id (o+off))
 |.lptr xs i o t=>some (.lptr xs i (o+off) t)
 |_=>none
theorem YE(off id o:Nat):z0 off (.ptr id o)=some (.ptr id (o+off)):=by simp[z0]
theorem X4(off:Nat)(xs:List AV)(i o:Nat)(t:Option Nat):z0 off (.lptr xs i o t)=some (.lptr xs i (o+off) t):=by simp[z0]
def aPP(r:Option (List AV))(σ:St)(K:AV->St->Prop):Prop:=match r with|some cs=>K (.ptr σ.length 0) (σ++[.cells cs])|none=>False
@[congr] theorem aKW{r r':Option (List AV)}{σ σ':St}{K:AV->St->Prop}(h:r=r')(h2:σ=σ'):aPP r σ K=aPP r' σ' K:=by rw[h,h2]
def aEZ(i:Nat):AV->Option AV
 |.tuple vs=>vs[i]?
 |_=>none
theorem aHC(i:Nat)(vs:List AV):aEZ i (.tuple vs)=vs[i]?:=by simp[aEZ]
def aC4:AV->Option AV
 |.bool b=>some (.bool !b)
 |_=>none
theorem aHR(b:Bool):aC4 (.bool b)=some (.bool !b):=by simp[aC4]
def E1(sh:EqTy)(neg:Bool)(x y:AV):Option AV:=(iX sh x y).map fun b=>.bool (if neg then !b else b)
theorem aKQ(e:Env)(σ:St)(K:KJ):wp T .skip e σ K=K none e σ:=by simp only[wp]
theorem aER(id:Nat)(b:ACode)(e:Env)(σ:St)(K:KJ):wp T (.block id b) e σ K=wp T b e σ (lJ id K):=by simp only[wp]
theorem aET(b:ACode)(e:Env)(σ:St)(K:KJ):wp T (.scope b) e σ K=wp T b e σ K:=by simp only[wp]
theorem aCZ(A K:KJ)(j:AJump)(e:Env)(σ:St):wA A K (some j) e σ=K (some j) e σ:=by simp only[wA]
theorem aJA(k:Nat):eP k []=[]:=by simp only[eP]
theorem aL4(k:Nat)(v:AV)(vs:List AV):eP k (v::vs)=(k,v)::eP (k+1) vs:=by simp only[eP]
theorem aMK(e:Env)(cs:List AV)(off n:Nat)(x:AOpd)(rest:List (Nat×Nat×AOpd)):
  cC e cs ((off,n,x)::rest)=((lR n (x.ev e)).bind fun us=>eK cs off us).bind fun cs=>cC e cs rest:=by
 simp only[cC,lR];split
 ·simp only[Option.bind_some];cases eK cs off (x.ev e).cells<;>simp
 ·simp
end Go.Am
namespace Go.Am
variable {T:FuncId->Option AFunc}
def KH(I:Nat->Env->St->Prop)(k:Nat)(K:KJ):KJ:=fun j e σ=>match j with|none=>∃ k',k'<k/\I k' e σ|some j=>K (some j) e σ
theorem jK(I:Nat->Env->St->Prop)(k:Nat)(K:KJ)(e:Env)(σ:St):KH I k K none e σ = ∃ k',k'<k/\I k' e σ:=by simp only[KH]
theorem jQ(I:Nat->Env->St->Prop)(k:Nat)(K:KJ)(j:AJump)(e:Env)(σ:St):KH I k K (some j) e σ=K (some j) e σ:=by simp only[KH]
theorem L9{b:ACode}{K:KJ}(I:Nat->Env->St->Prop)(step:∀ k e σ,I k e σ->wp T b e σ (KH I k K)):∀ n e σ,I n e σ->SJ T (.loop b) e σ K:=by
 intro n
 induction n using Nat.strongRecOn with
 |_ n ih =>
  intro e σ h;refine .loop (eG (step n e σ h) fun o ho=>ho) (fun o ho hj=>?_) fun o ho hj=>?_
  ·simp only[hj,jK] at ho;obtain⟨k',hk,hI⟩:=ho;exact ih k' hk o.env o.σ hI
  ·cases hj':o.j with
   |none=>exact absurd hj' hj
   |some j=>simp only[hj',jQ] at ho;exact ho
end Go.Am
namespace Go.Am
variable {T:FuncId->Option AFunc}
def F9(r:ARead):List St->Nat->Prop
 |[],_=>True
 |s::ss,j=>(if r.lo<=j/\j<=r.hi then aop r.op r.env s=some (r.v,s) else True)/\F9 r ss (j+1)
theorem LT{r:ARead}:∀ {hist:List St} {k:Nat},F9 r hist k->∀ j s,r.lo<=k+j->k+j<=r.hi->hist[j]? = some s->aop r.op r.env s=some (r.v,s)
 |[],k,_,j,s,_,_,h=>by simp at h
 |t::ss,k,h,j,s,h1,h2,h3=>by
  obtain⟨q1,q2⟩:=h;cases j with
  |zero=>simp at h3;subst h3;rw[if_pos ⟨by omega,by omega⟩] at q1;exact q1
  |succ j=>exact LT q2 j s (by omega) (by omega) (by simpa using h3)
def rO:List ARead->List St->Prop
 |[],_=>True
 |r::rs,hist=>F9 r hist 0/\rO rs hist
theorem F3:∀ {rs:List ARead} {hist:List St},rO rs hist->∀ r∈rs,ARead.ok r hist
 |[],_,_,r,h=>by cases h
 |r::rs,hist,h,q,hq=>by
  rcases List.mem_cons.1 hq with rfl|hq
  ·intro j s h1 h2 h3;exact LT h.1 j s (by omega) (by omega) h3
  ·exact F3 h.2 q hq
def F8(T:FuncId->Option AFunc)(f:AV)(args:List AV)(σ:St)(K:AV->St->Prop):Prop:=∃ v σ',Run T (.callv f args σ) (fun r=>r.v=v/\r.σ=σ')/\K v σ'
@[congr] theorem aGS{f f':AV}{args args':List AV}{σ σ':St}{K:AV->St->Prop}(h1:f=f')(h2:args=args')(h3:σ=σ'):F8 T f args σ K=F8 T f' args' σ' K:=by rw[h1,h2,h3]
def wpD(T:FuncId->Option AFunc):List ADOper->Env->St->Nat->List St->List ARead->(Env->St->Prop)->Prop
 |[],e,σ,_,hist,reads,K=>rO reads hist/\K e σ
 |⟨⟨dst,.call f args,none⟩,_,_⟩::ds,e,σ,next,hist,reads,K=>F8 T (f.ev e) (args.map (·.ev e)) σ fun v σ'=>wpD T ds (Env.put e dst v) σ' next (hist++[σ']) reads K
 |⟨⟨dst,.alloc _,none⟩,_,_⟩::ds,e,σ,next,hist,reads,K=>wpD T ds (Env.put e dst (.ptr next 0)) σ (next+1) hist reads K
 |⟨⟨dst,q,none⟩,lo,hi⟩::ds,e,σ,next,hist,reads,K =>
  nC (aop q e σ) fun v σ' =>
   if q.acts=true then wpD T ds (Env.put e dst v) σ' next (hist++[σ']) reads K
   else σ'=σ/\if q.reads=true then wpD T ds (Env.put e dst v) σ next hist (⟨lo,hi,q,e,v⟩::reads) K else wpD T ds (Env.put e dst v) σ next hist reads K
 |⟨⟨dst,.call f args,some (t,want)⟩,_,_⟩::ds,e,σ,next,hist,reads,K =>
  oU (Env.get e t) want (fun _=>F8 T (f.ev e) (args.map (·.ev e)) σ fun v σ'=>wpD T ds (Env.put e dst v) σ' next (hist++[σ']) reads K)
   (fun _=>wpD T ds (Env.put e dst (.tuple [])) σ next (hist++[σ]) reads K)
 |⟨⟨dst,q,some (t,want)⟩,lo,hi⟩::ds,e,σ,next,hist,reads,K =>
  oU (Env.get e t) want
   (fun _=>q.allocs=false/\nC (aop q e σ) fun v σ' =>
    if q.acts=true then wpD T ds (Env.put e dst v) σ' next (hist++[σ']) reads K
    else σ'=σ/\if q.reads=true then wpD T ds (Env.put e dst v) σ next hist (⟨lo,hi,q,e,v⟩::reads) K else wpD T ds (Env.put e dst v) σ next hist reads K)
   (fun _=>wpD T ds (Env.put e dst (.tuple [])) σ (if q.allocs then next+1 else next) (if q.acts then hist++[σ] else hist) reads K)
theorem lG{Q:Out->Prop}:∀ {ds:List ADOper} {e:Env} {σ:St} {next:Nat} {hist:List St} {reads:List ARead} {K:Env->St->Prop},wpD T ds e σ next hist reads K ->
  (∀ e σ,K e σ->Q ⟨none,e,σ,.undef⟩)->Run T (.dops ds e σ next hist reads) Q
 |[],e,σ,next,hist,reads,K,h,hq=>.dnil (F3 h.1) (hq _ _ h.2)
 |⟨⟨dst,q,g⟩,lo,hi⟩::ds,e,σ,next,hist,reads,K,h,hq=>by
  -- an operation that is neither a call nor a new variable
  have key:AOper.wanted ⟨dst,q,g⟩ e=some true->q.allocs=false->(nC (aop q e σ) fun v σ' =>
    if q.acts=true then wpD T ds (Env.put e dst v) σ' next (hist++[σ']) reads K
    else σ'=σ/\if q.reads=true then wpD T ds (Env.put e dst v) σ next hist (⟨lo,hi,q,e,v⟩::reads) K else wpD T ds (Env.put e dst v) σ next hist reads K) ->
    Run T (.dops (⟨⟨dst,q,g⟩,lo,hi⟩::ds) e σ next hist reads) Q:=by
   intro hw hal h;unfold nC at h;split at h
   ·rename_i v σ' hv;split at h
    ·rename_i ha;exact .dact hw ha hv (lG h hq)
    ·rename_i ha;obtain⟨rfl,h⟩:=h;split at h
     ·rename_i hr;exact .dread hw hr hv (lG h hq)
     ·rename_i hr;exact .dpure hw (by simp[hal];exact⟨by simpa using ha,by simpa using hr⟩) hv (lG h hq)
   ·exact h.elim
  by_cases hc:∃ f args,q = .call f args
  ·obtain⟨f,args,rfl⟩:=hc;cases g with
   |none =>
    simp only[wpD,F8] at h;obtain⟨v,σ',h1,h2⟩:=h;exact .dcall rfl rfl h1 (lG h2 hq)
   |some g =>
    obtain⟨t,want⟩:=g;simp only[wpD,oU] at h;split at h
    ·rename_i b h1;split at h
     ·rename_i hb;obtain⟨v,σ',h3,h4⟩:=h;exact .dcall (by simp[AOper.wanted,h1,hb]) rfl h3 (lG h4 hq)
     ·rename_i hb;exact .doff (by simp[AOper.wanted,h1];simpa using hb) (by simpa[AOp.allocs,AOp.acts] using lG h hq)
    ·rename_i h1;exact .doff (by simp[AOper.wanted,h1]) (by simpa[AOp.allocs,AOp.acts] using lG h hq)
    ·exact h.elim
  ·cases g with
   |none =>
    by_cases hal:∃ z,q = .alloc z
    ·obtain⟨z,rfl⟩:=hal;simp only[wpD] at h;exact .dalloc rfl rfl (lG h hq)
    ·refine key rfl ?_ ?_
     ·cases q<;>first|rfl|exact absurd ⟨_,rfl⟩ hal
     ·cases q<;>first|exact h|exact absurd ⟨_,_,rfl⟩ hc|exact absurd ⟨_,rfl⟩ hal
   |some g =>
    obtain⟨t,want⟩:=g
    have h:oU (Env.get e t) want (fun _=>q.allocs=false/\nC (aop q e σ) fun v σ' =>
      if q.acts=true then wpD T ds (Env.put e dst v) σ' next (hist++[σ']) reads K
      else σ'=σ/\if q.reads=true then wpD T ds (Env.put e dst v) σ next hist (⟨lo,hi,q,e,v⟩::reads) K else wpD T ds (Env.put e dst v) σ next hist reads K)
      (fun _=>wpD T ds (Env.put e dst (.tuple [])) σ (if q.allocs then next+1 else next) (if q.acts then hist++[σ] else hist) reads K):=by
     cases q<;>first|exact h|exact absurd ⟨_,_,rfl⟩ hc
    simp only[oU] at h;split at h
    ·rename_i b h1;split at h
     ·rename_i hb;exact key (by simp[AOper.wanted,h1,hb]) h.1 h.2
     ·rename_i hb;exact .doff (by simp[AOper.wanted,h1];simpa using hb) (lG h hq)
    ·rename_i h1;exact .doff (by simp[AOper.wanted,h1]) (lG h hq)
    ·exact h.elim
end Go.Am
namespace Go.Am
variable {T:FuncId->Option AFunc}
class HP (α:Type) where
 out:α
def bO(r:Option (AV×St))[K:HP (AV->St->Prop)]:Prop:=nC r K.out
theorem aHK(v:AV)(σ:St)(K:AV->St->Prop):bO (K:=⟨K⟩) (some (v,σ))=K v σ:=by simp only[bO,nC]
def cK(T:FuncId->Option AFunc)(f:AV)(args:List AV)(σ:St)[K:HP (AV->St->Prop)]:Prop:=OZ T f args σ K.out
def cD(T:FuncId->Option AFunc)(f:AV)(args:List AV)(σ:St)[K:HP (AV->St->Prop)]:Prop:=F8 T f args σ K.out
def rK(T:FuncId->Option AFunc)(c:ACode)(e:Env)(σ:St)[K:HP KJ]:Prop:=SJ T c e σ K.out
def BN(b:Bool)[A:HP Prop][B:HP Prop]:Prop:=if b=true then A.out else B.out
theorem FX(A:Prop)(B:HP Prop):BN (A:=⟨A⟩) true=A:=by simp[BN]
theorem OG(A:HP Prop)(B:Prop):BN (B:=⟨B⟩) false=B:=by simp[BN]
theorem aJ{b:Bool}{A B:Prop}(h1:b=true->A)(h2:b=false->B):BN (A:=⟨A⟩) (B:=⟨B⟩) b:=by cases b<;>simp[BN]<;>first|exact h1 rfl|exact h2 rfl
def bB(v:AV)[A:HP Prop][B:HP Prop]:Prop:=DG v (fun _=>A.out) (fun _=>B.out)
def bG(v:AV)(want:Bool)[A:HP Prop][B:HP Prop]:Prop:=oU v want (fun _=>A.out) (fun _=>B.out)
theorem aKB(b:ACode)(e:Env)(σ:St)(K:KJ):wp T (.loop b) e σ K=rK (K:=⟨K⟩) T (.loop b) e σ:=by simp only[wp,rK]
theorem aBR(f:AOpd)(ps:List Nat)(a b:ACode)(e:Env)(σ:St)(K:KJ):wp T (.rangeFunc f ps a b) e σ K=rK (K:=⟨K⟩) T (.rangeFunc f ps a b) e σ:=by simp only[wp,rK]
theorem aIH(c:AOpd)(a b:ACode)(e:Env)(σ:St)(K:KJ):wp T (.cond c a b) e σ K=bB (A:=⟨wp T a e σ K⟩) (B:=⟨wp T b e σ K⟩) (c.ev e):=by simp only[wp,bB]
def evs(e:Env):List AOpd->List AV
 |[]=>[]
 |x::xs=>x.ev e::evs e xs
theorem nL(e:Env):∀ xs:List AOpd,xs.map (·.ev e)=evs e xs
 |[]=>rfl
 |x::xs=>by simp[evs,nL e xs]
def ovs(e:Env):Option AOpd->Option AV
 |none=>none
 |some x=>some (x.ev e)
def FP:AV->AV->AV->Option AV
 |.bool true,x,_=>some x
 |.bool false,_,y=>some y
 |_,_,_=>none
def zB(n:Nat)(xs:List AV):Option AV:=if aI n xs=true then some (.lit xs true none) else none
def LL:AV->Option AV
 |.ptr i o=>some (.ptr i o)
 |.lptr xs i o t=>some (.lptr xs i o t)
 |.func f a b=>some (.func f a b)
 |.yield i=>some (.yield i)
 |_=>none
def aDZ:AV->Option AV
 |.int k n=>some (.int k (k.wrap (0-n)))
 |_=>none
def QH(k:IntKind):AV->Option AV
 |.int _ n=>some (.int k (k.wrap n))
 |_=>none
def aCV:AV->Option ByteArray
 |.str s=>some s
 |_=>none
def aA8(σ:St):AV->Option (AV×St)
 |.ptr id 0 =>
  match σ[id]? with
  |some (.siter s pos) =>
   if pos<s.size then some (.tuple [.bool true,.int .i64 pos,.int .i32 (Utf8.decode s pos).1],σ.set id (.siter s (pos+(Utf8.decode s pos).2)))
   else some (.tuple [.bool false],σ)
  |_=>none
 |_=>none
def yX(bytes:Nat)(l c:AV):Option Nat :=
 match l,c with
 |.int _ n,.int _ m=>if 0<=n/\n=m/\n*bytes<=room/\n<=room then some n.toNat else none
 |_,_=>none
def qD(d:Nat):Option AV->Option Int
 |none=>some d
 |some x=>eZ x
def O0(sz:Nat)(σ:St)(x:AV)(lo hi mx:Option AV):Option AV :=
 match jR 1 σ x with
 |none=>none
 |some n =>
  match qD 0 lo,qD n hi,mx.map eZ with
  |some l,some h,none=>pL sz x l h false
  |some l,some h,some (some m)=>if m=h/\hi.isSome=true then pL sz x l h true else none
  |_,_,_=>none
def B8(n sz:Nat)(x:AV)(lo hi:Option AV):Option AV :=
 match x,qD 0 lo,qD n hi with
 |.ptr id off,some l,some h=>if 0<=l/\l<=h/\h<=n then some (.ref id (off+l.toNat*sz) (h.toNat-l.toNat) sz) else none
 |_,_,_=>none
def H6(off:Nat)(sh:Option Nat):AV->Option AV
 |.agg cs=>eI sh cs off
 |_=>none
def pV(arr:Option Nat)(sz:Nat)(x i:AV):Option AV :=
 match eZ i,arr,x with
 |some j,some n,.ptr id off=>if 0<=j/\j<n then some (.ptr id (off+j.toNat*sz)) else none
 |some j,some n,.lptr xs q off t=>if 0<=j/\j<n then some (.lptr xs q (off+j.toNat*sz) t) else none
 |some j,none,.lit xs _ t =>
  match xs[j.toNat]? with
  |some y=>if 0<=j/\y.cells.length=sz then some (.lptr xs j.toNat 0 t) else none
  |none=>none
 |some j,none,.ref id off len sz'=>if 0<=j/\j<len/\sz'=sz then some (.ptr id (off+j.toNat*sz)) else none
 |_,_,_=>none
def ZJ(n sz:Nat)(sh:Option Nat)(x i:AV):Option AV :=
 match eZ i,x with
 |some j,.agg cs=>if 0<=j/\j<n then eI sh cs (j.toNat*sz) else none
 |_,_=>none
def CA(x i:AV):Option AV :=
 match eZ i,x with
 |some j,.str s=>if 0<=j then (s[j.toNat]?).map fun b=>.int .u8 b.toNat else none
 |_,_=>none
def P0(ok:Bool)(zero:AV):Option (Option AV)->Option AV
 |some (some v)=>some (if ok then .tuple [v,.bool true] else v)
 |some none=>some (if ok then .tuple [zero,.bool false] else zero)
 |none=>none
def vH(sh:EqTy)(σ:St)(m k v:AV):Option St :=
 match m with
 |.map id =>
  if (iX sh k k).isSome=false then none else
  match σ[id]? with
  |some (.map es)=>(lQ sh k v es).map fun es'=>σ.set id (.map es')
  |_=>none
 |_=>none
theorem aMY(x:AOpd)(e:Env)(σ:St):aop (.mov x) e σ=some (x.ev e,σ):=by
 simp only[aop]
theorem aEE(z:List AV)(e:Env)(σ:St):aop (.alloc z) e σ=some (.ptr σ.length 0,σ++[.cells z]):=by
 simp only[aop]
theorem aKZ(c x y:AOpd)(e:Env)(σ:St):aop (.pick c x y) e σ=(FP (c.ev e) (x.ev e) (y.ev e)).map (·,σ):=by
 simp only[aop,FP];repeat' split
 all_goals simp_all
theorem aOB(n:Nat)(x:AOpd)(e:Env)(σ:St):aop (.box n x) e σ=(lR n (x.ev e)).map fun cs=>(.ptr σ.length 0,σ++[.cells cs]):=by
 simp only[aop,lR];split<;>simp_all
theorem aB5(z:List AV)(ps:List (Nat×Nat×AOpd))(e:Env)(σ:St):aop (.build z ps) e σ=(cC e z ps).map fun cs=>(.agg cs,σ):=by
 simp only[aop];cases cC e z ps<;>simp
theorem aD8(n:Nat)(xs:List AOpd)(e:Env)(σ:St):aop (.mklit n xs) e σ=(zB n (evs e xs)).map (·,σ):=by
 simp only[aop,zB,nL];split<;>simp_all
theorem aE4(n:Nat)(xs:List AOpd)(e:Env)(σ:St):aop (.mkref n xs) e σ=(zB n (evs e xs)).map fun _=>(.ref σ.length 0 (evs e xs).length n,σ++[.cells ((evs e xs).flatMap AV.cells)]):=by
 simp only[aop,zB,nL];have:=congrArg List.length (nL e xs);split<;>simp_all
theorem aHU(sh:Option Nat)(x:AOpd)(e:Env)(σ:St):aop (.load sh x) e σ=(kD sh σ (x.ev e)).map (·,σ):=by
 simp only[aop];cases kD sh σ (x.ev e)<;>simp
theorem aE5(n:Nat)(x y:AOpd)(e:Env)(σ:St):aop (.store n x y) e σ=(lS n σ (x.ev e) (y.ev e)).map (.tuple [],·):=by
 simp only[aop];cases lS n σ (x.ev e) (y.ev e)<;>simp
theorem OM(x:AOpd)(e:Env)(σ:St):aop (.nilCheck x) e σ=(LL (x.ev e)).map (·,σ):=by
 simp only[aop,LL];cases x.ev e<;>simp
theorem aOP(op:BinOp)(x y:AOpd)(e:Env)(σ:St):aop (.bin op x y) e σ=(dD op (x.ev e) (y.ev e)).map (·,σ):=by
 simp only[aop];cases dD op (x.ev e) (y.ev e)<;>simp
theorem aLP(sh:EqTy)(n:Bool)(x y:AOpd)(e:Env)(σ:St):aop (.eql sh n x y) e σ=(E1 sh n (x.ev e) (y.ev e)).map (·,σ):=by
 simp only[aop,E1];cases iX sh (x.ev e) (y.ev e)<;>simp
theorem aLW(x:AOpd)(e:Env)(σ:St):aop (.not x) e σ=(aC4 (x.ev e)).map (·,σ):=by
 simp only[aop,aC4];cases x.ev e<;>simp
theorem aMR(x:AOpd)(e:Env)(σ:St):aop (.neg x) e σ=(aDZ (x.ev e)).map (·,σ):=by
 simp only[aop,aDZ];cases x.ev e<;>simp
theorem aJI(k:IntKind)(x:AOpd)(e:Env)(σ:St):aop (.conv k x) e σ=(QH k (x.ev e)).map (·,σ):=by
 simp only[aop,QH];cases x.ev e<;>simp
theorem aDH(f:FuncId)(xs ys:List AOpd)(e:Env)(σ:St):aop (.mkfun f xs ys) e σ=some (.func f (evs e xs) (evs e ys),σ):=by
 simp only[aop,nL]
theorem aDF(e:Env)(σ:St):aop (.mkmap) e σ=some (.map σ.length,σ++[.map []]):=by
 simp only[aop]
theorem Q8(z:List AV)(b:Nat)(x y:AOpd)(e:Env)(σ:St):aop (.mkslice z b x y) e σ=(yX b (x.ev e) (y.ev e)).map fun n=>(.ref σ.length 0 n z.length,σ++[.cells (List.replicate n z).flatten]):=by
 simp only[aop,yX];generalize x.ev e=u;generalize y.ev e=v;cases u<;>cases v<;>first|rfl|(dsimp only;split<;>first|rfl|simp_all|(split<;>simp_all))
theorem V7(n:Nat)(x:AOpd)(lo hi mx:Option AOpd)(e:Env)(σ:St):aop (.slicev n x lo hi mx) e σ=(O0 n σ (x.ev e) (ovs e lo) (ovs e hi) (ovs e mx)).map (·,σ):=by
 simp only[aop,O0];cases jR 1 σ (x.ev e)<;>cases lo<;>cases hi<;>cases mx<;>simp only[bS,qD,ovs,Option.map_none,Option.map_some]<;>repeat' split
 all_goals simp_all
theorem V5(n s:Nat)(x:AOpd)(lo hi:Option AOpd)(e:Env)(σ:St):aop (.slicea n s x lo hi) e σ=(B8 n s (x.ev e) (ovs e lo) (ovs e hi)).map (·,σ):=by
 simp only[aop,B8];generalize x.ev e=u;cases lo with
 |none=>cases hi with
  |none=>simp only[bS,qD,ovs];cases u<;>first|rfl|(dsimp only;split<;>first|rfl|simp_all|(split<;>simp_all))
  |some h=>simp only[bS,qD,ovs];generalize eZ (h.ev e)=p;cases u<;>cases p<;>first|rfl|(dsimp only;split<;>first|rfl|simp_all|(split<;>simp_all))
 |some l=>cases hi with
  |none=>simp only[bS,qD,ovs];generalize eZ (l.ev e)=p;cases u<;>cases p<;>first|rfl|(dsimp only;split<;>first|rfl|simp_all|(split<;>simp_all))
  |some h=>simp only[bS,qD,ovs];generalize eZ (l.ev e)=p;generalize eZ (h.ev e)=q;cases u<;>cases p<;>cases q<;>first|rfl|(dsimp only;split<;>first|rfl|simp_all|(split<;>simp_all))
theorem aFF(x:AOpd)(o:Nat)(e:Env)(σ:St):aop (.faddr x o) e σ=(z0 o (x.ev e)).map (·,σ):=by
 simp only[aop,z0];cases x.ev e<;>simp
theorem aEI(x:AOpd)(o:Nat)(sh:Option Nat)(e:Env)(σ:St):aop (.field x o sh) e σ=(H6 o sh (x.ev e)).map (·,σ):=by
 simp only[aop,H6];cases x.ev e<;>simp<;>(rename_i cs;cases eI sh cs o<;>simp)
theorem aCU(a:Option Nat)(s:Nat)(x i:AOpd)(e:Env)(σ:St):aop (.iaddr a s x i) e σ=(pV a s (x.ev e) (i.ev e)).map (·,σ):=by
 simp only[aop,pV];generalize eZ (i.ev e)=q;generalize x.ev e=u;cases q<;>cases a<;>cases u<;>first|rfl|(dsimp only;split<;>first|rfl|simp_all|(split<;>simp_all))
theorem aBY(n s:Nat)(sh:Option Nat)(x i:AOpd)(e:Env)(σ:St):aop (.index n s sh x i) e σ=(ZJ n s sh (x.ev e) (i.ev e)).map (·,σ):=by
 simp only[aop,ZJ];generalize eZ (i.ev e)=q;generalize x.ev e=u;cases q<;>cases u<;>first|rfl|(dsimp only;split<;>first|rfl|simp_all|(split<;>simp_all))
theorem XO(x i:AOpd)(e:Env)(σ:St):aop (.sindex x i) e σ=(CA (x.ev e) (i.ev e)).map (·,σ):=by
 simp only[aop,CA];generalize eZ (i.ev e)=q;generalize x.ev e=u;cases q<;>cases u<;>first|rfl|(dsimp only;split<;>first|rfl|(rename_i k b h;cases b[k.toNat]?<;>rfl))
theorem WP(sh:EqTy)(ok:Bool)(z:AV)(m k:AOpd)(e:Env)(σ:St):aop (.lookup sh ok z m k) e σ=(P0 ok z (rP sh σ (m.ev e) (k.ev e))).map (·,σ):=by
 simp only[aop,P0];cases rP sh σ (m.ev e) (k.ev e) with
 |none=>rfl
 |some o=>cases o<;>rfl
theorem aAN(sh:EqTy)(m k v:AOpd)(e:Env)(σ:St):aop (.mapset sh m k v) e σ=(vH sh σ (m.ev e) (k.ev e) (v.ev e)).map (.tuple [],·):=by
 simp only[aop,vH];repeat' split
 all_goals simp_all
theorem aPE(x:AOpd)(i:Nat)(e:Env)(σ:St):aop (.ext x i) e σ=(aEZ i (x.ev e)).map (·,σ):=by
 simp only[aop,aEZ];cases x.ev e<;>simp<;>(rename_i vs;cases vs[i]?<;>simp)
theorem aOI(k:Nat)(x:AOpd)(e:Env)(σ:St):aop (.len k x) e σ=(jR k σ (x.ev e)).map fun n=>(.int .i64 n,σ):=by
 simp only[aop];cases jR k σ (x.ev e)<;>simp
theorem aBC(n b:Nat)(x y:AOpd)(e:Env)(σ:St):aop (.append n b x y) e σ=cI n b σ (x.ev e) (y.ev e):=by
 simp only[aop]
theorem aEO(n b:Nat)(x y:AOpd)(e:Env)(σ:St):aop (.apref n b x y) e σ=sJ n b σ (x.ev e) (y.ev e):=by
 simp only[aop]
theorem aG2(n:Nat)(x y:AOpd)(e:Env)(σ:St):aop (.copy n x y) e σ=sI n σ (x.ev e) (y.ev e):=by
 simp only[aop]
theorem aN6(xs:List AOpd)(e:Env)(σ:St):aop (.min xs) e σ=(A6 (evs e xs)).map (·,σ):=by
 simp only[aop,nL];cases A6 (evs e xs)<;>simp
theorem aP2(xs:List AOpd)(e:Env)(σ:St):aop (.max xs) e σ=(AT (evs e xs)).map (·,σ):=by
 simp only[aop,nL];cases AT (evs e xs)<;>simp
theorem YR(x:AOpd)(e:Env)(σ:St):aop (.srange x) e σ=(aCV (x.ev e)).map fun s=>(.ptr σ.length 0,σ++[.siter s 0]):=by
 simp only[aop,aCV];cases x.ev e<;>simp
theorem aCK(x:AOpd)(e:Env)(σ:St):aop (.snext x) e σ=aA8 σ (x.ev e):=by
 simp only[aop,aA8];cases x.ev e<;>rfl
theorem aNX(x:AOpd)(d:Option Nat)(os:List AOper)(e:Env)(σ:St)(K:Env->St->Prop):aN T (⟨d,.mov x,none⟩::os) e σ K=bO (K:=⟨fun v σ'=>aN T os (Env.put e d v) σ' K⟩) (aop (.mov x) e σ):=by simp only[aN,gX,bO]
theorem aCG(z:List AV)(d:Option Nat)(os:List AOper)(e:Env)(σ:St)(K:Env->St->Prop):aN T (⟨d,.alloc z,none⟩::os) e σ K=bO (K:=⟨fun v σ'=>aN T os (Env.put e d v) σ' K⟩) (aop (.alloc z) e σ):=by simp only[aN,gX,bO]
theorem aH0(c x y:AOpd)(d:Option Nat)(os:List AOper)(e:Env)(σ:St)(K:Env->St->Prop):aN T (⟨d,.pick c x y,none⟩::os) e σ K=bO (K:=⟨fun v σ'=>aN T os (Env.put e d v) σ' K⟩) (aop (.pick c x y) e σ):=by simp only[aN,gX,bO]
theorem aNH(n:Nat)(x:AOpd)(d:Option Nat)(os:List AOper)(e:Env)(σ:St)(K:Env->St->Prop):aN T (⟨d,.box n x,none⟩::os) e σ K=bO (K:=⟨fun v σ'=>aN T os (Env.put e d v) σ' K⟩) (aop (.box n x) e σ):=by simp only[aN,gX,bO]
theorem aE8(z:List AV)(ps:List (Nat×Nat×AOpd))(d:Option Nat)(os:List AOper)(e:Env)(σ:St)(K:Env->St->Prop):aN T (⟨d,.build z ps,none⟩::os) e σ K=bO (K:=⟨fun v σ'=>aN T os (Env.put e d v) σ' K⟩) (aop (.build z ps) e σ):=by simp only[aN,gX,bO]
theorem aEK(n:Nat)(xs:List AOpd)(d:Option Nat)(os:List AOper)(e:Env)(σ:St)(K:Env->St->Prop):aN T (⟨d,.mklit n xs,none⟩::os) e σ K=bO (K:=⟨fun v σ'=>aN T os (Env.put e d v) σ' K⟩) (aop (.mklit n xs) e σ):=by simp only[aN,gX,bO]
theorem aDV(n:Nat)(xs:List AOpd)(d:Option Nat)(os:List AOper)(e:Env)(σ:St)(K:Env->St->Prop):aN T (⟨d,.mkref n xs,none⟩::os) e σ K=bO (K:=⟨fun v σ'=>aN T os (Env.put e d v) σ' K⟩) (aop (.mkref n xs) e σ):=by simp only[aN,gX,bO]
theorem aKF(sh:Option Nat)(x:AOpd)(d:Option Nat)(os:List AOper)(e:Env)(σ:St)(K:Env->St->Prop):aN T (⟨d,.load sh x,none⟩::os) e σ K=bO (K:=⟨fun v σ'=>aN T os (Env.put e d v) σ' K⟩) (aop (.load sh x) e σ):=by simp only[aN,gX,bO]
theorem aDO(n:Nat)(x y:AOpd)(d:Option Nat)(os:List AOper)(e:Env)(σ:St)(K:Env->St->Prop):aN T (⟨d,.store n x y,none⟩::os) e σ K=bO (K:=⟨fun v σ'=>aN T os (Env.put e d v) σ' K⟩) (aop (.store n x y) e σ):=by simp only[aN,gX,bO]
theorem M8(x:AOpd)(d:Option Nat)(os:List AOper)(e:Env)(σ:St)(K:Env->St->Prop):aN T (⟨d,.nilCheck x,none⟩::os) e σ K=bO (K:=⟨fun v σ'=>aN T os (Env.put e d v) σ' K⟩) (aop (.nilCheck x) e σ):=by simp only[aN,gX,bO]
theorem aPZ(op:BinOp)(x y:AOpd)(d:Option Nat)(os:List AOper)(e:Env)(σ:St)(K:Env->St->Prop):aN T (⟨d,.bin op x y,none⟩::os) e σ K=bO (K:=⟨fun v σ'=>aN T os (Env.put e d v) σ' K⟩) (aop (.bin op x y) e σ):=by simp only[aN,gX,bO]
theorem aNW(sh:EqTy)(n:Bool)(x y:AOpd)(d:Option Nat)(os:List AOper)(e:Env)(σ:St)(K:Env->St->Prop):aN T (⟨d,.eql sh n x y,none⟩::os) e σ K=bO (K:=⟨fun v σ'=>aN T os (Env.put e d v) σ' K⟩) (aop (.eql sh n x y) e σ):=by simp only[aN,gX,bO]
theorem aMW(x:AOpd)(d:Option Nat)(os:List AOper)(e:Env)(σ:St)(K:Env->St->Prop):aN T (⟨d,.not x,none⟩::os) e σ K=bO (K:=⟨fun v σ'=>aN T os (Env.put e d v) σ' K⟩) (aop (.not x) e σ):=by simp only[aN,gX,bO]
theorem aOF(x:AOpd)(d:Option Nat)(os:List AOper)(e:Env)(σ:St)(K:Env->St->Prop):aN T (⟨d,.neg x,none⟩::os) e σ K=bO (K:=⟨fun v σ'=>aN T os (Env.put e d v) σ' K⟩) (aop (.neg x) e σ):=by simp only[aN,gX,bO]
theorem aG3(k:IntKind)(x:AOpd)(d:Option Nat)(os:List AOper)(e:Env)(σ:St)(K:Env->St->Prop):aN T (⟨d,.conv k x,none⟩::os) e σ K=bO (K:=⟨fun v σ'=>aN T os (Env.put e d v) σ' K⟩) (aop (.conv k x) e σ):=by simp only[aN,gX,bO]
theorem aCO(f:FuncId)(xs ys:List AOpd)(d:Option Nat)(os:List AOper)(e:Env)(σ:St)(K:Env->St->Prop):aN T (⟨d,.mkfun f xs ys,none⟩::os) e σ K=bO (K:=⟨fun v σ'=>aN T os (Env.put e d v) σ' K⟩) (aop (.mkfun f xs ys) e σ):=by simp only[aN,gX,bO]
theorem aE2(d:Option Nat)(os:List AOper)(e:Env)(σ:St)(K:Env->St->Prop):aN T (⟨d,.mkmap,none⟩::os) e σ K=bO (K:=⟨fun v σ'=>aN T os (Env.put e d v) σ' K⟩) (aop (.mkmap) e σ):=by simp only[aN,gX,bO]
theorem TQ(z:List AV)(b:Nat)(x y:AOpd)(d:Option Nat)(os:List AOper)(e:Env)(σ:St)(K:Env->St->Prop):aN T (⟨d,.mkslice z b x y,none⟩::os) e σ K=bO (K:=⟨fun v σ'=>aN T os (Env.put e d v) σ' K⟩) (aop (.mkslice z b x y) e σ):=by simp only[aN,gX,bO]
theorem VH(n:Nat)(x:AOpd)(lo hi mx:Option AOpd)(d:Option Nat)(os:List AOper)(e:Env)(σ:St)(K:Env->St->Prop):aN T (⟨d,.slicev n x lo hi mx,none⟩::os) e σ K=bO (K:=⟨fun v σ'=>aN T os (Env.put e d v) σ' K⟩) (aop (.slicev n x lo hi mx) e σ):=by simp only[aN,gX,bO]
theorem Y2(n s:Nat)(x:AOpd)(lo hi:Option AOpd)(d:Option Nat)(os:List AOper)(e:Env)(σ:St)(K:Env->St->Prop):aN T (⟨d,.slicea n s x lo hi,none⟩::os) e σ K=bO (K:=⟨fun v σ'=>aN T os (Env.put e d v) σ' K⟩) (aop (.slicea n s x lo hi) e σ):=by simp only[aN,gX,bO]
theorem aD1(x:AOpd)(o:Nat)(d:Option Nat)(os:List AOper)(e:Env)(σ:St)(K:Env->St->Prop):aN T (⟨d,.faddr x o,none⟩::os) e σ K=bO (K:=⟨fun v σ'=>aN T os (Env.put e d v) σ' K⟩) (aop (.faddr x o) e σ):=by simp only[aN,gX,bO]
theorem aC7(x:AOpd)(o:Nat)(sh:Option Nat)(d:Option Nat)(os:List AOper)(e:Env)(σ:St)(K:Env->St->Prop):aN T (⟨d,.field x o sh,none⟩::os) e σ K=bO (K:=⟨fun v σ'=>aN T os (Env.put e d v) σ' K⟩) (aop (.field x o sh) e σ):=by simp only[aN,gX,bO]
theorem aEM(a:Option Nat)(s:Nat)(x i:AOpd)(d:Option Nat)(os:List AOper)(e:Env)(σ:St)(K:Env->St->Prop):aN T (⟨d,.iaddr a s x i,none⟩::os) e σ K=bO (K:=⟨fun v σ'=>aN T os (Env.put e d v) σ' K⟩) (aop (.iaddr a s x i) e σ):=by simp only[aN,gX,bO]
theorem aC6(n s:Nat)(sh:Option Nat)(x i:AOpd)(d:Option Nat)(os:List AOper)(e:Env)(σ:St)(K:Env->St->Prop):aN T (⟨d,.index n s sh x i,none⟩::os) e σ K=bO (K:=⟨fun v σ'=>aN T os (Env.put e d v) σ' K⟩) (aop (.index n s sh x i) e σ):=by simp only[aN,gX,bO]
theorem XX(x i:AOpd)(d:Option Nat)(os:List AOper)(e:Env)(σ:St)(K:Env->St->Prop):aN T (⟨d,.sindex x i,none⟩::os) e σ K=bO (K:=⟨fun v σ'=>aN T os (Env.put e d v) σ' K⟩) (aop (.sindex x i) e σ):=by simp only[aN,gX,bO]
theorem T3(sh:EqTy)(ok:Bool)(z:AV)(m k:AOpd)(d:Option Nat)(os:List AOper)(e:Env)(σ:St)(K:Env->St->Prop):aN T (⟨d,.lookup sh ok z m k,none⟩::os) e σ K=bO (K:=⟨fun v σ'=>aN T os (Env.put e d v) σ' K⟩) (aop (.lookup sh ok z m k) e σ):=by simp only[aN,gX,bO]
theorem aAO(sh:EqTy)(m k v:AOpd)(d:Option Nat)(os:List AOper)(e:Env)(σ:St)(K:Env->St->Prop):aN T (⟨d,.mapset sh m k v,none⟩::os) e σ K=bO (K:=⟨fun v σ'=>aN T os (Env.put e d v) σ' K⟩) (aop (.mapset sh m k v) e σ):=by simp only[aN,gX,bO]
theorem aMM(x:AOpd)(i:Nat)(d:Option Nat)(os:List AOper)(e:Env)(σ:St)(K:Env->St->Prop):aN T (⟨d,.ext x i,none⟩::os) e σ K=bO (K:=⟨fun v σ'=>aN T os (Env.put e d v) σ' K⟩) (aop (.ext x i) e σ):=by simp only[aN,gX,bO]
theorem aO4(k:Nat)(x:AOpd)(d:Option Nat)(os:List AOper)(e:Env)(σ:St)(K:Env->St->Prop):aN T (⟨d,.len k x,none⟩::os) e σ K=bO (K:=⟨fun v σ'=>aN T os (Env.put e d v) σ' K⟩) (aop (.len k x) e σ):=by simp only[aN,gX,bO]
theorem WU(n b:Nat)(x y:AOpd)(d:Option Nat)(os:List AOper)(e:Env)(σ:St)(K:Env->St->Prop):aN T (⟨d,.append n b x y,none⟩::os) e σ K=bO (K:=⟨fun v σ'=>aN T os (Env.put e d v) σ' K⟩) (aop (.append n b x y) e σ):=by simp only[aN,gX,bO]
theorem aB4(n b:Nat)(x y:AOpd)(d:Option Nat)(os:List AOper)(e:Env)(σ:St)(K:Env->St->Prop):aN T (⟨d,.apref n b x y,none⟩::os) e σ K=bO (K:=⟨fun v σ'=>aN T os (Env.put e d v) σ' K⟩) (aop (.apref n b x y) e σ):=by simp only[aN,gX,bO]
theorem aHD(n:Nat)(x y:AOpd)(d:Option Nat)(os:List AOper)(e:Env)(σ:St)(K:Env->St->Prop):aN T (⟨d,.copy n x y,none⟩::os) e σ K=bO (K:=⟨fun v σ'=>aN T os (Env.put e d v) σ' K⟩) (aop (.copy n x y) e σ):=by simp only[aN,gX,bO]
theorem aM9(xs:List AOpd)(d:Option Nat)(os:List AOper)(e:Env)(σ:St)(K:Env->St->Prop):aN T (⟨d,.min xs,none⟩::os) e σ K=bO (K:=⟨fun v σ'=>aN T os (Env.put e d v) σ' K⟩) (aop (.min xs) e σ):=by simp only[aN,gX,bO]
theorem aP4(xs:List AOpd)(d:Option Nat)(os:List AOper)(e:Env)(σ:St)(K:Env->St->Prop):aN T (⟨d,.max xs,none⟩::os) e σ K=bO (K:=⟨fun v σ'=>aN T os (Env.put e d v) σ' K⟩) (aop (.max xs) e σ):=by simp only[aN,gX,bO]
theorem T5(x:AOpd)(d:Option Nat)(os:List AOper)(e:Env)(σ:St)(K:Env->St->Prop):aN T (⟨d,.srange x,none⟩::os) e σ K=bO (K:=⟨fun v σ'=>aN T os (Env.put e d v) σ' K⟩) (aop (.srange x) e σ):=by simp only[aN,gX,bO]
theorem aCF(x:AOpd)(d:Option Nat)(os:List AOper)(e:Env)(σ:St)(K:Env->St->Prop):aN T (⟨d,.snext x,none⟩::os) e σ K=bO (K:=⟨fun v σ'=>aN T os (Env.put e d v) σ' K⟩) (aop (.snext x) e σ):=by simp only[aN,gX,bO]
theorem aJ6(f:AOpd)(xs:List AOpd)(d:Option Nat)(os:List AOper)(e:Env)(σ:St)(K:Env->St->Prop):aN T (⟨d,.call f xs,none⟩::os) e σ K=cK (K:=⟨fun v σ'=>aN T os (Env.put e d v) σ' K⟩) T (f.ev e) (evs e xs) σ:=by simp only[aN,gX,nL,cK]
theorem aCN(b:Bool)(A B:HP Prop):bB (.bool b) (A:=A) (B:=B)=BN (A:=A) (B:=B) b:=by cases b<;>simp[bB,DG,BN]
theorem ZK(b:Bool)(A B:HP Prop):bG (.bool b) true (A:=A) (B:=B)=BN (A:=A) (B:=B) b:=by cases b<;>simp[bG,oU,BN]
theorem aAU(b:Bool)(A B:HP Prop):bG (.bool b) false (A:=A) (B:=B)=BN (A:=B) (B:=A) b:=by cases b<;>simp[bG,oU,BN]
theorem VI(w:Bool)(A:HP Prop)(B:Prop):bG (.tuple []) w (A:=A) (B:=⟨B⟩)=B:=by simp[bG,oU]
theorem aCH(d:Option Nat)(q:AOp)(t:Nat)(want:Bool)(os:List AOper)(e:Env)(σ:St)(K:Env->St->Prop):aN T (⟨d,q,some (t,want)⟩::os) e σ K =
  bG (A:=⟨aN T (⟨d,q,none⟩::os) e σ K⟩) (B:=⟨aN T os (Env.put e d (.tuple [])) σ K⟩) (Env.get e t) want:=by simp only[aN,bG]
theorem aNT(ds:List ADOper)(e:Env)(σ:St)(K:KJ):wp T (.dreg ds) e σ K=rK (K:=⟨K⟩) T (.dreg ds) e σ:=by simp only[wp,rK]
theorem Q0{ds:List ADOper}{e:Env}{σ:St}{K:KJ}(h:wpD T ds e (σ++dC ds) σ.length [σ++dC ds] [] fun e σ=>K none e σ):rK (K:=⟨K⟩) T (.dreg ds) e σ:=.dreg (lG h fun e σ hk=>hk)
theorem aOR(e:Env)(σ:St)(next:Nat)(hist:List St)(reads:List ARead)(K:Env->St->Prop):wpD T [] e σ next hist reads K=(rO reads hist/\K e σ):=by simp only[wpD]
theorem aKA(f:AOpd)(xs:List AOpd)(d:Option Nat)(lo hi:Nat)(ds:List ADOper)(e:Env)(σ:St)(next:Nat)(hist:List St)(reads:List ARead)(K:Env->St->Prop):
  wpD T (⟨⟨d,.call f xs,none⟩,lo,hi⟩::ds) e σ next hist reads K=cD (K:=⟨fun v σ'=>wpD T ds (Env.put e d v) σ' next (hist++[σ']) reads K⟩) T (f.ev e) (evs e xs) σ:=by simp only[wpD,nL,cD]
theorem aCI(z:List AV)(d:Option Nat)(lo hi:Nat)(ds:List ADOper)(e:Env)(σ:St)(next:Nat)(hist:List St)(reads:List ARead)(K:Env->St->Prop):
  wpD T (⟨⟨d,.alloc z,none⟩,lo,hi⟩::ds) e σ next hist reads K=wpD T ds (Env.put e d (.ptr next 0)) σ (next+1) hist reads K:=by simp only[wpD]
def v6(lo hi:Nat)(q:AOp)(e:Env)(v:AV):List St->Nat->Prop
 |[],_=>True
 |s::ss,j=>(if lo<=j/\j<=hi then aop q e s=some (v,s) else True)/\v6 lo hi q e v ss (j+1)
theorem JY(r:ARead):∀ (ss:List St) (j:Nat),v6 r.lo r.hi r.op r.env r.v ss j=F9 r ss j
 |[],j=>by simp only[v6,F9]
 |s::ss,j=>by simp only[v6,F9,JY r ss (j+1)]
theorem YS(hist:List St):rO [] hist=True:=by simp only[rO]
theorem W9(lo hi:Nat)(q:AOp)(e:Env)(v:AV)(rs:List ARead)(hist:List St):rO (⟨lo,hi,q,e,v⟩::rs) hist=(v6 lo hi q e v hist 0/\rO rs hist):=by
 simp only[rO];rw[<-JY]
theorem aEN(lo hi:Nat)(q:AOp)(e:Env)(v:AV)(j:Nat):v6 lo hi q e v [] j=True:=by simp only[v6]
theorem aDC(lo hi:Nat)(q:AOp)(e:Env)(v:AV)(s:St)(ss:List St)(j:Nat):v6 lo hi q e v (s::ss) j=((if lo<=j/\j<=hi then aop q e s=some (v,s) else True)/\v6 lo hi q e v ss (j+1)):=by simp only[v6]
theorem aOH(x:AOpd)(d:Option Nat)(wl wh:Nat)(ds:List ADOper)(e:Env)(σ:St)(next:Nat)(hist:List St)(reads:List ARead)(K:Env->St->Prop):wpD T (⟨⟨d,.mov x,none⟩,wl,wh⟩::ds) e σ next hist reads K=bO (K:=⟨fun v σ'=>σ'=σ/\wpD T ds (Env.put e d v) σ next hist reads K⟩) (aop (.mov x) e σ):=by
 simp only[wpD,bO,AOp.acts,AOp.reads,if_true,Bool.false_eq_true,if_false]
theorem aKJ(c x y:AOpd)(d:Option Nat)(wl wh:Nat)(ds:List ADOper)(e:Env)(σ:St)(next:Nat)(hist:List St)(reads:List ARead)(K:Env->St->Prop):wpD T (⟨⟨d,.pick c x y,none⟩,wl,wh⟩::ds) e σ next hist reads K=bO (K:=⟨fun v σ'=>σ'=σ/\wpD T ds (Env.put e d v) σ next hist reads K⟩) (aop (.pick c x y) e σ):=by
 simp only[wpD,bO,AOp.acts,AOp.reads,if_true,Bool.false_eq_true,if_false]
theorem aMN(n:Nat)(x:AOpd)(d:Option Nat)(wl wh:Nat)(ds:List ADOper)(e:Env)(σ:St)(next:Nat)(hist:List St)(reads:List ARead)(K:Env->St->Prop):wpD T (⟨⟨d,.box n x,none⟩,wl,wh⟩::ds) e σ next hist reads K=bO (K:=⟨fun v σ'=>wpD T ds (Env.put e d v) σ' next (hist++[σ']) reads K⟩) (aop (.box n x) e σ):=by
 simp only[wpD,bO,AOp.acts,AOp.reads,if_true,Bool.false_eq_true,if_false]
theorem aEA(z:List AV)(ps:List (Nat×Nat×AOpd))(d:Option Nat)(wl wh:Nat)(ds:List ADOper)(e:Env)(σ:St)(next:Nat)(hist:List St)(reads:List ARead)(K:Env->St->Prop):wpD T (⟨⟨d,.build z ps,none⟩,wl,wh⟩::ds) e σ next hist reads K=bO (K:=⟨fun v σ'=>σ'=σ/\wpD T ds (Env.put e d v) σ next hist reads K⟩) (aop (.build z ps) e σ):=by
 simp only[wpD,bO,AOp.acts,AOp.reads,if_true,Bool.false_eq_true,if_false]
theorem aFC(n:Nat)(xs:List AOpd)(d:Option Nat)(wl wh:Nat)(ds:List ADOper)(e:Env)(σ:St)(next:Nat)(hist:List St)(reads:List ARead)(K:Env->St->Prop):wpD T (⟨⟨d,.mklit n xs,none⟩,wl,wh⟩::ds) e σ next hist reads K=bO (K:=⟨fun v σ'=>σ'=σ/\wpD T ds (Env.put e d v) σ next hist reads K⟩) (aop (.mklit n xs) e σ):=by
 simp only[wpD,bO,AOp.acts,AOp.reads,if_true,Bool.false_eq_true,if_false]
theorem aEG(n:Nat)(xs:List AOpd)(d:Option Nat)(wl wh:Nat)(ds:List ADOper)(e:Env)(σ:St)(next:Nat)(hist:List St)(reads:List ARead)(K:Env->St->Prop):wpD T (⟨⟨d,.mkref n xs,none⟩,wl,wh⟩::ds) e σ next hist reads K=bO (K:=⟨fun v σ'=>wpD T ds (Env.put e d v) σ' next (hist++[σ']) reads K⟩) (aop (.mkref n xs) e σ):=by
 simp only[wpD,bO,AOp.acts,AOp.reads,if_true,Bool.false_eq_true,if_false]
theorem aIT(sh:Option Nat)(x:AOpd)(d:Option Nat)(wl wh:Nat)(ds:List ADOper)(e:Env)(σ:St)(next:Nat)(hist:List St)(reads:List ARead)(K:Env->St->Prop):wpD T (⟨⟨d,.load sh x,none⟩,wl,wh⟩::ds) e σ next hist reads K=bO (K:=⟨fun v σ'=>σ'=σ/\wpD T ds (Env.put e d v) σ next hist (⟨wl,wh,.load sh x,e,v⟩::reads) K⟩) (aop (.load sh x) e σ):=by
 simp only[wpD,bO,AOp.acts,AOp.reads,if_true,Bool.false_eq_true,if_false]
theorem aCM(n:Nat)(x y:AOpd)(d:Option Nat)(wl wh:Nat)(ds:List ADOper)(e:Env)(σ:St)(next:Nat)(hist:List St)(reads:List ARead)(K:Env->St->Prop):wpD T (⟨⟨d,.store n x y,none⟩,wl,wh⟩::ds) e σ next hist reads K=bO (K:=⟨fun v σ'=>wpD T ds (Env.put e d v) σ' next (hist++[σ']) reads K⟩) (aop (.store n x y) e σ):=by
 simp only[wpD,bO,AOp.acts,AOp.reads,if_true,Bool.false_eq_true,if_false]
theorem NM(x:AOpd)(d:Option Nat)(wl wh:Nat)(ds:List ADOper)(e:Env)(σ:St)(next:Nat)(hist:List St)(reads:List ARead)(K:Env->St->Prop):wpD T (⟨⟨d,.nilCheck x,none⟩,wl,wh⟩::ds) e σ next hist reads K=bO (K:=⟨fun v σ'=>σ'=σ/\wpD T ds (Env.put e d v) σ next hist reads K⟩) (aop (.nilCheck x) e σ):=by
 simp only[wpD,bO,AOp.acts,AOp.reads,if_true,Bool.false_eq_true,if_false]
theorem aL9(op:BinOp)(x y:AOpd)(d:Option Nat)(wl wh:Nat)(ds:List ADOper)(e:Env)(σ:St)(next:Nat)(hist:List St)(reads:List ARead)(K:Env->St->Prop):wpD T (⟨⟨d,.bin op x y,none⟩,wl,wh⟩::ds) e σ next hist reads K=bO (K:=⟨fun v σ'=>σ'=σ/\wpD T ds (Env.put e d v) σ next hist reads K⟩) (aop (.bin op x y) e σ):=by
 simp only[wpD,bO,AOp.acts,AOp.reads,if_true,Bool.false_eq_true,if_false]
theorem aO6(sh:EqTy)(n:Bool)(x y:AOpd)(d:Option Nat)(wl wh:Nat)(ds:List ADOper)(e:Env)(σ:St)(next:Nat)(hist:List St)(reads:List ARead)(K:Env->St->Prop):wpD T (⟨⟨d,.eql sh n x y,none⟩,wl,wh⟩::ds) e σ next hist reads K=bO (K:=⟨fun v σ'=>σ'=σ/\wpD T ds (Env.put e d v) σ next hist reads K⟩) (aop (.eql sh n x y) e σ):=by
 simp only[wpD,bO,AOp.acts,AOp.reads,if_true,Bool.false_eq_true,if_false]
theorem aLV(x:AOpd)(d:Option Nat)(wl wh:Nat)(ds:List ADOper)(e:Env)(σ:St)(next:Nat)(hist:List St)(reads:List ARead)(K:Env->St->Prop):wpD T (⟨⟨d,.not x,none⟩,wl,wh⟩::ds) e σ next hist reads K=bO (K:=⟨fun v σ'=>σ'=σ/\wpD T ds (Env.put e d v) σ next hist reads K⟩) (aop (.not x) e σ):=by
 simp only[wpD,bO,AOp.acts,AOp.reads,if_true,Bool.false_eq_true,if_false]
theorem aPQ(x:AOpd)(d:Option Nat)(wl wh:Nat)(ds:List ADOper)(e:Env)(σ:St)(next:Nat)(hist:List St)(reads:List ARead)(K:Env->St->Prop):wpD T (⟨⟨d,.neg x,none⟩,wl,wh⟩::ds) e σ next hist reads K=bO (K:=⟨fun v σ'=>σ'=σ/\wpD T ds (Env.put e d v) σ next hist reads K⟩) (aop (.neg x) e σ):=by
 simp only[wpD,bO,AOp.acts,AOp.reads,if_true,Bool.false_eq_true,if_false]
theorem aG6(k:IntKind)(x:AOpd)(d:Option Nat)(wl wh:Nat)(ds:List ADOper)(e:Env)(σ:St)(next:Nat)(hist:List St)(reads:List ARead)(K:Env->St->Prop):wpD T (⟨⟨d,.conv k x,none⟩,wl,wh⟩::ds) e σ next hist reads K=bO (K:=⟨fun v σ'=>σ'=σ/\wpD T ds (Env.put e d v) σ next hist reads K⟩) (aop (.conv k x) e σ):=by
 simp only[wpD,bO,AOp.acts,AOp.reads,if_true,Bool.false_eq_true,if_false]
theorem aD9(f:FuncId)(xs ys:List AOpd)(d:Option Nat)(wl wh:Nat)(ds:List ADOper)(e:Env)(σ:St)(next:Nat)(hist:List St)(reads:List ARead)(K:Env->St->Prop):wpD T (⟨⟨d,.mkfun f xs ys,none⟩,wl,wh⟩::ds) e σ next hist reads K=bO (K:=⟨fun v σ'=>σ'=σ/\wpD T ds (Env.put e d v) σ next hist reads K⟩) (aop (.mkfun f xs ys) e σ):=by
 simp only[wpD,bO,AOp.acts,AOp.reads,if_true,Bool.false_eq_true,if_false]
theorem aCQ(d:Option Nat)(wl wh:Nat)(ds:List ADOper)(e:Env)(σ:St)(next:Nat)(hist:List St)(reads:List ARead)(K:Env->St->Prop):wpD T (⟨⟨d,.mkmap,none⟩,wl,wh⟩::ds) e σ next hist reads K=bO (K:=⟨fun v σ'=>wpD T ds (Env.put e d v) σ' next (hist++[σ']) reads K⟩) (aop (.mkmap) e σ):=by
 simp only[wpD,bO,AOp.acts,AOp.reads,if_true,Bool.false_eq_true,if_false]
theorem TI(z:List AV)(b:Nat)(x y:AOpd)(d:Option Nat)(wl wh:Nat)(ds:List ADOper)(e:Env)(σ:St)(next:Nat)(hist:List St)(reads:List ARead)(K:Env->St->Prop):wpD T (⟨⟨d,.mkslice z b x y,none⟩,wl,wh⟩::ds) e σ next hist reads K=bO (K:=⟨fun v σ'=>wpD T ds (Env.put e d v) σ' next (hist++[σ']) reads K⟩) (aop (.mkslice z b x y) e σ):=by
 simp only[wpD,bO,AOp.acts,AOp.reads,if_true,Bool.false_eq_true,if_false]
theorem aAK(n:Nat)(x:AOpd)(lo hi mx:Option AOpd)(d:Option Nat)(wl wh:Nat)(ds:List ADOper)(e:Env)(σ:St)(next:Nat)(hist:List St)(reads:List ARead)(K:Env->St->Prop):wpD T (⟨⟨d,.slicev n x lo hi mx,none⟩,wl,wh⟩::ds) e σ next hist reads K=bO (K:=⟨fun v σ'=>σ'=σ/\wpD T ds (Env.put e d v) σ next hist (⟨wl,wh,.slicev n x lo hi mx,e,v⟩::reads) K⟩) (aop (.slicev n x lo hi mx) e σ):=by
 simp only[wpD,bO,AOp.acts,AOp.reads,if_true,Bool.false_eq_true,if_false]
theorem X1(n s:Nat)(x:AOpd)(lo hi:Option AOpd)(d:Option Nat)(wl wh:Nat)(ds:List ADOper)(e:Env)(σ:St)(next:Nat)(hist:List St)(reads:List ARead)(K:Env->St->Prop):wpD T (⟨⟨d,.slicea n s x lo hi,none⟩,wl,wh⟩::ds) e σ next hist reads K=bO (K:=⟨fun v σ'=>σ'=σ/\wpD T ds (Env.put e d v) σ next hist reads K⟩) (aop (.slicea n s x lo hi) e σ):=by
 simp only[wpD,bO,AOp.acts,AOp.reads,if_true,Bool.false_eq_true,if_false]
theorem aCC(x:AOpd)(o:Nat)(d:Option Nat)(wl wh:Nat)(ds:List ADOper)(e:Env)(σ:St)(next:Nat)(hist:List St)(reads:List ARead)(K:Env->St->Prop):wpD T (⟨⟨d,.faddr x o,none⟩,wl,wh⟩::ds) e σ next hist reads K=bO (K:=⟨fun v σ'=>σ'=σ/\wpD T ds (Env.put e d v) σ next hist reads K⟩) (aop (.faddr x o) e σ):=by
 simp only[wpD,bO,AOp.acts,AOp.reads,if_true,Bool.false_eq_true,if_false]
theorem aCT(x:AOpd)(o:Nat)(sh:Option Nat)(d:Option Nat)(wl wh:Nat)(ds:List ADOper)(e:Env)(σ:St)(next:Nat)(hist:List St)(reads:List ARead)(K:Env->St->Prop):wpD T (⟨⟨d,.field x o sh,none⟩,wl,wh⟩::ds) e σ next hist reads K=bO (K:=⟨fun v σ'=>σ'=σ/\wpD T ds (Env.put e d v) σ next hist reads K⟩) (aop (.field x o sh) e σ):=by
 simp only[wpD,bO,AOp.acts,AOp.reads,if_true,Bool.false_eq_true,if_false]
theorem aC9(a:Option Nat)(s:Nat)(x i:AOpd)(d:Option Nat)(wl wh:Nat)(ds:List ADOper)(e:Env)(σ:St)(next:Nat)(hist:List St)(reads:List ARead)(K:Env->St->Prop):wpD T (⟨⟨d,.iaddr a s x i,none⟩,wl,wh⟩::ds) e σ next hist reads K=bO (K:=⟨fun v σ'=>σ'=σ/\wpD T ds (Env.put e d v) σ next hist reads K⟩) (aop (.iaddr a s x i) e σ):=by
 simp only[wpD,bO,AOp.acts,AOp.reads,if_true,Bool.false_eq_true,if_false]
theorem aBQ(n s:Nat)(sh:Option Nat)(x i:AOpd)(d:Option Nat)(wl wh:Nat)(ds:List ADOper)(e:Env)(σ:St)(next:Nat)(hist:List St)(reads:List ARead)(K:Env->St->Prop):wpD T (⟨⟨d,.index n s sh x i,none⟩,wl,wh⟩::ds) e σ next hist reads K=bO (K:=⟨fun v σ'=>σ'=σ/\wpD T ds (Env.put e d v) σ next hist reads K⟩) (aop (.index n s sh x i) e σ):=by
 simp only[wpD,bO,AOp.acts,AOp.reads,if_true,Bool.false_eq_true,if_false]
theorem WH(x i:AOpd)(d:Option Nat)(wl wh:Nat)(ds:List ADOper)(e:Env)(σ:St)(next:Nat)(hist:List St)(reads:List ARead)(K:Env->St->Prop):wpD T (⟨⟨d,.sindex x i,none⟩,wl,wh⟩::ds) e σ next hist reads K=bO (K:=⟨fun v σ'=>σ'=σ/\wpD T ds (Env.put e d v) σ next hist reads K⟩) (aop (.sindex x i) e σ):=by
 simp only[wpD,bO,AOp.acts,AOp.reads,if_true,Bool.false_eq_true,if_false]
theorem aA2(sh:EqTy)(ok:Bool)(z:AV)(m k:AOpd)(d:Option Nat)(wl wh:Nat)(ds:List ADOper)(e:Env)(σ:St)(next:Nat)(hist:List St)(reads:List ARead)(K:Env->St->Prop):wpD T (⟨⟨d,.lookup sh ok z m k,none⟩,wl,wh⟩::ds) e σ next hist reads K=bO (K:=⟨fun v σ'=>σ'=σ/\wpD T ds (Env.put e d v) σ next hist (⟨wl,wh,.lookup sh ok z m k,e,v⟩::reads) K⟩) (aop (.lookup sh ok z m k) e σ):=by
 simp only[wpD,bO,AOp.acts,AOp.reads,if_true,Bool.false_eq_true,if_false]
theorem aBE(sh:EqTy)(m k v:AOpd)(d:Option Nat)(wl wh:Nat)(ds:List ADOper)(e:Env)(σ:St)(next:Nat)(hist:List St)(reads:List ARead)(K:Env->St->Prop):wpD T (⟨⟨d,.mapset sh m k v,none⟩,wl,wh⟩::ds) e σ next hist reads K=bO (K:=⟨fun v σ'=>wpD T ds (Env.put e d v) σ' next (hist++[σ']) reads K⟩) (aop (.mapset sh m k v) e σ):=by
 simp only[wpD,bO,AOp.acts,AOp.reads,if_true,Bool.false_eq_true,if_false]
theorem aMO(x:AOpd)(i:Nat)(d:Option Nat)(wl wh:Nat)(ds:List ADOper)(e:Env)(σ:St)(next:Nat)(hist:List St)(reads:List ARead)(K:Env->St->Prop):wpD T (⟨⟨d,.ext x i,none⟩,wl,wh⟩::ds) e σ next hist reads K=bO (K:=⟨fun v σ'=>σ'=σ/\wpD T ds (Env.put e d v) σ next hist reads K⟩) (aop (.ext x i) e σ):=by
 simp only[wpD,bO,AOp.acts,AOp.reads,if_true,Bool.false_eq_true,if_false]
theorem aOG(k:Nat)(x:AOpd)(d:Option Nat)(wl wh:Nat)(ds:List ADOper)(e:Env)(σ:St)(next:Nat)(hist:List St)(reads:List ARead)(K:Env->St->Prop):wpD T (⟨⟨d,.len k x,none⟩,wl,wh⟩::ds) e σ next hist reads K=bO (K:=⟨fun v σ'=>σ'=σ/\wpD T ds (Env.put e d v) σ next hist (⟨wl,wh,.len k x,e,v⟩::reads) K⟩) (aop (.len k x) e σ):=by
 simp only[wpD,bO,AOp.acts,AOp.reads,if_true,Bool.false_eq_true,if_false]
theorem VY(n b:Nat)(x y:AOpd)(d:Option Nat)(wl wh:Nat)(ds:List ADOper)(e:Env)(σ:St)(next:Nat)(hist:List St)(reads:List ARead)(K:Env->St->Prop):wpD T (⟨⟨d,.append n b x y,none⟩,wl,wh⟩::ds) e σ next hist reads K=bO (K:=⟨fun v σ'=>wpD T ds (Env.put e d v) σ' next (hist++[σ']) reads K⟩) (aop (.append n b x y) e σ):=by
 simp only[wpD,bO,AOp.acts,AOp.reads,if_true,Bool.false_eq_true,if_false]
theorem aBO(n b:Nat)(x y:AOpd)(d:Option Nat)(wl wh:Nat)(ds:List ADOper)(e:Env)(σ:St)(next:Nat)(hist:List St)(reads:List ARead)(K:Env->St->Prop):wpD T (⟨⟨d,.apref n b x y,none⟩,wl,wh⟩::ds) e σ next hist reads K=bO (K:=⟨fun v σ'=>wpD T ds (Env.put e d v) σ' next (hist++[σ']) reads K⟩) (aop (.apref n b x y) e σ):=by
 simp only[wpD,bO,AOp.acts,AOp.reads,if_true,Bool.false_eq_true,if_false]
theorem aIW(n:Nat)(x y:AOpd)(d:Option Nat)(wl wh:Nat)(ds:List ADOper)(e:Env)(σ:St)(next:Nat)(hist:List St)(reads:List ARead)(K:Env->St->Prop):wpD T (⟨⟨d,.copy n x y,none⟩,wl,wh⟩::ds) e σ next hist reads K=bO (K:=⟨fun v σ'=>wpD T ds (Env.put e d v) σ' next (hist++[σ']) reads K⟩) (aop (.copy n x y) e σ):=by
 simp only[wpD,bO,AOp.acts,AOp.reads,if_true,Bool.false_eq_true,if_false]
theorem aPR(xs:List AOpd)(d:Option Nat)(wl wh:Nat)(ds:List ADOper)(e:Env)(σ:St)(next:Nat)(hist:List St)(reads:List ARead)(K:Env->St->Prop):wpD T (⟨⟨d,.min xs,none⟩,wl,wh⟩::ds) e σ next hist reads K=bO (K:=⟨fun v σ'=>σ'=σ/\wpD T ds (Env.put e d v) σ next hist reads K⟩) (aop (.min xs) e σ):=by
 simp only[wpD,bO,AOp.acts,AOp.reads,if_true,Bool.false_eq_true,if_false]
theorem aPO(xs:List AOpd)(d:Option Nat)(wl wh:Nat)(ds:List ADOper)(e:Env)(σ:St)(next:Nat)(hist:List St)(reads:List ARead)(K:Env->St->Prop):wpD T (⟨⟨d,.max xs,none⟩,wl,wh⟩::ds) e σ next hist reads K=bO (K:=⟨fun v σ'=>σ'=σ/\wpD T ds (Env.put e d v) σ next hist reads K⟩) (aop (.max xs) e σ):=by
 simp only[wpD,bO,AOp.acts,AOp.reads,if_true,Bool.false_eq_true,if_false]
theorem Y0(x:AOpd)(d:Option Nat)(wl wh:Nat)(ds:List ADOper)(e:Env)(σ:St)(next:Nat)(hist:List St)(reads:List ARead)(K:Env->St->Prop):wpD T (⟨⟨d,.srange x,none⟩,wl,wh⟩::ds) e σ next hist reads K=bO (K:=⟨fun v σ'=>wpD T ds (Env.put e d v) σ' next (hist++[σ']) reads K⟩) (aop (.srange x) e σ):=by
 simp only[wpD,bO,AOp.acts,AOp.reads,if_true,Bool.false_eq_true,if_false]
theorem aCL(x:AOpd)(d:Option Nat)(wl wh:Nat)(ds:List ADOper)(e:Env)(σ:St)(next:Nat)(hist:List St)(reads:List ARead)(K:Env->St->Prop):wpD T (⟨⟨d,.snext x,none⟩,wl,wh⟩::ds) e σ next hist reads K=bO (K:=⟨fun v σ'=>wpD T ds (Env.put e d v) σ' next (hist++[σ']) reads K⟩) (aop (.snext x) e σ):=by
 simp only[wpD,bO,AOp.acts,AOp.reads,if_true,Bool.false_eq_true,if_false]
theorem W1(f:AOpd)(xs:List AOpd)(t:Nat)(want:Bool)(d:Option Nat)(wl wh:Nat)(ds:List ADOper)(e:Env)(σ:St)(next:Nat)(hist:List St)(reads:List ARead)(K:Env->St->Prop):wpD T (⟨⟨d,.call f xs,some (t,want)⟩,wl,wh⟩::ds) e σ next hist reads K =
  bG (A:=⟨wpD T (⟨⟨d,.call f xs,none⟩,wl,wh⟩::ds) e σ next hist reads K⟩) (B:=⟨wpD T ds (Env.put e d (.tuple [])) σ next (hist++[σ]) reads K⟩) (Env.get e t) want:=by simp only[wpD,bG]
theorem aO9(x:AOpd)(t:Nat)(want:Bool)(d:Option Nat)(wl wh:Nat)(ds:List ADOper)(e:Env)(σ:St)(next:Nat)(hist:List St)(reads:List ARead)(K:Env->St->Prop):wpD T (⟨⟨d,.mov x,some (t,want)⟩,wl,wh⟩::ds) e σ next hist reads K =
  bG (A:=⟨wpD T (⟨⟨d,.mov x,none⟩,wl,wh⟩::ds) e σ next hist reads K⟩) (B:=⟨wpD T ds (Env.put e d (.tuple [])) σ next hist reads K⟩) (Env.get e t) want:=by
 simp only[wpD,bG,AOp.allocs,AOp.acts,true_and,if_true,Bool.false_eq_true,if_false]
theorem aIZ(c x y:AOpd)(t:Nat)(want:Bool)(d:Option Nat)(wl wh:Nat)(ds:List ADOper)(e:Env)(σ:St)(next:Nat)(hist:List St)(reads:List ARead)(K:Env->St->Prop):wpD T (⟨⟨d,.pick c x y,some (t,want)⟩,wl,wh⟩::ds) e σ next hist reads K =
  bG (A:=⟨wpD T (⟨⟨d,.pick c x y,none⟩,wl,wh⟩::ds) e σ next hist reads K⟩) (B:=⟨wpD T ds (Env.put e d (.tuple [])) σ next hist reads K⟩) (Env.get e t) want:=by
 simp only[wpD,bG,AOp.allocs,AOp.acts,true_and,if_true,Bool.false_eq_true,if_false]
theorem aO1(n:Nat)(x:AOpd)(t:Nat)(want:Bool)(d:Option Nat)(wl wh:Nat)(ds:List ADOper)(e:Env)(σ:St)(next:Nat)(hist:List St)(reads:List ARead)(K:Env->St->Prop):wpD T (⟨⟨d,.box n x,some (t,want)⟩,wl,wh⟩::ds) e σ next hist reads K =
  bG (A:=⟨wpD T (⟨⟨d,.box n x,none⟩,wl,wh⟩::ds) e σ next hist reads K⟩) (B:=⟨wpD T ds (Env.put e d (.tuple [])) σ next (hist++[σ]) reads K⟩) (Env.get e t) want:=by
 simp only[wpD,bG,AOp.allocs,AOp.acts,true_and,if_true,Bool.false_eq_true,if_false]
theorem aD4(z:List AV)(ps:List (Nat×Nat×AOpd))(t:Nat)(want:Bool)(d:Option Nat)(wl wh:Nat)(ds:List ADOper)(e:Env)(σ:St)(next:Nat)(hist:List St)(reads:List ARead)(K:Env->St->Prop):wpD T (⟨⟨d,.build z ps,some (t,want)⟩,wl,wh⟩::ds) e σ next hist reads K =
  bG (A:=⟨wpD T (⟨⟨d,.build z ps,none⟩,wl,wh⟩::ds) e σ next hist reads K⟩) (B:=⟨wpD T ds (Env.put e d (.tuple [])) σ next hist reads K⟩) (Env.get e t) want:=by
 simp only[wpD,bG,AOp.allocs,AOp.acts,true_and,if_true,Bool.false_eq_true,if_false]
theorem aES(n:Nat)(xs:List AOpd)(t:Nat)(want:Bool)(d:Option Nat)(wl wh:Nat)(ds:List ADOper)(e:Env)(σ:St)(next:Nat)(hist:List St)(reads:List ARead)(K:Env->St->Prop):wpD T (⟨⟨d,.mklit n xs,some (t,want)⟩,wl,wh⟩::ds) e σ next hist reads K =
  bG (A:=⟨wpD T (⟨⟨d,.mklit n xs,none⟩,wl,wh⟩::ds) e σ next hist reads K⟩) (B:=⟨wpD T ds (Env.put e d (.tuple [])) σ next hist reads K⟩) (Env.get e t) want:=by
 simp only[wpD,bG,AOp.allocs,AOp.acts,true_and,if_true,Bool.false_eq_true,if_false]
theorem aFD(n:Nat)(xs:List AOpd)(t:Nat)(want:Bool)(d:Option Nat)(wl wh:Nat)(ds:List ADOper)(e:Env)(σ:St)(next:Nat)(hist:List St)(reads:List ARead)(K:Env->St->Prop):wpD T (⟨⟨d,.mkref n xs,some (t,want)⟩,wl,wh⟩::ds) e σ next hist reads K =
  bG (A:=⟨wpD T (⟨⟨d,.mkref n xs,none⟩,wl,wh⟩::ds) e σ next hist reads K⟩) (B:=⟨wpD T ds (Env.put e d (.tuple [])) σ next (hist++[σ]) reads K⟩) (Env.get e t) want:=by
 simp only[wpD,bG,AOp.allocs,AOp.acts,true_and,if_true,Bool.false_eq_true,if_false]
theorem aHQ(sh:Option Nat)(x:AOpd)(t:Nat)(want:Bool)(d:Option Nat)(wl wh:Nat)(ds:List ADOper)(e:Env)(σ:St)(next:Nat)(hist:List St)(reads:List ARead)(K:Env->St->Prop):wpD T (⟨⟨d,.load sh x,some (t,want)⟩,wl,wh⟩::ds) e σ next hist reads K =
  bG (A:=⟨wpD T (⟨⟨d,.load sh x,none⟩,wl,wh⟩::ds) e σ next hist reads K⟩) (B:=⟨wpD T ds (Env.put e d (.tuple [])) σ next hist reads K⟩) (Env.get e t) want:=by
 simp only[wpD,bG,AOp.allocs,AOp.acts,true_and,if_true,Bool.false_eq_true,if_false]
theorem aC0(n:Nat)(x y:AOpd)(t:Nat)(want:Bool)(d:Option Nat)(wl wh:Nat)(ds:List ADOper)(e:Env)(σ:St)(next:Nat)(hist:List St)(reads:List ARead)(K:Env->St->Prop):wpD T (⟨⟨d,.store n x y,some (t,want)⟩,wl,wh⟩::ds) e σ next hist reads K =
  bG (A:=⟨wpD T (⟨⟨d,.store n x y,none⟩,wl,wh⟩::ds) e σ next hist reads K⟩) (B:=⟨wpD T ds (Env.put e d (.tuple [])) σ next (hist++[σ]) reads K⟩) (Env.get e t) want:=by
 simp only[wpD,bG,AOp.allocs,AOp.acts,true_and,if_true,Bool.false_eq_true,if_false]
theorem N1(x:AOpd)(t:Nat)(want:Bool)(d:Option Nat)(wl wh:Nat)(ds:List ADOper)(e:Env)(σ:St)(next:Nat)(hist:List St)(reads:List ARead)(K:Env->St->Prop):wpD T (⟨⟨d,.nilCheck x,some (t,want)⟩,wl,wh⟩::ds) e σ next hist reads K =
  bG (A:=⟨wpD T (⟨⟨d,.nilCheck x,none⟩,wl,wh⟩::ds) e σ next hist reads K⟩) (B:=⟨wpD T ds (Env.put e d (.tuple [])) σ next hist reads K⟩) (Env.get e t) want:=by
 simp only[wpD,bG,AOp.allocs,AOp.acts,true_and,if_true,Bool.false_eq_true,if_false]
theorem aPG(op:BinOp)(x y:AOpd)(t:Nat)(want:Bool)(d:Option Nat)(wl wh:Nat)(ds:List ADOper)(e:Env)(σ:St)(next:Nat)(hist:List St)(reads:List ARead)(K:Env->St->Prop):wpD T (⟨⟨d,.bin op x y,some (t,want)⟩,wl,wh⟩::ds) e σ next hist reads K =
  bG (A:=⟨wpD T (⟨⟨d,.bin op x y,none⟩,wl,wh⟩::ds) e σ next hist reads K⟩) (B:=⟨wpD T ds (Env.put e d (.tuple [])) σ next hist reads K⟩) (Env.get e t) want:=by
 simp only[wpD,bG,AOp.allocs,AOp.acts,true_and,if_true,Bool.false_eq_true,if_false]
theorem aP1(sh:EqTy)(n:Bool)(x y:AOpd)(t:Nat)(want:Bool)(d:Option Nat)(wl wh:Nat)(ds:List ADOper)(e:Env)(σ:St)(next:Nat)(hist:List St)(reads:List ARead)(K:Env->St->Prop):wpD T (⟨⟨d,.eql sh n x y,some (t,want)⟩,wl,wh⟩::ds) e σ next hist reads K =
  bG (A:=⟨wpD T (⟨⟨d,.eql sh n x y,none⟩,wl,wh⟩::ds) e σ next hist reads K⟩) (B:=⟨wpD T ds (Env.put e d (.tuple [])) σ next hist reads K⟩) (Env.get e t) want:=by
 simp only[wpD,bG,AOp.allocs,AOp.acts,true_and,if_true,Bool.false_eq_true,if_false]
theorem aOT(x:AOpd)(t:Nat)(want:Bool)(d:Option Nat)(wl wh:Nat)(ds:List ADOper)(e:Env)(σ:St)(next:Nat)(hist:List St)(reads:List ARead)(K:Env->St->Prop):wpD T (⟨⟨d,.not x,some (t,want)⟩,wl,wh⟩::ds) e σ next hist reads K =
  bG (A:=⟨wpD T (⟨⟨d,.not x,none⟩,wl,wh⟩::ds) e σ next hist reads K⟩) (B:=⟨wpD T ds (Env.put e d (.tuple [])) σ next hist reads K⟩) (Env.get e t) want:=by
 simp only[wpD,bG,AOp.allocs,AOp.acts,true_and,if_true,Bool.false_eq_true,if_false]
theorem aPJ(x:AOpd)(t:Nat)(want:Bool)(d:Option Nat)(wl wh:Nat)(ds:List ADOper)(e:Env)(σ:St)(next:Nat)(hist:List St)(reads:List ARead)(K:Env->St->Prop):wpD T (⟨⟨d,.neg x,some (t,want)⟩,wl,wh⟩::ds) e σ next hist reads K =
  bG (A:=⟨wpD T (⟨⟨d,.neg x,none⟩,wl,wh⟩::ds) e σ next hist reads K⟩) (B:=⟨wpD T ds (Env.put e d (.tuple [])) σ next hist reads K⟩) (Env.get e t) want:=by
 simp only[wpD,bG,AOp.allocs,AOp.acts,true_and,if_true,Bool.false_eq_true,if_false]
theorem aHN(k:IntKind)(x:AOpd)(t:Nat)(want:Bool)(d:Option Nat)(wl wh:Nat)(ds:List ADOper)(e:Env)(σ:St)(next:Nat)(hist:List St)(reads:List ARead)(K:Env->St->Prop):wpD T (⟨⟨d,.conv k x,some (t,want)⟩,wl,wh⟩::ds) e σ next hist reads K =
  bG (A:=⟨wpD T (⟨⟨d,.conv k x,none⟩,wl,wh⟩::ds) e σ next hist reads K⟩) (B:=⟨wpD T ds (Env.put e d (.tuple [])) σ next hist reads K⟩) (Env.get e t) want:=by
 simp only[wpD,bG,AOp.allocs,AOp.acts,true_and,if_true,Bool.false_eq_true,if_false]
theorem aE6(f:FuncId)(xs ys:List AOpd)(t:Nat)(want:Bool)(d:Option Nat)(wl wh:Nat)(ds:List ADOper)(e:Env)(σ:St)(next:Nat)(hist:List St)(reads:List ARead)(K:Env->St->Prop):wpD T (⟨⟨d,.mkfun f xs ys,some (t,want)⟩,wl,wh⟩::ds) e σ next hist reads K =
  bG (A:=⟨wpD T (⟨⟨d,.mkfun f xs ys,none⟩,wl,wh⟩::ds) e σ next hist reads K⟩) (B:=⟨wpD T ds (Env.put e d (.tuple [])) σ next hist reads K⟩) (Env.get e t) want:=by
 simp only[wpD,bG,AOp.allocs,AOp.acts,true_and,if_true,Bool.false_eq_true,if_false]
theorem aEY(t:Nat)(want:Bool)(d:Option Nat)(wl wh:Nat)(ds:List ADOper)(e:Env)(σ:St)(next:Nat)(hist:List St)(reads:List ARead)(K:Env->St->Prop):wpD T (⟨⟨d,.mkmap,some (t,want)⟩,wl,wh⟩::ds) e σ next hist reads K =
  bG (A:=⟨wpD T (⟨⟨d,.mkmap,none⟩,wl,wh⟩::ds) e σ next hist reads K⟩) (B:=⟨wpD T ds (Env.put e d (.tuple [])) σ next (hist++[σ]) reads K⟩) (Env.get e t) want:=by
 simp only[wpD,bG,AOp.allocs,AOp.acts,true_and,if_true,Bool.false_eq_true,if_false]
theorem S3(z:List AV)(b:Nat)(x y:AOpd)(t:Nat)(want:Bool)(d:Option Nat)(wl wh:Nat)(ds:List ADOper)(e:Env)(σ:St)(next:Nat)(hist:List St)(reads:List ARead)(K:Env->St->Prop):wpD T (⟨⟨d,.mkslice z b x y,some (t,want)⟩,wl,wh⟩::ds) e σ next hist reads K =
  bG (A:=⟨wpD T (⟨⟨d,.mkslice z b x y,none⟩,wl,wh⟩::ds) e σ next hist reads K⟩) (B:=⟨wpD T ds (Env.put e d (.tuple [])) σ next (hist++[σ]) reads K⟩) (Env.get e t) want:=by
 simp only[wpD,bG,AOp.allocs,AOp.acts,true_and,if_true,Bool.false_eq_true,if_false]
theorem T4(n:Nat)(x:AOpd)(lo hi mx:Option AOpd)(t:Nat)(want:Bool)(d:Option Nat)(wl wh:Nat)(ds:List ADOper)(e:Env)(σ:St)(next:Nat)(hist:List St)(reads:List ARead)(K:Env->St->Prop):wpD T (⟨⟨d,.slicev n x lo hi mx,some (t,want)⟩,wl,wh⟩::ds) e σ next hist reads K =
  bG (A:=⟨wpD T (⟨⟨d,.slicev n x lo hi mx,none⟩,wl,wh⟩::ds) e σ next hist reads K⟩) (B:=⟨wpD T ds (Env.put e d (.tuple [])) σ next hist reads K⟩) (Env.get e t) want:=by
 simp only[wpD,bG,AOp.allocs,AOp.acts,true_and,if_true,Bool.false_eq_true,if_false]
theorem WQ(n s:Nat)(x:AOpd)(lo hi:Option AOpd)(t:Nat)(want:Bool)(d:Option Nat)(wl wh:Nat)(ds:List ADOper)(e:Env)(σ:St)(next:Nat)(hist:List St)(reads:List ARead)(K:Env->St->Prop):wpD T (⟨⟨d,.slicea n s x lo hi,some (t,want)⟩,wl,wh⟩::ds) e σ next hist reads K =
  bG (A:=⟨wpD T (⟨⟨d,.slicea n s x lo hi,none⟩,wl,wh⟩::ds) e σ next hist reads K⟩) (B:=⟨wpD T ds (Env.put e d (.tuple [])) σ next hist reads K⟩) (Env.get e t) want:=by
 simp only[wpD,bG,AOp.allocs,AOp.acts,true_and,if_true,Bool.false_eq_true,if_false]
theorem aD0(x:AOpd)(o:Nat)(t:Nat)(want:Bool)(d:Option Nat)(wl wh:Nat)(ds:List ADOper)(e:Env)(σ:St)(next:Nat)(hist:List St)(reads:List ARead)(K:Env->St->Prop):wpD T (⟨⟨d,.faddr x o,some (t,want)⟩,wl,wh⟩::ds) e σ next hist reads K =
  bG (A:=⟨wpD T (⟨⟨d,.faddr x o,none⟩,wl,wh⟩::ds) e σ next hist reads K⟩) (B:=⟨wpD T ds (Env.put e d (.tuple [])) σ next hist reads K⟩) (Env.get e t) want:=by
 simp only[wpD,bG,AOp.allocs,AOp.acts,true_and,if_true,Bool.false_eq_true,if_false]
theorem aDB(x:AOpd)(o:Nat)(sh:Option Nat)(t:Nat)(want:Bool)(d:Option Nat)(wl wh:Nat)(ds:List ADOper)(e:Env)(σ:St)(next:Nat)(hist:List St)(reads:List ARead)(K:Env->St->Prop):wpD T (⟨⟨d,.field x o sh,some (t,want)⟩,wl,wh⟩::ds) e σ next hist reads K =
  bG (A:=⟨wpD T (⟨⟨d,.field x o sh,none⟩,wl,wh⟩::ds) e σ next hist reads K⟩) (B:=⟨wpD T ds (Env.put e d (.tuple [])) σ next hist reads K⟩) (Env.get e t) want:=by
 simp only[wpD,bG,AOp.allocs,AOp.acts,true_and,if_true,Bool.false_eq_true,if_false]
theorem aCR(a:Option Nat)(s:Nat)(x i:AOpd)(t:Nat)(want:Bool)(d:Option Nat)(wl wh:Nat)(ds:List ADOper)(e:Env)(σ:St)(next:Nat)(hist:List St)(reads:List ARead)(K:Env->St->Prop):wpD T (⟨⟨d,.iaddr a s x i,some (t,want)⟩,wl,wh⟩::ds) e σ next hist reads K =
  bG (A:=⟨wpD T (⟨⟨d,.iaddr a s x i,none⟩,wl,wh⟩::ds) e σ next hist reads K⟩) (B:=⟨wpD T ds (Env.put e d (.tuple [])) σ next hist reads K⟩) (Env.get e t) want:=by
 simp only[wpD,bG,AOp.allocs,AOp.acts,true_and,if_true,Bool.false_eq_true,if_false]
theorem aBN(n s:Nat)(sh:Option Nat)(x i:AOpd)(t:Nat)(want:Bool)(d:Option Nat)(wl wh:Nat)(ds:List ADOper)(e:Env)(σ:St)(next:Nat)(hist:List St)(reads:List ARead)(K:Env->St->Prop):wpD T (⟨⟨d,.index n s sh x i,some (t,want)⟩,wl,wh⟩::ds) e σ next hist reads K =
  bG (A:=⟨wpD T (⟨⟨d,.index n s sh x i,none⟩,wl,wh⟩::ds) e σ next hist reads K⟩) (B:=⟨wpD T ds (Env.put e d (.tuple [])) σ next hist reads K⟩) (Env.get e t) want:=by
 simp only[wpD,bG,AOp.allocs,AOp.acts,true_and,if_true,Bool.false_eq_true,if_false]
theorem WI(x i:AOpd)(t:Nat)(want:Bool)(d:Option Nat)(wl wh:Nat)(ds:List ADOper)(e:Env)(σ:St)(next:Nat)(hist:List St)(reads:List ARead)(K:Env->St->Prop):wpD T (⟨⟨d,.sindex x i,some (t,want)⟩,wl,wh⟩::ds) e σ next hist reads K =
  bG (A:=⟨wpD T (⟨⟨d,.sindex x i,none⟩,wl,wh⟩::ds) e σ next hist reads K⟩) (B:=⟨wpD T ds (Env.put e d (.tuple [])) σ next hist reads K⟩) (Env.get e t) want:=by
 simp only[wpD,bG,AOp.allocs,AOp.acts,true_and,if_true,Bool.false_eq_true,if_false]
theorem WN(sh:EqTy)(ok:Bool)(z:AV)(m k:AOpd)(t:Nat)(want:Bool)(d:Option Nat)(wl wh:Nat)(ds:List ADOper)(e:Env)(σ:St)(next:Nat)(hist:List St)(reads:List ARead)(K:Env->St->Prop):wpD T (⟨⟨d,.lookup sh ok z m k,some (t,want)⟩,wl,wh⟩::ds) e σ next hist reads K =
  bG (A:=⟨wpD T (⟨⟨d,.lookup sh ok z m k,none⟩,wl,wh⟩::ds) e σ next hist reads K⟩) (B:=⟨wpD T ds (Env.put e d (.tuple [])) σ next hist reads K⟩) (Env.get e t) want:=by
 simp only[wpD,bG,AOp.allocs,AOp.acts,true_and,if_true,Bool.false_eq_true,if_false]
theorem aAZ(sh:EqTy)(m k v:AOpd)(t:Nat)(want:Bool)(d:Option Nat)(wl wh:Nat)(ds:List ADOper)(e:Env)(σ:St)(next:Nat)(hist:List St)(reads:List ARead)(K:Env->St->Prop):wpD T (⟨⟨d,.mapset sh m k v,some (t,want)⟩,wl,wh⟩::ds) e σ next hist reads K =
  bG (A:=⟨wpD T (⟨⟨d,.mapset sh m k v,none⟩,wl,wh⟩::ds) e σ next hist reads K⟩) (B:=⟨wpD T ds (Env.put e d (.tuple [])) σ next (hist++[σ]) reads K⟩) (Env.get e t) want:=by
 simp only[wpD,bG,AOp.allocs,AOp.acts,true_and,if_true,Bool.false_eq_true,if_false]
theorem aP8(x:AOpd)(i:Nat)(t:Nat)(want:Bool)(d:Option Nat)(wl wh:Nat)(ds:List ADOper)(e:Env)(σ:St)(next:Nat)(hist:List St)(reads:List ARead)(K:Env->St->Prop):wpD T (⟨⟨d,.ext x i,some (t,want)⟩,wl,wh⟩::ds) e σ next hist reads K =
  bG (A:=⟨wpD T (⟨⟨d,.ext x i,none⟩,wl,wh⟩::ds) e σ next hist reads K⟩) (B:=⟨wpD T ds (Env.put e d (.tuple [])) σ next hist reads K⟩) (Env.get e t) want:=by
 simp only[wpD,bG,AOp.allocs,AOp.acts,true_and,if_true,Bool.false_eq_true,if_false]
theorem aPA(k:Nat)(x:AOpd)(t:Nat)(want:Bool)(d:Option Nat)(wl wh:Nat)(ds:List ADOper)(e:Env)(σ:St)(next:Nat)(hist:List St)(reads:List ARead)(K:Env->St->Prop):wpD T (⟨⟨d,.len k x,some (t,want)⟩,wl,wh⟩::ds) e σ next hist reads K =
  bG (A:=⟨wpD T (⟨⟨d,.len k x,none⟩,wl,wh⟩::ds) e σ next hist reads K⟩) (B:=⟨wpD T ds (Env.put e d (.tuple [])) σ next hist reads K⟩) (Env.get e t) want:=by
 simp only[wpD,bG,AOp.allocs,AOp.acts,true_and,if_true,Bool.false_eq_true,if_false]
theorem XS(n b:Nat)(x y:AOpd)(t:Nat)(want:Bool)(d:Option Nat)(wl wh:Nat)(ds:List ADOper)(e:Env)(σ:St)(next:Nat)(hist:List St)(reads:List ARead)(K:Env->St->Prop):wpD T (⟨⟨d,.append n b x y,some (t,want)⟩,wl,wh⟩::ds) e σ next hist reads K =
  bG (A:=⟨wpD T (⟨⟨d,.append n b x y,none⟩,wl,wh⟩::ds) e σ next hist reads K⟩) (B:=⟨wpD T ds (Env.put e d (.tuple [])) σ next (hist++[σ]) reads K⟩) (Env.get e t) want:=by
 simp only[wpD,bG,AOp.allocs,AOp.acts,true_and,if_true,Bool.false_eq_true,if_false]
theorem aCE(n b:Nat)(x y:AOpd)(t:Nat)(want:Bool)(d:Option Nat)(wl wh:Nat)(ds:List ADOper)(e:Env)(σ:St)(next:Nat)(hist:List St)(reads:List ARead)(K:Env->St->Prop):wpD T (⟨⟨d,.apref n b x y,some (t,want)⟩,wl,wh⟩::ds) e σ next hist reads K =
  bG (A:=⟨wpD T (⟨⟨d,.apref n b x y,none⟩,wl,wh⟩::ds) e σ next hist reads K⟩) (B:=⟨wpD T ds (Env.put e d (.tuple [])) σ next (hist++[σ]) reads K⟩) (Env.get e t) want:=by
 simp only[wpD,bG,AOp.allocs,AOp.acts,true_and,if_true,Bool.false_eq_true,if_false]
theorem aK2(n:Nat)(x y:AOpd)(t:Nat)(want:Bool)(d:Option Nat)(wl wh:Nat)(ds:List ADOper)(e:Env)(σ:St)(next:Nat)(hist:List St)(reads:List ARead)(K:Env->St->Prop):wpD T (⟨⟨d,.copy n x y,some (t,want)⟩,wl,wh⟩::ds) e σ next hist reads K =
  bG (A:=⟨wpD T (⟨⟨d,.copy n x y,none⟩,wl,wh⟩::ds) e σ next hist reads K⟩) (B:=⟨wpD T ds (Env.put e d (.tuple [])) σ next (hist++[σ]) reads K⟩) (Env.get e t) want:=by
 simp only[wpD,bG,AOp.allocs,AOp.acts,true_and,if_true,Bool.false_eq_true,if_false]
theorem aNA(xs:List AOpd)(t:Nat)(want:Bool)(d:Option Nat)(wl wh:Nat)(ds:List ADOper)(e:Env)(σ:St)(next:Nat)(hist:List St)(reads:List ARead)(K:Env->St->Prop):wpD T (⟨⟨d,.min xs,some (t,want)⟩,wl,wh⟩::ds) e σ next hist reads K =
  bG (A:=⟨wpD T (⟨⟨d,.min xs,none⟩,wl,wh⟩::ds) e σ next hist reads K⟩) (B:=⟨wpD T ds (Env.put e d (.tuple [])) σ next hist reads K⟩) (Env.get e t) want:=by
 simp only[wpD,bG,AOp.allocs,AOp.acts,true_and,if_true,Bool.false_eq_true,if_false]
theorem aPV(xs:List AOpd)(t:Nat)(want:Bool)(d:Option Nat)(wl wh:Nat)(ds:List ADOper)(e:Env)(σ:St)(next:Nat)(hist:List St)(reads:List ARead)(K:Env->St->Prop):wpD T (⟨⟨d,.max xs,some (t,want)⟩,wl,wh⟩::ds) e σ next hist reads K =
  bG (A:=⟨wpD T (⟨⟨d,.max xs,none⟩,wl,wh⟩::ds) e σ next hist reads K⟩) (B:=⟨wpD T ds (Env.put e d (.tuple [])) σ next hist reads K⟩) (Env.get e t) want:=by
 simp only[wpD,bG,AOp.allocs,AOp.acts,true_and,if_true,Bool.false_eq_true,if_false]
theorem U6(x:AOpd)(t:Nat)(want:Bool)(d:Option Nat)(wl wh:Nat)(ds:List ADOper)(e:Env)(σ:St)(next:Nat)(hist:List St)(reads:List ARead)(K:Env->St->Prop):wpD T (⟨⟨d,.srange x,some (t,want)⟩,wl,wh⟩::ds) e σ next hist reads K =
  bG (A:=⟨wpD T (⟨⟨d,.srange x,none⟩,wl,wh⟩::ds) e σ next hist reads K⟩) (B:=⟨wpD T ds (Env.put e d (.tuple [])) σ next (hist++[σ]) reads K⟩) (Env.get e t) want:=by
 simp only[wpD,bG,AOp.allocs,AOp.acts,true_and,if_true,Bool.false_eq_true,if_false]
theorem aCY(x:AOpd)(t:Nat)(want:Bool)(d:Option Nat)(wl wh:Nat)(ds:List ADOper)(e:Env)(σ:St)(next:Nat)(hist:List St)(reads:List ARead)(K:Env->St->Prop):wpD T (⟨⟨d,.snext x,some (t,want)⟩,wl,wh⟩::ds) e σ next hist reads K =
  bG (A:=⟨wpD T (⟨⟨d,.snext x,none⟩,wl,wh⟩::ds) e σ next hist reads K⟩) (B:=⟨wpD T ds (Env.put e d (.tuple [])) σ next (hist++[σ]) reads K⟩) (Env.get e t) want:=by
 simp only[wpD,bG,AOp.allocs,AOp.acts,true_and,if_true,Bool.false_eq_true,if_false]
end Go.Am
namespace Go.Am
variable {T:FuncId->Option AFunc}
structure KeepS (σ σ':St) (lo:Nat):Prop where
 len:σ.length<=σ'.length
 low:∀ i,i<lo->i<σ.length->σ'[i]? = σ[i]?
 loops:∀ (i:Nat) (st:LS) (pe:Option AJump) (env:Env) (ps:List Nat) (a b:ACode),i<σ.length->σ'[i]? = some (.loop st pe env ps a b)->∃ st' pe',σ[i]? = some (.loop st' pe' env ps a b)
theorem KeepS.refl(σ:St)(lo:Nat):KeepS σ σ lo:=⟨Nat.le_refl _,fun _ _ _=>rfl,fun i st pe env ps a b _ h=>⟨st,pe,h⟩⟩
theorem KeepS.weak{σ σ':St}{lo l:Nat}(h:KeepS σ σ' lo)(hl:l<=lo):KeepS σ σ' l:=⟨h.len,fun i hi=>h.low i (by omega),h.loops⟩
theorem KeepS.trans{σ σ1 σ2:St}{l1 l2:Nat}(h:KeepS σ σ1 l1)(k:KeepS σ1 σ2 l2):KeepS σ σ2 (Nat.min l1 l2) where
 len:=Nat.le_trans h.len k.len
 low i hi hlt:=by
  have h1:i<l1:=Nat.lt_of_lt_of_le hi (Nat.min_le_left _ _);have h2:i<l2:=Nat.lt_of_lt_of_le hi (Nat.min_le_right _ _);rw[k.low i h2 (Nat.lt_of_lt_of_le hlt h.len),h.low i h1 hlt]
 loops i st pe env ps a b hlt e:=by
  obtain⟨st1,pe1,e1⟩:=k.loops i st pe env ps a b (Nat.lt_of_lt_of_le hlt h.len) e;exact h.loops i st1 pe1 env ps a b hlt e1
theorem KeepS.app(σ:St)(τ:St)(lo:Nat):KeepS σ (σ++τ) lo :=
 ⟨by simp,fun i _ hi=>List.getElem?_append_left hi,fun i st pe env ps a b hi e=>⟨st,pe,by rw[<-List.getElem?_append_left (l₂:=τ) hi];exact e⟩⟩
theorem KeepS.set{σ:St}{i:Nat}{x:ABlk}(hx:∀ st pe env ps a b,x≠.loop st pe env ps a b):KeepS σ (σ.set i x) i where
 len:=by simp
 low j hj _:=List.getElem?_set_ne (by omega)
 loops j st pe env ps a b hj e:=by
  by_cases h:i=j
  ·subst h;rw[List.getElem?_set_self hj] at e;cases e;exact absurd rfl (hx _ _ _ _ _ _)
  ·rw[List.getElem?_set_ne h] at e;exact⟨st,pe,e⟩
theorem KeepS.setLoop{σ:St}{i:Nat}{st st0:LS}{pe pe0:Option AJump}{env:Env}{ps:List Nat}{a b:ACode}(h0:σ[i]? = some (.loop st0 pe0 env ps a b)):KeepS σ (σ.set i (.loop st pe env ps a b)) i where
 len:=by simp
 low j hj _:=List.getElem?_set_ne (by omega)
 loops j st' pe' env' ps' a' b' hj e:=by
  by_cases h:i=j
  ·subst h;rw[List.getElem?_set_self hj] at e;cases e;exact⟨st0,pe0,h0⟩
  ·rw[List.getElem?_set_ne h] at e;exact⟨st',pe',e⟩
theorem LD{q:AOp}{e:Env}{σ σ':St}{v:AV}(h:aop q e σ=some (v,σ')):KeepS σ σ' (AK q e):=by
 cases q<;>simp only[aop] at h
 case mov=>cases h;exact .refl _ _
 case alloc=>cases h;exact .app _ _ _
 case mkfun=>cases h;exact .refl _ _
 case mkmap=>cases h;exact .app _ _ _
 case mnext=>cases h
 case call=>cases h
 case store n a x =>
  split at h
  ·rename_i τ hτ;cases h;unfold lS at hτ;split at hτ
   ·rename_i id off ha;split at hτ
    ·split at hτ
     ·split at hτ
      ·cases hτ;simp only[AK,ha];exact .set fun _ _ _ _ _ _ e=>by cases e
      ·cases hτ
     ·cases hτ
    ·cases hτ
   ·cases hτ
  ·cases h
 case mapset sh m k x =>
  split at h
  ·rename_i id hm;split at h
   ·cases h
   ·split at h
    ·split at h
     ·cases h;simp only[AK,hm];exact .set fun _ _ _ _ _ _ e=>by cases e
     ·cases h
    ·cases h
  ·cases h
 case copy sz x y =>
  unfold sI at h;split at h
  ·rename_i id off len sz' ys hx hy;simp only at h;split at h
   ·split at h
    ·split at h
     ·cases h;simp only[AK,hx];exact .set fun _ _ _ _ _ _ e=>by cases e
     ·cases h
    ·cases h
   ·cases h
  ·cases h
 case snext x =>
  split at h
  ·rename_i id hx;split at h
   ·split at h
    ·cases h;simp only[AK,hx];exact .set fun _ _ _ _ _ _ e=>by cases e
    ·cases h;exact .refl _ _
   ·cases h
  ·cases h
 case append sz bytes x y =>
  unfold cI at h;split at h
  ·rename_i xs full tk ys hx hy;split at h
   ·cases h;exact .refl _ _
   ·split at h
    ·split at h
     ·cases h;exact .app _ _ _
     ·rename_i hf;split at h
      ·rename_i t;split at h
       ·split at h
        ·cases h;have:full=false:=by simpa using hf
         subst this;simp only[AK,hx];exact .set fun _ _ _ _ _ _ e=>by cases e
        ·cases h
       ·cases h
      ·cases h
    ·cases h
  ·cases h
 case apref sz bytes x y =>
  unfold sJ at h;split at h
  ·split at h
   ·cases h;exact .refl _ _
   ·split at h
    ·cases h;exact .app _ _ _
    ·cases h
  ·cases h
 all_goals
  repeat' split at h
  all_goals first|(cases h;done)|(cases h;first|exact .refl _ _|exact .app _ _ _)
end Go.Am
namespace Go.Am
variable {T:FuncId->Option AFunc}
mutual
theorem eqVF_ok:∀ (k:Nat) (a b:AV),eqVF k a b=true->a=b
 |0,a,b,h=>by simp[eqVF] at h
 |k+1,a,b,h=>by
  cases a<;>cases b<;>simp only[eqVF,Bool.and_eq_true,decide_eq_true_eq,beq_iff_eq,Bool.false_eq_true] at h
  case func.func f a b g c d=>rw[h.1.1,eqVsF_ok k a c h.1.2,eqVsF_ok k b d h.2]
  case int.int=>rw[h.1,h.2]
  case bool.bool=>rw[h]
  case str.str=>rw[h]
  case yield.yield=>rw[h]
  case map.map=>rw[h]
  case ptr.ptr=>rw[h.1,h.2]
  case lptr.lptr xs i o t ys j p u=>rw[eqVsF_ok k xs ys h.1.1.1,h.1.1.2,h.1.2,h.2]
  case lit.lit xs f t ys g u=>rw[eqVsF_ok k xs ys h.1.1,h.1.2,h.2]
  case ref.ref=>rw[h.1.1.1,h.1.1.2,h.1.2,h.2]
  case agg.agg xs ys=>rw[eqVsF_ok k xs ys h]
  case tuple.tuple xs ys=>rw[eqVsF_ok k xs ys h]
  all_goals rfl
theorem eqVsF_ok:∀ (k:Nat) (a b:List AV),eqVsF k a b=true->a=b
 |0,a,b,h=>by simp[eqVsF] at h
 |k+1,[],[],h=>rfl
 |k+1,[],_::_,h=>by simp[eqVsF] at h
 |k+1,_::_,[],h=>by simp[eqVsF] at h
 |k+1,a::x,b::y,h=>by
  simp only[eqVsF,Bool.and_eq_true] at h;rw[eqVF_ok k a b h.1,eqVsF_ok k x y h.2]
end
theorem FU{q:AOp}{e:Env}{σ σ':St}{v:AV}(hr:q.reads=true)(h:aop q e σ=some (v,σ')):σ'=σ:=by
 cases q<;>simp only[AOp.reads] at hr<;>first|(cases hr;done)|skip
 all_goals
  simp only[aop] at h
  repeat' split at h
  all_goals first|(cases h;done)|(cases h;rfl)
theorem KeepS.step{σ σ1 σ2:St}{l lo lo':Nat}(h:KeepS σ σ1 l)(k:lo'<=Nat.min lo l/\KeepS σ1 σ2 lo'):lo'<=lo/\KeepS σ σ2 lo':=by
 have h1:lo'<=l:=Nat.le_trans k.1 (Nat.min_le_right _ _);refine⟨Nat.le_trans k.1 (Nat.min_le_left _ _),(h.trans k.2).weak ?_⟩;exact Nat.le_min.2 ⟨h1,Nat.le_refl _⟩
end Go.Am
namespace Go.Am
variable {T:FuncId->Option AFunc}
theorem aIO(e:Env):evs e []=[]:=by simp only[evs]
theorem aGX(e:Env)(x:AOpd)(xs:List AOpd):evs e (x::xs)=x.ev e::evs e xs:=by simp only[evs]
theorem aHY(e:Env):ovs e none=none:=by simp only[ovs]
theorem aIN(e:Env)(x:AOpd):ovs e (some x)=some (x.ev e):=by simp only[ovs]
theorem aF7{α β:Type}(f:α->β)(a:α):Option.map f (some a)=some (f a):=by simp
theorem YX{α β:Type}(f:α->Option β)(a:α):(some a).bind f=f a:=by simp
theorem aKX(i o:Nat):LL (.ptr i o)=some (.ptr i o):=by simp only[LL]
theorem aGY(xs:List AV)(i o:Nat)(t:Option Nat):LL (.lptr xs i o t)=some (.lptr xs i o t):=by simp only[LL]
theorem aJ8(f:FuncId)(a b:List AV):LL (.func f a b)=some (.func f a b):=by simp only[LL]
theorem aC5(o:Nat)(sh:Option Nat)(cs:List AV):H6 o sh (.agg cs)=eI sh cs o:=by simp only[H6]
theorem aH5(k k':IntKind)(n:Int):QH k (.int k' n)=some (.int k (k.wrap n)):=by simp only[QH]
theorem aOX(k:IntKind)(n:Int):aDZ (.int k n)=some (.int k (k.wrap (0-n))):=by simp only[aDZ]
theorem aD2(x y:AV):FP (.bool true) x y=some x:=by simp only[FP]
theorem aEC(x y:AV):FP (.bool false) x y=some y:=by simp only[FP]
theorem aMT(s:ByteArray):aCV (.str s)=some s:=by simp only[aCV]
theorem QW(k:IntKind)(a b:Int):gD .i (.int k a) (.int k b)=some (a==b):=by simp[gD]
theorem aF5(a b:Bool):gD .b (.bool a) (.bool b)=some (a==b):=by simp[gD]
theorem aPM(a b:ByteArray):gD .s (.str a) (.str b)=some (a.toList==b.toList):=by simp[gD]
def aEW:Option Bool->Option Bool->Option Bool
 |some p,some q=>some (p&&q)
 |_,_=>none
theorem GX(p q:Bool):aEW (some p) (some q)=some (p&&q):=by simp only[aEW]
theorem HO:bI [] [] []=some true:=by simp[bI]
theorem GW(k:SK)(ks:List SK)(a b:AV)(x y:List AV):bI (k::ks) (a::x) (b::y)=aEW (gD k a b) (bI ks x y):=by
 simp only[bI,aEW];cases gD k a b<;>cases bI ks x y<;>rfl
theorem aMZ(k:SK)(x y:AV):E1 (.one k) false x y=(gD k x y).map .bool:=by
 simp only[E1,iX];cases gD k x y<;>simp
theorem aPT(k:SK)(x y:AV):E1 (.one k) true x y=(gD k x y).map fun b=>.bool !b:=by
 simp only[E1,iX];cases gD k x y<;>simp
theorem aNR(ks:List SK)(x y:List AV):E1 (.agg ks) false (.agg x) (.agg y)=(bI ks x y).map .bool:=by
 simp only[E1,iX];cases bI ks x y<;>simp
theorem aPL(ks:List SK)(x y:List AV):E1 (.agg ks) true (.agg x) (.agg y)=(bI ks x y).map fun b=>.bool !b:=by
 simp only[E1,iX];cases bI ks x y<;>simp
theorem aLG(k:IntKind)(a b:Int):dD .add (.int k a) (.int k b)=some (.int k (k.wrap (a+b))):=by simp[dD,fP]
theorem aOW(k:IntKind)(a b:Int):dD .sub (.int k a) (.int k b)=some (.int k (k.wrap (a-b))):=by simp[dD,fP]
theorem aL0(k:IntKind)(a b:Int):dD .mul (.int k a) (.int k b)=some (.int k (k.wrap (a*b))):=by simp[dD,fP]
theorem aLY(k:IntKind)(a b:Int)(h:b≠0):dD .quo (.int k a) (.int k b)=some (.int k (k.wrap (a.tdiv b))):=by simp[dD,fP,h]
theorem FN(k:IntKind)(a b:Int)(h:b≠0):dD .rem (.int k a) (.int k b)=some (.int k (a.tmod b)):=by simp[dD,fP,h]
theorem aM8(k:IntKind)(a b:Int):dD .lss (.int k a) (.int k b)=some (.bool (decide (a<b))):=by simp[dD,fP]
theorem aOY(k:IntKind)(a b:Int):dD .leq (.int k a) (.int k b)=some (.bool (decide (a<=b))):=by simp[dD,fP]
theorem aMQ(k:IntKind)(a b:Int):dD .gtr (.int k a) (.int k b)=some (.bool (decide (b<a))):=by simp[dD,fP]
theorem aMA(k:IntKind)(a b:Int):dD .geq (.int k a) (.int k b)=some (.bool (decide (b<=a))):=by simp[dD,fP]
theorem bD{x:Int}(h:-9223372036854775808<=x/\x<=9223372036854775807):IntKind.i64.wrap x=x:=by
 simp only[IntKind.wrap,IntKind.signed,IntKind.bits];first
  |(rw[Int.bmod_eq_of_le]<;>omega)
  |(simp;omega)
theorem aPF(σ:St)(xs:List AV)(f:Bool)(t:Option Nat):jR 1 σ (.lit xs f t)=some xs.length:=by simp only[jR]
theorem aK6(σ:St)(s:ByteArray):jR 0 σ (.str s)=some s.size:=by simp only[jR]
theorem aKH(σ:St)(id off len sz:Nat):jR 1 σ (.ref id off len sz)=some len:=by simp only[jR]
theorem aOC(sh:Option Nat)(σ:St)(id off:Nat):kD sh σ (.ptr id off)=(aE σ id).bind fun cs=>eI sh cs off:=by
 simp only[kD];cases aE σ id<;>simp
theorem aLB(sh:Option Nat)(σ:St)(xs:List AV)(i off:Nat)(t:Option Nat):kD sh σ (.lptr xs i off t)=(xs[i]?).bind fun x=>eI sh x.cells off:=by
 simp only[kD];cases xs[i]?<;>simp
theorem P2(b:List AV)(τ:St):aE (.cells b::τ) 0=some b:=by simp[aE]
theorem O1(b:ABlk)(τ:St)(k:Nat):aE (b::τ) (k+1)=aE τ k:=by simp[aE]
theorem mA(σ τ:St)(k:Nat):aE (σ++τ) (σ.length+k)=aE τ k:=by simp only[aE,sA]
theorem GU(σ τ:St):aE (σ++τ) σ.length=aE τ 0:=mA σ τ 0
theorem aLX(cs:List AV)(off:Nat):eI none cs off=cs[off]?:=by simp[eI]
theorem aNE(n:Nat)(cs:List AV)(off:Nat):eI (some n) cs off=if off+n<=cs.length then some (.agg ((cs.drop off).take n)) else none:=by simp[eI]
theorem aDL(n:Nat)(σ:St)(id off:Nat)(v:AV):lS n σ (.ptr id off) v=(lR n v).bind fun us=>(aE σ id).bind fun cs=>(eK cs off us).map fun cs'=>σ.set id (.cells cs'):=by
 simp only[lS,lR];split
 ·simp only[Option.bind_some];cases aE σ id with
  |none=>simp
  |some cs=>simp only[Option.bind_some];cases eK cs off v.cells<;>simp
 ·simp
theorem aM0(cs us:List AV)(off:Nat):eK cs off us=if off+us.length<=cs.length then some (cs.take off++us++cs.drop (off+us.length)) else none:=by simp only[eK]
def cA(n:Nat)(v:AV):Bool:=v.cells.length==n&&v.cells.all (·.cell)
theorem aDT(n:Nat)(v:AV):lR n v=if cA n v=true then some v.cells else none:=by unfold lR cA;rfl
theorem YO(k:IntKind)(n:Int):cA 1 (.int k n)=true:=by simp[cA,AV.cells,AV.cell]
theorem aII(b:Bool):cA 1 (.bool b)=true:=by simp[cA,AV.cells,AV.cell]
theorem aLK(b:ByteArray):cA 1 (.str b)=true:=by simp[cA,AV.cells,AV.cell]
theorem aFR(xs:List AV)(f:Bool)(t:Option Nat):cA 1 (.lit xs f t)=true:=by simp[cA,AV.cells,AV.cell]
theorem aLN(a b c d:Nat):cA 1 (.ref a b c d)=true:=by simp[cA,AV.cells,AV.cell]
theorem aPU(a b:Nat):cA 1 (.ptr a b)=true:=by simp[cA,AV.cells,AV.cell]
theorem aKM(f:FuncId)(a b:List AV):cA 1 (.func f a b)=true:=by simp[cA,AV.cells,AV.cell]
theorem aM2(i:Nat):cA 1 (.map i)=true:=by simp[cA,AV.cells,AV.cell]
theorem T6:cA 1 .nilPtr=true:=by simp[cA,AV.cells,AV.cell]
theorem RQ:cA 1 .nilFunc=true:=by simp[cA,AV.cells,AV.cell]
def aZ:List AV->Bool
 |[]=>true
 |v::vs=>v.cell&&aZ vs
theorem aNJ(n:Nat)(cs:List AV):cA n (.agg cs)=(cs.length==n&&aZ cs):=by
 simp only[cA,AV.cells]
 congr 1
 induction cs with
 |nil=>rfl
 |cons c cs ih=>simp only[List.all_cons,aZ,ih]
theorem C_0:aZ []=true:=by simp only[aZ]
theorem aJL(k:IntKind)(n:Int)(cs:List AV):aZ (.int k n::cs)=aZ cs:=by simp[aZ,AV.cell]
theorem aDP(b:Bool)(cs:List AV):aZ (.bool b::cs)=aZ cs:=by simp[aZ,AV.cell]
theorem aJU(b:ByteArray)(cs:List AV):aZ (.str b::cs)=aZ cs:=by simp[aZ,AV.cell]
theorem aJ4(xs:List AV)(f:Bool)(t:Option Nat)(cs:List AV):aZ (.lit xs f t::cs)=aZ cs:=by simp[aZ,AV.cell]
theorem aK3(a b c d:Nat)(cs:List AV):aZ (.ref a b c d::cs)=aZ cs:=by simp[aZ,AV.cell]
theorem aJC(a b:Nat)(cs:List AV):aZ (.ptr a b::cs)=aZ cs:=by simp[aZ,AV.cell]
theorem aB6(f:FuncId)(a b:List AV)(cs:List AV):aZ (.func f a b::cs)=aZ cs:=by simp[aZ,AV.cell]
theorem aIY(i:Nat)(cs:List AV):aZ (.map i::cs)=aZ cs:=by simp[aZ,AV.cell]
theorem R5(cs:List AV):aZ (.nilPtr::cs)=aZ cs:=by simp[aZ,AV.cell]
theorem NW(cs:List AV):aZ (.nilFunc::cs)=aZ cs:=by simp[aZ,AV.cell]
theorem aH1{α:Type}(enc:α->AV)(l:List α)(h:∀ x,(enc x).cell=true):aZ (l.map enc)=true:=by
 induction l with
 |nil=>rfl
 |cons x l ih=>simp[aZ,h,ih]
theorem aM6(k:IntKind)(n:Int):(AV.int k n).cells=[.int k n]:=by simp[AV.cells]
theorem aI0(b:Bool):(AV.bool b).cells=[.bool b]:=by simp[AV.cells]
theorem aN9(b:ByteArray):(AV.str b).cells=[.str b]:=by simp[AV.cells]
theorem aMP(xs:List AV)(f:Bool)(t:Option Nat):(AV.lit xs f t).cells=[.lit xs f t]:=by simp[AV.cells]
theorem aNG(a b c d:Nat):(AV.ref a b c d).cells=[.ref a b c d]:=by simp[AV.cells]
theorem aPX(a b:Nat):(AV.ptr a b).cells=[.ptr a b]:=by simp[AV.cells]
theorem aKL(f:FuncId)(a b:List AV):(AV.func f a b).cells=[.func f a b]:=by simp[AV.cells]
theorem aPI(i:Nat):(AV.map i).cells=[.map i]:=by simp[AV.cells]
theorem aOJ(cs:List AV):(AV.agg cs).cells=cs:=by simp[AV.cells]
theorem ZH:AV.nilPtr.cells=[.nilPtr]:=by simp[AV.cells]
theorem TF:AV.nilFunc.cells=[.nilFunc]:=by simp[AV.cells]
theorem aNI(e:Env)(cs:List AV):cC e cs []=some cs:=by simp only[cC]
theorem aOD(e:Env)(cs:List AV)(off n:Nat)(x:AOpd)(rest:List (Nat×Nat×AOpd)):
  cC e cs ((off,n,x)::rest)=((lR n (x.ev e)).bind fun us=>eK cs off us).bind fun cs=>cC e cs rest:=aMK e cs off n x rest
theorem aBA(n:Nat):aI n []=true:=by simp[aI]
theorem aAT(n:Nat)(x:AV)(xs:List AV):aI n (x::xs)=(cA n x&&aI n xs):=by simp[aI,cA]
theorem w7{α:Type}(n:Nat)(enc:α->AV)(l:List α)(h:∀ x,cA n (enc x)=true):aI n (l.map enc)=true:=by
 induction l with
 |nil=>exact aBA n
 |cons x l ih=>rw[List.map_cons,aAT,h,ih];rfl
theorem aN1(n:Nat)(xs:List AV):zB n xs=if aI n xs=true then some (.lit xs true none) else none:=by simp only[zB]
def L6(sz:Nat)(xs:List AV)(j:Int)(t:Option Nat):Option AV:=(xs[j.toNat]?).bind fun y=>if 0<=j/\y.cells.length=sz then some (.lptr xs j.toNat 0 t) else none
theorem aOM(sz:Nat)(xs:List AV)(f:Bool)(t:Option Nat)(k:IntKind)(j:Int):pV none sz (.lit xs f t) (.int k j)=L6 sz xs j t:=by
 simp only[pV,eZ,L6];cases xs[j.toNat]?<;>simp
theorem aMH(n sz id off:Nat)(k:IntKind)(j:Int):pV (some n) sz (.ptr id off) (.int k j)=if 0<=j/\j<n then some (.ptr id (off+j.toNat*sz)) else none:=by simp only[pV,eZ]
theorem aI9(n sz q off:Nat)(xs:List AV)(t:Option Nat)(k:IntKind)(j:Int):pV (some n) sz (.lptr xs q off t) (.int k j)=if 0<=j/\j<n then some (.lptr xs q (off+j.toNat*sz) t) else none:=by simp only[pV,eZ]
theorem aN4(sz id off len sz':Nat)(k:IntKind)(j:Int):pV none sz (.ref id off len sz') (.int k j)=if 0<=j/\j<len/\sz'=sz then some (.ptr id (off+j.toNat*sz)) else none:=by simp only[pV,eZ]
def JU(sz b:Nat)(xs ys:List AV):Prop:=aI sz xs=true/\aI sz ys=true/\(xs.length+ys.length)*b<=room/\xs.length+ys.length<=room
theorem DW{sz b:Nat}{σ:St}{xs ys:List AV}{tk t:Option Nat}{f:Bool}(h:JU sz b xs ys)(h0:ys.length≠0):
  cI sz b σ (.lit xs true tk) (.lit ys f t)=some (.lit (xs++ys) false (some σ.length),σ++[.tok sz (xs.length+ys.length) true]):=by
 obtain⟨h1,h2,h3,h4⟩:=h;simp[cI,lA,uT,h0,h1,h2,h3,h4]
theorem G9{sz b:Nat}{σ:St}{xs ys:List AV}{t:Nat}{tk:Option Nat}{f ex:Bool}(h:JU sz b xs ys)(h0:ys.length≠0)(ht:σ[t]? = some (.tok sz xs.length ex)):
  cI sz b σ (.lit xs false (some t)) (.lit ys f tk)=some (.lit (xs++ys) false (some t),σ.set t (.tok sz (xs.length+ys.length) true)):=by
 obtain⟨h1,h2,h3,h4⟩:=h;simp[cI,lA,uT,h0,h1,h2,h3,h4,ht]
theorem aFE{sz b:Nat}{σ:St}{xs:List AV}{tk t:Option Nat}{f f':Bool}:cI sz b σ (.lit xs f' tk) (.lit [] f t)=some (.lit xs f' tk,σ):=by
 simp[cI,lA]
def bN(σ:St)(m d:Nat)(v:AV):Option AV:=(snap σ m d v).map clr
def bT(σ:St)(m d:Nat)(vs:List AV):Option (List AV):=(snaps σ m d vs).map clrs
theorem aL1(σ:St)(m d:Nat)(k:IntKind)(n:Int):bN σ m d (.int k n)=some (.int k n):=by simp[bN,snap,clr]
theorem aKN(σ:St)(m d:Nat)(b:Bool):bN σ m d (.bool b)=some (.bool b):=by simp[bN,snap,clr]
theorem aML(σ:St)(m d:Nat)(b:ByteArray):bN σ m d (.str b)=some (.str b):=by simp[bN,snap,clr]
theorem WG(σ:St)(m d:Nat):bN σ m d .nilPtr=some .nilPtr:=by simp[bN,snap,clr]
theorem RP(σ:St)(m d:Nat):bN σ m d .nilFunc=some .nilFunc:=by simp[bN,snap,clr]
theorem aO8(σ:St)(m d id off:Nat):bN σ m d (.ptr id off)=if id<m then some (.ptr id off) else none:=by
 simp only[bN,snap];split<;>simp[clr]
theorem aM3(σ:St)(m d id:Nat):bN σ m d (.map id)=if id<m then some (.map id) else none:=by
 simp only[bN,snap];split<;>simp[clr]
theorem aF9(σ:St)(m d:Nat):bT σ m d []=some []:=by simp[bT,snaps,clrs]
theorem M5(σ:St)(m d:Nat)(v:AV)(vs:List AV):bT σ m d (v::vs)=(bN σ m d v).bind fun a=>(bT σ m d vs).map (a::·):=by
 simp only[bT,bN,snaps];cases snap σ m d v<;>cases snaps σ m d vs<;>simp[clrs]
theorem aDR(σ:St)(m d:Nat)(vs:List AV):bN σ m d (.tuple vs)=(bT σ m d vs).map .tuple:=by
 simp only[bT,bN,snap];cases snaps σ m d vs<;>simp[clr]
theorem aOA(σ:St)(m d:Nat)(vs:List AV):bN σ m d (.agg vs)=(bT σ m d vs).map .agg:=by
 simp only[bT,bN,snap];cases snaps σ m d vs<;>simp[clr]
theorem ZE(σ:St)(m d:Nat)(vs:List AV)(f:Bool):bN σ m d (.lit vs f none)=(bT σ m d vs).map fun ys=>.lit ys false none:=by
 simp only[bT,bN,snap];cases snaps σ m d vs<;>simp[clr]
theorem XI(σ:St)(m d t:Nat)(vs:List AV)(f:Bool):bN σ m d (.lit vs f (some t))=(bT σ m d vs).map fun ys=>if t<m then .lit ys f (some t) else .lit ys false none:=by
 simp only[bT,bN,snap];cases snaps σ m d vs<;>by_cases h:t<m<;>simp[clr,h,Option.filter]
theorem aI7(σ:St)(m d:Nat)(f:FuncId)(a b:List AV):bN σ m d (.func f a b)=(bT σ m d a).bind fun x=>(bT σ m d b).map fun y=>.func f x y:=by
 simp only[bT,bN,snap];cases snaps σ m d a<;>cases snaps σ m d b<;>simp[clr]
theorem O9(σ:St)(m d id off len sz:Nat):bN σ m (d+1) (.ref id off len sz) =
  if id<m then some (.ref id off len sz) else (lA σ (.ref id off len sz)).bind fun xs=>if (decide (0<sz)&&aI sz xs)=true then (bT σ m d xs).map fun ys=>.lit ys false none else none:=by
 simp only[bN,snap];split
 ·simp[clr]
 ·cases lA σ (.ref id off len sz) with
  |none=>simp
  |some xs =>
   simp only[Option.bind_some];split
   ·simp only[bT];cases snaps σ m d xs<;>simp[clr]
   ·simp
def jS(v:AV):Prop:=okV 0 v/\clr v=v
def mQ(vs:List AV):Prop:=okVs 0 vs/\clrs vs=vs
mutual
theorem snap_ok0 (σ:St) (m d:Nat):∀ (v:AV),okV 0 v->snap σ m d v=some v
 |.func f first cap,h=>by simp only[okV] at h;simp only[snap,snaps_ok0 σ m d first h.1,snaps_ok0 σ m d cap h.2]
 |.yield _,h|.ptr _ _,h|.ref _ _ _ _,h|.map _,h=>by simp[okV] at h
 |.lptr xs i o tk,h=>by
  simp only[okV] at h;cases tk with
  |none=>simp[snap,snaps_ok0 σ m d xs h.2]
  |some t=>exact absurd (h.1 t rfl) (by omega)
 |.lit xs f tk,h=>by
  simp only[okV] at h;cases tk with
  |none=>simp[snap,snaps_ok0 σ m d xs h.2]
  |some t=>exact absurd (h.1 t rfl) (by omega)
 |.agg cs,h=>by simp only[okV] at h;simp[snap,snaps_ok0 σ m d cs h]
 |.tuple cs,h=>by simp only[okV] at h;simp[snap,snaps_ok0 σ m d cs h]
 |.undef,_|.int _ _,_|.bool _,_|.str _,_|.nilFunc,_|.nilPtr,_|.nilMap,_=>by simp[snap]
theorem snaps_ok0 (σ:St) (m d:Nat):∀ (vs:List AV),okVs 0 vs->snaps σ m d vs=some vs
 |[],_=>by simp[snaps]
 |v::vs,h=>by simp only[okVs] at h;simp[snaps,snap_ok0 σ m d v h.1,snaps_ok0 σ m d vs h.2]
end
theorem aKI{v:AV}(h:jS v)(σ:St)(m d:Nat):bN σ m d v=some v:=by simp[bN,snap_ok0 σ m d v h.1,h.2]
theorem gQ{vs:List AV}(h:mQ vs)(σ:St)(m d:Nat):bT σ m d vs=some vs:=by simp[bT,snaps_ok0 σ m d vs h.1,h.2]
theorem aM(k:IntKind)(n:Int):jS (.int k n):=⟨trivial,rfl⟩
theorem FH(b:Bool):jS (.bool b):=⟨trivial,rfl⟩
theorem CS(b:ByteArray):jS (.str b):=⟨trivial,rfl⟩
theorem cM:mQ []:=⟨trivial,rfl⟩
theorem aD{v:AV}{vs:List AV}(h:jS v)(hs:mQ vs):mQ (v::vs):=⟨⟨h.1,hs.1⟩,by simp[clrs,h.2,hs.2]⟩
theorem iG{vs:List AV}(h:mQ vs):jS (.agg vs):=⟨h.1,by simp[clr,h.2]⟩
theorem N6{vs:List AV}(h:mQ vs):jS (.tuple vs):=⟨h.1,by simp[clr,h.2]⟩
theorem K5{vs:List AV}(h:mQ vs):jS (.lit vs false none):=⟨⟨(fun t e=>by cases e),h.1⟩,by simp[clr,h.2]⟩
theorem cJ{α:Type}{enc:α->AV}(h:∀ x,jS (enc x))(l:List α):mQ (l.map enc):=by
 induction l with
 |nil=>exact cM
 |cons x l ih=>exact aD (h x) ih
theorem eC{α:Type}{enc:α->AV}(h:∀ x,jS (enc x))(l:List α):jS (.lit (l.map enc) false none):=K5 (cJ h l)
def MP(o:Option AV)(σ:St)(v:AV):Prop:=∃ v0,o=some v0/\bN σ 0 20 v0=some v
@[congr] theorem aH8{o o':Option AV}{σ σ':St}{v:AV}(h:o=o')(h2:σ=σ'):MP o σ v=MP o' σ' v:=by rw[h,h2]
theorem aK9(v0:AV)(σ:St)(v:AV):MP (some v0) σ v=(bN σ 0 20 v0=some v):=by simp[MP]
def YV(rs:List ARes)(v:AV):KJ:=fun j e σ=>(j=none\/j=some .ret)/\MP (eQ rs e σ) σ v
theorem aH3(rs:List ARes)(v:AV)(e:Env)(σ:St):YV rs v none e σ=MP (eQ rs e σ) σ v:=by simp[YV]
theorem aNU(rs:List ARes)(v:AV)(e:Env)(σ:St):YV rs v (some .ret) e σ=MP (eQ rs e σ) σ v:=by simp[YV]
theorem aX{f:FuncId}{args:List AV}{v:AV}{af:AFunc}(hf:T f=some af)(hn:args.length<=af.ntmps)(hk:mQ args)(h:wp T af.body (eP 0 args) [] (YV af.results v)):cZ T f args v:=by
 intro σ;refine .frame hk.1 (.inl rfl) (R:=fun o=>o.v=v/\o.σ=[]) (.call hf hn (eG h fun o ho=>ho) fun o ho=>?_) fun o ho=>⟨ho.2,ho.1,rfl⟩
 obtain⟨h1,v0,h2,h3⟩:=ho;refine⟨h1,v0,h2,?_⟩;unfold bN at h3;cases hs:snap o.σ 0 20 v0 with
 |none=>rw[hs] at h3;cases h3
 |some v1 =>
  rw[hs] at h3;simp at h3;exact .inr ⟨20,v1,v,hs,.inr h3.symm,fun i hi=>absurd hi (by simp),by simp,rfl,by simp⟩
theorem P3{f:FuncId}{args args0:List AV}{v:AV}(h:cZ T f args0 v)(ha:clrs args=args0)(hk:okVs 0 args)(σ:St):Run T (.call f args σ) fun o=>o.v=v/\o.σ=σ :=
 .frame hk (.inr ha.symm) (h []) fun o ho=>⟨ho.2,ho.1,rfl⟩
theorem K1{f:FuncId}{first cap args args0:List AV}{v:AV}{σ:St}{K:AV->St->Prop}(h:cZ T f args0 v)(ha:clrs (first++args++cap)=args0)(hk:okVs 0 (first++args++cap))(k:K v σ):cK (K:=⟨K⟩) T (.func f first cap) args σ :=
 .callf (.mono (P3 h ha hk σ) fun o ho=>by rw[ho.1,ho.2];exact k)
theorem JW{f:FuncId}{first cap args args0:List AV}{v:AV}{σ:St}{K:AV->St->Prop}(h:cZ T f args0 v)(ha:clrs (first++args++cap)=args0)(hk:okVs 0 (first++args++cap))(k:K v σ):cD (K:=⟨K⟩) T (.func f first cap) args σ :=
 ⟨v,σ,.callf (P3 h ha hk σ),k⟩
theorem aC{f:FuncId}{args args0:List AV}{v:AV}{σ:St}{K:AV->St->Prop}(h:cZ T f args0 v)(ha:args=args0)(hk:mQ args0)(k:K v σ):cK (K:=⟨K⟩) T (.func f [] []) args σ:=by
 subst ha;exact K1 h (by simpa using hk.2) (by simpa using hk.1) k
theorem aF{f:FuncId}{args args0:List AV}{v:AV}{σ:St}{K:AV->St->Prop}(h:cZ T f args0 v)(ha:args=args0)(hk:mQ args0)(k:K v σ):cD (K:=⟨K⟩) T (.func f [] []) args σ:=by
 subst ha;exact JW h (by simpa using hk.2) (by simpa using hk.1) k
theorem VF{f:FuncId}{args args0:List AV}{v:AV}{σ:St}(h:cZ T f args0 v)(ha:bT σ 0 20 args=some args0)(hv:Scal v):Run T (.call f args σ) fun o=>o.v=v/\o.σ=σ:=by
 unfold bT at ha;cases hs:snaps σ 0 20 args with
 |none=>rw[hs] at ha;cases ha
 |some as1 =>
  rw[hs] at ha;simp at ha;exact .frameS hs (.inr ha.symm) (h []) fun o ho=>⟨ho.2,by rw[ho.1];exact hv,ho.1,rfl⟩
theorem QM{f:FuncId}{first cap args args0:List AV}{v:AV}{σ:St}{K:AV->St->Prop}(h:cZ T f args0 v)(ha:bT σ 0 20 (first++args++cap)=some args0)(hv:Scal v)(k:K v σ):cK (K:=⟨K⟩) T (.func f first cap) args σ :=
 .callf (.mono (VF h ha hv) fun o ho=>by rw[ho.1,ho.2];exact k)
def InK(rs:List ARes)(K:AV->St->Prop):KJ:=fun j e σ=>(j=none\/j=some .ret)/\∃ v,eQ rs e σ=some v/\K v σ
def InR(o:Option AV)(σ:St)(K:AV->St->Prop):Prop:=∃ v,o=some v/\K v σ
@[congr] theorem aLE{o o':Option AV}{σ σ':St}{K:AV->St->Prop}(h:o=o')(h2:σ=σ'):InR o σ K=InR o' σ' K:=by rw[h,h2]
theorem aIV(v:AV)(σ:St)(K:AV->St->Prop):InR (some v) σ K=K v σ:=by simp[InR]
theorem aID(rs:List ARes)(K:AV->St->Prop)(e:Env)(σ:St):InK rs K none e σ=InR (eQ rs e σ) σ K:=by simp[InK,InR]
theorem aPN(rs:List ARes)(K:AV->St->Prop)(e:Env)(σ:St):InK rs K (some .ret) e σ=InR (eQ rs e σ) σ K:=by simp[InK,InR]
theorem m6{f:FuncId}{first cap args:List AV}{af:AFunc}{σ:St}{K:AV->St->Prop}(hf:T f=some af)(hn:(first++args++cap).length<=af.ntmps)(h:wp T af.body (eP 0 (first++args++cap)) σ (InK af.results K)):
  cK (K:=⟨K⟩) T (.func f first cap) args σ :=
 .callf (.call hf hn (eG h fun o ho=>ho) fun o ho=>⟨ho.1,ho.2.choose,ho.2.choose_spec.1,.inl ho.2.choose_spec.2⟩)
def EqE(σ:St)(m:Nat)(e:Env):Env->Prop
 |[]=>True
 |(t,v)::e'=>bN σ m 20 (Env.get e t)=some v/\EqE σ m e e'
theorem aR5(σ:St)(m:Nat)(e:Env):EqE σ m e []=True:=by simp only[EqE]
theorem aT2(σ:St)(m:Nat)(e:Env)(t:Nat)(v:AV)(e':Env):EqE σ m e ((t,v)::e')=(bN σ m 20 (Env.get e t)=some v/\EqE σ m e e'):=by simp only[EqE]
theorem LB{σ:St}{m:Nat}{e:Env}:∀ {e':Env},EqE σ m e e'->QU σ m e e'
 |[],_=>trivial
 |(t,v)::e',h=>by
  refine⟨.inr ?_,LB h.2⟩;have h1:=h.1;unfold bN at h1;cases hs:snap σ m 20 (Env.get e t) with
  |none=>rw[hs] at h1;cases h1
  |some v1=>rw[hs] at h1;simp at h1;exact⟨20,v1,hs,.inr h1.symm⟩
def EqS(m:Nat):St->St->St->Prop
 |_,_,[]=>True
 |s::ss,b::bs,c::cs=>(c=b/\(b=s\/aU m b))/\EqS m ss bs cs
 |[],b::bs,c::cs=>(c=b/\aU m b)/\EqS m [] bs cs
 |_,[],_::_=>False
theorem aTY(m:Nat)(a b:St):EqS m a b []=True:=by cases a<;>cases b<;>simp only[EqS]
theorem aUB(m:Nat)(s b c:ABlk)(ss bs cs:St):EqS m (s::ss) (b::bs) (c::cs)=((c=b/\(b=s\/aU m b))/\EqS m ss bs cs):=by simp only[EqS]
theorem aT8(m:Nat)(b c:ABlk)(bs cs:St):EqS m [] (b::bs) (c::cs)=((c=b/\aU m b)/\EqS m [] bs cs):=by simp only[EqS]
theorem DF{m:Nat}:∀ {σ σ' σ'':St},EqS m σ σ' σ''->∀ i c,σ''[i]? = some c->σ'[i]? = some c/\((i<σ.length/\σ'[i]? = σ[i]?)\/aU m c)
 |_,_,[],_,i,c,h=>by simp at h
 |s::ss,b::bs,x::cs,h,i,c,hc=>by
  obtain⟨⟨h1,h2⟩,h3⟩:=h;cases i with
  |zero =>
   simp at hc;subst hc;subst h1;refine⟨rfl,?_⟩;rcases h2 with h2|h2
   ·left;simp[h2]
   ·right;exact h2
  |succ i =>
   obtain⟨q1,q2⟩:=DF h3 i c (by simpa using hc);refine⟨by simpa using q1,?_⟩;rcases q2 with⟨q2,q3⟩|q2
   ·left;exact⟨by simp;omega,by simpa using q3⟩
   ·right;exact q2
 |[],b::bs,x::cs,h,i,c,hc=>by
  obtain⟨⟨h1,h2⟩,h3⟩:=h;cases i with
  |zero =>
   simp at hc;subst hc;subst h1;exact⟨rfl,.inr h2⟩
  |succ i =>
   obtain⟨q1,q2⟩:=DF h3 i c (by simpa using hc);refine⟨by simpa using q1,?_⟩;rcases q2 with⟨q2,q3⟩|q2
   ·simp at q2
   ·right;exact q2
def aB(σ:St)(e':Env)(σ':St)(e'':Env)(σ'':St):Prop:=σ.length<=σ''.length/\σ''.length<=σ'.length/\EqE σ' σ''.length e' e''/\EqS σ''.length σ σ' σ''
@[congr] theorem aGH{σ σ1:St}{e' e1:Env}{σ' σ1':St}{e'':Env}{σ'':St}(h1:σ=σ1)(h2:e'=e1)(h3:σ'=σ1'):aB σ e' σ' e'' σ''=aB σ1 e1 σ1' e'' σ'':=by rw[h1,h2,h3]
theorem ZQ{σ:St}{e':Env}{σ':St}{e'':Env}{σ'':St}(h:aB σ e' σ' e'' σ''):CU σ e' σ' e'' σ'':=by
 obtain⟨h1,h2,h3,h4⟩:=h;refine⟨h1,h2,LB h3,fun i hi=>?_⟩;obtain⟨c,hc⟩:∃ c,σ''[i]? = some c:=⟨_,List.getElem?_eq_getElem hi⟩;obtain⟨q1,q2⟩:=DF h4 i c hc;refine⟨c,hc,?_⟩;rcases q2 with⟨q2,q3⟩|q2
 ·left;exact⟨q2,.inl q3,q1⟩
 ·right;left;exact⟨q1,q2⟩
def FE{S:Type}(P:S->Prop)(μ:S->Nat)(IE:S->Env)(IS:S->St)(s:S)(K:KJ):KJ:=fun j e σ =>
 match j with
 |none=>∃ s',P s'/\μ s'<μ s/\aB (IS s) e σ (IE s') (IS s')
 |some j=>K (some j) e σ
theorem X5{S:Type}(P:S->Prop)(μ:S->Nat)(IE:S->Env)(IS:S->St)(s:S)(K:KJ)(e:Env)(σ:St):FE P μ IE IS s K none e σ = ∃ s',P s'/\μ s'<μ s/\aB (IS s) e σ (IE s') (IS s'):=by simp only[FE]
theorem aF1{S:Type}(P:S->Prop)(μ:S->Nat)(IE:S->Env)(IS:S->St)(s:S)(K:KJ)(j:AJump)(e:Env)(σ:St):FE P μ IE IS s K (some j) e σ=K (some j) e σ:=by simp only[FE]
def EqW(e:Env):Env->Prop
 |[]=>True
 |(t,v)::e'=>(Env.get e t=v\/clr (Env.get e t)=v)/\EqW e e'
theorem aQF(e:Env):EqW e []=True:=by simp only[EqW]
theorem aRM(e:Env)(t:Nat)(v:AV)(e':Env):EqW e ((t,v)::e')=((Env.get e t=v\/clr (Env.get e t)=v)/\EqW e e'):=by simp only[EqW]
theorem K3{e:Env}:∀ {e':Env},EqW e e'->∀ t,Env.get e' t = .undef\/Env.get e' t=Env.get e t\/Env.get e' t=clr (Env.get e t)
 |[],_,t=>.inl rfl
 |(k,v)::e',h,t=>by
  by_cases hk:k=t
  ·subst hk;right;rcases h.1 with h|h
   ·left;simp[Env.get,h]
   ·right;simp[Env.get,h]
  ·simpa[Env.get,hk] using K3 h.2 t
theorem aON{S:Type}(P:S->Prop)(μ:S->Nat)(IE:S->Env)(IS:S->St){b:ACode}{K:KJ}(step:∀ s,P s->wp T b (IE s) (IS s) (FE P μ IE IS s K)):∀ n s,μ s=n->P s->SJ T (.loop b) (IE s) (IS s) K:=by
 intro n
 induction n using Nat.strongRecOn with
 |_ n ih =>
  intro s hs hp;have h1:Run T (.code b (IE s) (IS s)) fun o=>(o.j=none/\∃ s',P s'/\μ s'<μ s/\o.env=IE s'/\o.σ=IS s')\/(o.j≠none/\K o.j o.env o.σ):=by
   refine .trim2 (eG (step s hp) fun o ho=>ho) fun o ho=>?_
   cases hj:o.j with
   |none =>
    rw[hj,X5] at ho;obtain⟨s',h1,h2,h3⟩:=ho;exact .inr ⟨_,_,ZQ h3,.inl ⟨rfl,s',h1,h2,rfl,rfl⟩⟩
   |some j =>
    rw[hj,aF1] at ho;exact .inl (.inr ⟨by simp,ho⟩)
  refine .loop h1 (fun o ho hj=>?_) fun o ho hj=>?_
  ·rcases ho with⟨_,s',q1,q2,q3,q4⟩|⟨q1,_⟩
   ·rw[q3,q4];exact ih _ (by omega) s' rfl q1
   ·exact absurd hj q1
  ·rcases ho with⟨q,_⟩|⟨_,q⟩
   ·exact absurd q hj
   ·exact q
theorem dQ{S:Type}(s0:S)(P:S->Prop)(μ:S->Nat)(IE:S->Env)(IS:S->St){b:ACode}{e:Env}{σ:St}{K:KJ}(hP:P s0)(hσ:σ=IS s0)(hE:EqW e (IE s0))(step:∀ s,P s->wp T b (IE s) (IS s) (FE P μ IE IS s K)):rK (K:=⟨K⟩) T (.loop b) e σ:=by
 subst hσ;exact .weak (K3 hE) (aON P μ IE IS step _ s0 rfl hP)
theorem rY{c:ACode}{e:Env}{σ:St}{K:KJ}(t sz:Nat)(xs:List AV)(ht:Env.get e t = .lit xs true none)(h:rK (K:=⟨K⟩) T c ((t,.lit xs false (some σ.length))::e) (σ++[.tok sz xs.length false])):rK (K:=⟨K⟩) T c e σ :=
 .ghost t sz xs ht h
end Go.Am
namespace Go.Am
variable {T:FuncId->Option AFunc}
def BH(e:Env)(σ:St):ARes->Option AV
 |.tmp t=>some (Env.get e t)
 |.cell t sh=>kD sh σ (Env.get e t)
def pI(e:Env)(σ:St):List ARes->Option (List AV)
 |[]=>some []
 |r::rs=>(BH e σ r).bind fun v=>(pI e σ rs).map (v::·)
theorem yM(e:Env)(σ:St):∀ rs,jU e σ rs=pI e σ rs
 |[]=>rfl
 |.tmp t::rs=>by simp[jU,pI,BH,yM e σ rs]
 |.cell t sh::rs=>by
  simp only[jU,pI,BH,yM e σ rs];cases kD sh σ (Env.get e t)<;>cases pI e σ rs<;>simp
theorem aG4(e:Env)(σ:St):eQ [] e σ=some (.tuple []):=by simp[eQ,jU]
theorem aLA(r:ARes)(e:Env)(σ:St):eQ [r] e σ=BH e σ r:=by
 simp only[eQ,yM,pI];cases BH e σ r<;>simp
theorem aKY(r s:ARes)(rs:List ARes)(e:Env)(σ:St):eQ (r::s::rs) e σ=(pI e σ (r::s::rs)).map .tuple:=by
 simp only[eQ,yM,pI];cases BH e σ r<;>cases BH e σ s<;>cases pI e σ rs<;>simp
theorem aN0(e:Env)(σ:St):pI e σ []=some []:=by simp only[pI]
theorem aLZ(r:ARes)(rs:List ARes)(e:Env)(σ:St):pI e σ (r::rs)=(BH e σ r).bind fun v=>(pI e σ rs).map (v::·):=by simp only[pI]
theorem aRY(t:Nat)(e:Env)(σ:St):BH e σ (.tmp t)=some (Env.get e t):=by simp only[BH]
theorem aSH(t:Nat)(sh:Option Nat)(e:Env)(σ:St):BH e σ (.cell t sh)=kD sh σ (Env.get e t):=by simp only[BH]
theorem aTG(id:Nat)(K:KJ)(e:Env)(σ:St):lJ id K none e σ=K none e σ:=by simp only[lJ]
theorem aT5(id:Nat)(K:KJ)(e:Env)(σ:St):lJ id K (some .ret) e σ=K (some .ret) e σ:=by simp only[lJ]
theorem aOU(id:Nat)(K:KJ)(e:Env)(σ:St):lJ id K (some (.exit id)) e σ=K none e σ:=by simp[lJ]
theorem aMX(id i:Nat)(K:KJ)(e:Env)(σ:St)(h:i≠id):lJ id K (some (.exit i)) e σ=K (some (.exit i)) e σ:=by simp[lJ,h]
theorem aKV{α:Type}{sz:Nat}{enc:α->AV}{l:List α}{k:Nat}{t:Option Nat}(h:k<l.length)(hs:∀ x,(enc x).cells.length=sz):L6 sz (l.map enc) (k:Int) t=some (.lptr (l.map enc) k 0 t):=by
 simp[L6,List.getElem?_map,h,hs]
theorem aJ0{α:Type}{enc:α->AV}{l:List α}{k:Nat}(h:k<l.length):(l.map enc)[k]? = some (enc l[k]):=by simp[List.getElem?_map,h]
theorem XY{α:Type}{sz:Nat}{enc:α->AV}{l:List α}{i:Int}{t:Option Nat}(h0:0<=i)(h:i.toNat<l.length)(hs:∀ x,(enc x).cells.length=sz):L6 sz (l.map enc) i t=some (.lptr (l.map enc) i.toNat 0 t):=by
 simp[L6,List.getElem?_map,h,hs,h0]
theorem rd0{ds:List ADOper}{e:Env}{σ:St}{K:KJ}(hz:dC ds=[])(h:wpD T ds e σ σ.length [σ] [] fun e σ=>K none e σ):rK (K:=⟨K⟩) T (.dreg ds) e σ:=by
 refine Q0 ?_;rw[hz,List.append_nil];exact h
theorem uH{ds:List ADOper}{e:Env}{σ:St}{K:KJ}(zs:St)(hz:dC ds=zs)(h:wpD T ds e (σ++zs) σ.length [σ++zs] [] fun e σ=>K none e σ):rK (K:=⟨K⟩) T (.dreg ds) e σ:=by
 subst hz;exact Q0 h
theorem dB{k n:Nat}(h:k<n)(hn:n<9223372036854775808):IntKind.i64.wrap ((k:Int)+1)=((k+1:Nat):Int):=by rw[bD ⟨by omega,by omega⟩];omega
def ints(l:List Int):AV:=.lit (l.map (.int .i64)) false none
theorem gE(l:List Int):jS (ints l):=eC (aM .i64) l
theorem uC(σ:St)(m d:Nat)(k:IntKind)(l:List Int):bT σ m d (l.map (.int k))=some (l.map (.int k)):=gQ (cJ (aM k) l) σ m d
theorem aHE(σ:St)(m d:Nat)(l:List ByteArray):bT σ m d (l.map .str)=some (l.map .str):=gQ (cJ CS l) σ m d
theorem aF3(σ:St)(m d:Nat):∀ xs ys:List AV,bT σ m d (xs++ys)=(bT σ m d xs).bind fun a=>(bT σ m d ys).map (a++·)
 |[],ys=>by rw[aF9];simp
 |x::xs,ys=>by
  rw[List.cons_append,M5,M5,aF3 σ m d xs ys];cases bN σ m d x<;>simp;cases bT σ m d xs<;>simp;cases bT σ m d ys<;>simp
def fT(l:List (List Int)):AV:=.lit (l.map ints) false none
theorem CZ(l:List (List Int)):jS (fT l):=eC gE l
theorem aHL(σ:St)(m d:Nat)(l:List Int):bN σ m d (ints l)=some (ints l):=aKI (gE l) σ m d
theorem aK8(σ:St)(m d:Nat)(l:List (List Int)):bT σ m d (l.map ints)=some (l.map ints):=gQ (cJ gE l) σ m d
theorem aHA(k:IntKind)(a b:Int):A6 [.int k a,.int k b]=some (.int k (min a b)):=by
 simp only[A6,vN,if_true,Option.some.injEq,AV.int.injEq,true_and];split<;>omega
theorem aKK(k:IntKind)(a b:Int):AT [.int k a,.int k b]=some (.int k (max a b)):=by
 simp only[AT,vK,if_true,Option.some.injEq,AV.int.injEq,true_and];split<;>omega
def M4(s:ByteArray)(k:Nat):Int:=(((s[k]?).getD 0).toNat:Int)
theorem aIB{s:ByteArray}{k:Nat}(h:k<s.size):CA (.str s) (.int .i64 (k:Int))=some (.int .u8 (M4 s k)):=by
 simp[CA,eZ,M4,h]
structure Span where
 lo:Int
 hi:Int
 deriving DecidableEq
def eM(s:Span):AV:=.agg [.int .i64 s.lo,.int .i64 s.hi]
theorem aK(s:Span):eM s = .agg [.int .i64 s.lo,.int .i64 s.hi]:=by simp only[eM]
theorem vG(s:Span):jS (eM s):=iG (aD (aM _ _) (aD (aM _ _) cM))
def aCX(l:List ByteArray):AV:=.lit (l.map .str) false none
theorem SF(l:List ByteArray):jS (aCX l):=eC CS l
end Go.Am
namespace Go.Am
variable {T:FuncId->Option AFunc}
def gB(T:FuncId->Option AFunc)(f:AV)(args:List AV)(σ:St)(v:AV):Prop:=Run T (.callv f args σ) fun o=>o.v=v/\o.σ=σ
def EG(o:Option AV)(σ0 σ:St)(v:AV):Prop:=∃ v0 τ,o=some v0/\σ=σ0++τ/\bN σ σ0.length 20 v0=some v
@[congr] theorem aFN{o o':Option AV}{σ0 σ σ':St}{v:AV}(h:o=o')(h2:σ=σ'):EG o σ0 σ v=EG o' σ0 σ' v:=by rw[h,h2]
def JC(rs:List ARes)(σ0:St)(v:AV):KJ:=fun j e σ=>(j=none\/j=some .ret)/\EG (eQ rs e σ) σ0 σ v
theorem aKS(rs:List ARes)(σ0:St)(v:AV)(e:Env)(σ:St):JC rs σ0 v none e σ=EG (eQ rs e σ) σ0 σ v:=by simp[JC]
theorem aLQ(rs:List ARes)(σ0:St)(v:AV)(e:Env)(σ:St):JC rs σ0 v (some .ret) e σ=EG (eQ rs e σ) σ0 σ v:=by simp[JC]
theorem cY{v0:AV}{σ0 σ:St}{v:AV}(τ:St)(h1:σ=σ0++τ)(h2:bN σ σ0.length 20 v0=some v):EG (some v0) σ0 σ v:=⟨v0,τ,rfl,h1,h2⟩
theorem dM{f:FuncId}{first cap args:List AV}{σ:St}{af:AFunc}{v:AV}(hf:T f=some af)(hn:(first++args++cap).length<=af.ntmps)(h:wp T af.body (eP 0 (first++args++cap)) σ (JC af.results σ v)):gB T (.func f first cap) args σ v:=by
 refine .callf (.call hf hn (eG h fun o ho=>ho) fun o ho=>?_);obtain⟨h1,v0,τ,h2,h3,h4⟩:=ho;refine⟨h1,v0,h2,?_⟩;unfold bN at h4;cases hs:snap o.σ σ.length 20 v0 with
 |none=>rw[hs] at h4;cases h4
 |some v1 =>
  rw[hs] at h4;simp at h4;exact .inr ⟨20,v1,v,hs,.inr h4.symm,fun i hi=>.inl (by rw[h3];exact List.getElem?_append_left hi),by rw[h3];simp,rfl,by rw[h3];simp⟩
theorem bJ{f:AV}{args:List AV}{v:AV}{σ:St}{K:AV->St->Prop}(h:gB T f args σ v)(k:K v σ):cK (K:=⟨K⟩) T f args σ:=.mono h fun o ho=>by rw[ho.1,ho.2];exact k
theorem CT{f:AV}{args:List AV}{v:AV}{σ:St}{K:AV->St->Prop}(h:gB T f args σ v)(k:K v σ):cD (K:=⟨K⟩) T f args σ:=⟨v,σ,h,k⟩
def n9(σ:St)(v:AV):Prop:=∀ τ,bN (σ++τ) σ.length 20 v=some v
theorem n9.nil{σ:St}{v:AV}(h:n9 σ v):bN σ σ.length 20 v=some v:=by simpa using h []
theorem yU(m:Nat):∀ (σ τ:St),EqS m σ (σ++τ) σ=True
 |[],τ=>by cases τ<;>simp[EqS]
 |b::σ,τ=>by simp[EqS,yU m σ τ]
theorem tE(m:Nat)(σ:St):EqS m σ σ σ=True:=by simpa using yU m σ []
theorem aJD(σ τ υ:St):σ++τ++υ=σ++(τ++υ):=List.append_assoc _ _ _
theorem bC{f:FuncId}{args args0:List AV}{v:AV}{σ:St}{K:AV->St->Prop}(h:cZ T f args0 v)(ha:clrs args=args0)(hk:okVs 0 args)(k:K v σ):cK (K:=⟨K⟩) T (.func f [] []) args σ :=
 K1 h (by simpa using ha) (by simpa using hk) k
theorem iT{f:FuncId}{args args0:List AV}{v:AV}{σ:St}{K:AV->St->Prop}(h:cZ T f args0 v)(ha:clrs args=args0)(hk:okVs 0 args)(k:K v σ):cD (K:=⟨K⟩) T (.func f [] []) args σ :=
 JW h (by simpa using ha) (by simpa using hk) k
end Go.Am
namespace Go.Am
def QV:=zz @aMT (zz @lF (zz @aC2 (zz @aJD (zz @aIB (zz @aHA (zz @aKK (zz @aN5 (zz @aHO (zz @aBH (zz @UO (zz @aOZ (zz @aL4 (zz @aJA (zz @aCN (zz @ZK (zz @aAU (zz @VI (zz @FX (zz @OG (zz @aIO (zz @aGX (zz @aHY (zz @aIN (zz @aHK (zz @aF7 (zz @YX (zz @aKX (zz @aGY (zz @aJ8 (zz @aC5 (zz @aH5 (zz @aOX (zz @aD2 (zz @aEC (zz @QW (zz @aF5 (zz @aPM (zz @GX (zz @HO (zz @GW (zz @aMZ (zz @aPT (zz @aNR (zz @aPL (zz @aLG (zz @aOW (zz @aL0 (zz @aM8 (zz @aOY (zz @aMQ (zz @aMA (zz @aPF (zz @aK6 (zz @aKH (zz @YE (zz @X4 (zz @aHC (zz @aHR (zz @aOC (zz @aLB (zz @P2 (zz @O1 (zz @mA (zz @GU (zz @aLX (zz @aNE (zz @aDL (zz @aM0 (zz @aDT (zz @YO (zz @aII (zz @aLK (zz @aFR (zz @aLN (zz @aPU (zz @aKM (zz @aM2 (zz @T6 (zz @RQ (zz @aNJ (zz @C_0 (zz @aJL (zz @aDP (zz @aJU (zz @aJ4 (zz @aK3 (zz @aJC (zz @aB6 (zz @aIY (zz @R5 (zz @NW (zz @aM6 (zz @aI0 (zz @aN9 (zz @aMP (zz @aNG (zz @aPX (zz @aKL (zz @aPI (zz @aOJ (zz @ZH (zz @TF (zz @aNI (zz @aOD (zz @aBA (zz @aAT (zz @aN1 (zz @aOM (zz @aMH (zz @aI9 (zz @aN4 (zz @aG4 (zz @aLA (zz @aKY (zz @aN0 (zz @aLZ (zz @aRY (zz @aSH (zz @aK9 (zz @aIV (zz @aMY (zz @aKZ (zz @aEE (zz @aOB (zz @aB5 (zz @aD8 (zz @aE4 (zz @aHU (zz @aE5 (zz @OM (zz @aOP (zz @aLP (zz @aLW (zz @aMR (zz @aJI (zz @aDH (zz @aDF (zz @Q8 (zz @V7 (zz @V5 (zz @aFF (zz @aEI (zz @aCU (zz @aBY (zz @XO (zz @WP (zz @aAN (zz @aPE (zz @aOI (zz @aBC (zz @aEO (zz @aG2 (zz @aN6 (zz @aP2 (zz @YR (@aCK))))))))))))))))))))))))))))))))))))))))))))))))))))))))))))))))))))))))))))))))))))))))))))))))))))))))))))))))))))))))))))))))))))))))))))))))))))))))))))
def QP:=zz @aKS (zz @aLQ (zz @aME (zz @aO7 (zz @aH4 (zz @aKP (zz @aCZ (zz @aKQ (zz @aER (zz @aET (zz @aO3 (zz @aTG (zz @aT5 (zz @aOU (zz @aMX (zz @aKV (zz @aJ0 (zz @aJ6 (zz @aCH (zz @aIH (zz @aKB (zz @aBR (zz @aNT (zz @aH3 (zz @aNU (zz @aID (zz @aPN (zz @X5 (zz @aF1 (zz @aNX (zz @aH0 (zz @aCG (zz @aNH (zz @aE8 (zz @aEK (zz @aDV (zz @aKF (zz @aDO (zz @M8 (zz @aPZ (zz @aNW (zz @aMW (zz @aOF (zz @aG3 (zz @aCO (zz @aE2 (zz @TQ (zz @VH (zz @Y2 (zz @aD1 (zz @aC7 (zz @aEM (zz @aC6 (zz @XX (zz @T3 (zz @aAO (zz @aMM (zz @aO4 (zz @WU (zz @aB4 (zz @aHD (zz @aM9 (zz @aP4 (zz @T5 (@aCF))))))))))))))))))))))))))))))))))))))))))))))))))))))))))))))))
def QD:=zz @aOR (zz @aKA (zz @aCI (zz @W1 (zz @aOH (zz @aKJ (zz @aMN (zz @aEA (zz @aFC (zz @aEG (zz @aIT (zz @aCM (zz @NM (zz @aL9 (zz @aO6 (zz @aLV (zz @aPQ (zz @aG6 (zz @aD9 (zz @aCQ (zz @TI (zz @aAK (zz @X1 (zz @aCC (zz @aCT (zz @aC9 (zz @aBQ (zz @WH (zz @aA2 (zz @aBE (zz @aMO (zz @aOG (zz @VY (zz @aBO (zz @aIW (zz @aPR (zz @aPO (zz @Y0 (zz @aCL (zz @aO9 (zz @aIZ (zz @aO1 (zz @aD4 (zz @aES (zz @aFD (zz @aHQ (zz @aC0 (zz @N1 (zz @aPG (zz @aP1 (zz @aOT (zz @aPJ (zz @aHN (zz @aE6 (zz @aEY (zz @S3 (zz @T4 (zz @WQ (zz @aD0 (zz @aDB (zz @aCR (zz @aBN (zz @WI (zz @WN (zz @aAZ (zz @aP8 (zz @aPA (zz @XS (zz @aCE (zz @aK2 (zz @aNA (zz @aPV (zz @U6 (@aCY)))))))))))))))))))))))))))))))))))))))))))))))))))))))))))))))))))))))))
def QS:=zz @aK8 (zz @aHL (zz @aF3 (zz @uC (zz @aHE (zz @aL1 (zz @aKN (zz @aML (zz @WG (zz @RP (zz @aO8 (zz @aM3 (zz @aF9 (zz @M5 (zz @aDR (zz @aOA (zz @ZE (zz @XI (zz @aI7 (zz @aF7 (@YX))))))))))))))))))))
def QR:=zz @YS (zz @W9 (zz @aEN (@aDC)))
def QT:=zz @yU (zz @tE (zz @aR5 (zz @aT2 (zz @aTY (zz @aUB (zz @aT8 (zz @aQF (zz @aRM (@aBH)))))))))
variable {T:FuncId->Option AFunc}
mutual
theorem okV_up {m:Nat}:∀ v,okV 0 v->okV m v
 |.func _ first cap,h=>⟨okVs_up first h.1,okVs_up cap h.2⟩
 |.lptr xs _ _ tk,h=>⟨fun t e=>absurd (h.1 t e) (by omega),okVs_up xs h.2⟩
 |.lit xs _ tk,h=>⟨fun t e=>absurd (h.1 t e) (by omega),okVs_up xs h.2⟩
 |.agg cs,h=>okVs_up cs h
 |.tuple vs,h=>okVs_up vs h
 |.yield _,h|.ptr _ _,h|.ref _ _ _ _,h|.map _,h=>absurd h (by simp[okV])
 |.undef,_|.int _ _,_|.bool _,_|.str _,_|.nilFunc,_|.nilPtr,_|.nilMap,_=>trivial
theorem okVs_up {m:Nat}:∀ vs,okVs 0 vs->okVs m vs
 |[],_=>trivial
 |v::vs,h=>⟨okV_up v h.1,okVs_up vs h.2⟩
end
theorem X6{σ:St}{m d id off len sz:Nat}(h:id<m):bN σ m d (.ref id off len sz)=some (.ref id off len sz):=by
 cases d<;>simp[bN,snap,h,clr]
theorem EE{m:Nat}:∀ {xs ys:List AV},okVs m xs->okVs m ys->okVs m (xs++ys)
 |[],_,_,h=>h
 |x::xs,ys,h,h2=>⟨h.1,EE h.2 h2⟩
end Go.Am
namespace Go.Am
theorem WS(l:List Int):ints l = .lit (l.map (.int .i64)) false none:=by simp only[ints]
theorem VE(l:List ByteArray):aCX l = .lit (l.map .str) false none:=by simp only[aCX]
def QC:=zz @and_self (zz @and_true (zz @true_and (zz @true_or (zz @or_true (zz @WS (zz @VE (zz @decide_true (zz @decide_false (zz @Nat.lt_irrefl (zz @Nat.le_refl (zz @List.length_cons.{0} (zz @List.length_nil.{0} (zz @List.cons_append.{0} (zz @List.nil_append.{0} (zz @List.append_nil.{0} (zz @List.getElem?_cons_zero.{0} (zz @List.getElem?_cons_succ.{0} (zz @List.take_zero.{0} (zz @List.drop_zero.{0} (zz @List.take_succ_cons.{0} (zz @List.drop_succ_cons.{0} (zz @List.take_nil.{0} (zz @List.drop_nil.{0} (zz @List.set_cons_zero.{0} (zz @List.set_cons_succ.{0} (zz @List.length_map.{0,0} (zz @Bool.and_true (zz @Bool.true_and (zz @Bool.and_self (zz @Bool.not_true (zz @Bool.not_false (zz @beq_self_eq_true.{0} (zz @Nat.zero_add (zz @implies_true.{0} (zz @implies_true.{1} (zz @forall_const.{0} (zz @forall_const.{1} (zz @ne_eq.{1} (zz @not_false_eq_true (@not_true_eq_false))))))))))))))))))))))))))))))))))))))))
def QA:=zz QP QD
def QB:=zz QR (zz QV (zz QS QC))
def QE:=zz QT (zz QS (zz @aBH (zz @List.length_append.{0} (zz @Nat.le_add_right QC))))
class Dat (v:AV):Prop where
 h:jS v
class Dats (vs:List AV):Prop where
 h:mQ vs
theorem dd{vs:List AV}[k:Dats vs]:mQ vs:=k.h
instance:Dats []:=⟨cM⟩
instance {v:AV} {vs:List AV} [a:Dat v] [b:Dats vs]:Dats (v::vs):=⟨aD a.h b.h⟩
instance (k:IntKind) (n:Int):Dat (.int k n):=⟨aM k n⟩
instance (b:Bool):Dat (.bool b):=⟨FH b⟩
instance (s:ByteArray):Dat (.str s):=⟨CS s⟩
instance (l:List Int):Dat (ints l):=⟨gE l⟩
instance (l:List (List Int)):Dat (fT l):=⟨CZ l⟩
instance (l:List ByteArray):Dat (aCX l):=⟨SF l⟩
instance (s:Span):Dat (eM s):=⟨vG s⟩
instance {cs:List AV} [a:Dats cs]:Dat (.agg cs):=⟨iG a.h⟩
instance {cs:List AV} [a:Dats cs]:Dat (.tuple cs):=⟨N6 a.h⟩
instance {cs:List AV} [a:Dats cs]:Dat (.lit cs false none):=⟨K5 a.h⟩
instance (k:IntKind) (l:List Int):Dats (l.map (.int k)):=⟨cJ (aM k) l⟩
end Go.Am
namespace Go.Am.Room
def inR(n lo hi:Int):Bool:=decide (lo<=n)&&decide (n<=hi)
theorem kJ(n lo hi:Int):cZ T 20 [.int .i64 n,.int .i64 lo,.int .i64 hi] (.bool (inR n lo hi)):=by
 refine aX (af:=a20) rfl (by simp[a20]) dd ?_;try simp only[↓QA,QB,seval,a20]
 refine aJ (fun h=>?_) fun h=>?_
 all_goals
  try simp only[↓QA,QB,seval,h]
  simp[inR,h]
def j9(s:Span)(lo hi:Int):Int:=if !inR s.lo lo hi||!inR s.hi lo hi then 7 else if s.hi<s.lo then 2 else 0
theorem xL(s:Span)(lo hi:Int):cZ T 29 [eM s,.int .i64 lo,.int .i64 hi] (.int .i64 (j9 s lo hi)):=by
 refine aX (af:=a29) rfl (by simp[a29]) dd ?_;try simp only[↓QA,QB,seval,a29,aK]
 refine aC (kJ _ _ _) rfl dd ?_;try simp only[↓QA,QB,seval]
 cases h1:inR s.lo lo hi
 ·try simp only[↓QA,QB,seval]
  simp[j9,h1]
 ·try simp only[↓QA,QB,seval]
  refine aC (kJ _ _ _) rfl dd ?_;try simp only[↓QA,QB,seval]
  cases h2:inR s.hi lo hi
  ·try simp only[↓QA,QB,seval]
   simp[j9,h1,h2]
  ·try simp only[↓QA,QB,seval]
   refine aJ (fun h=>?_) fun h=>?_
   all_goals
    try simp only[↓QA,QB,seval,h]
    simp[j9,h1,h2];simpa using h
def kF(s:Span)(n:Int):Span:=⟨min s.lo n,max s.hi n⟩
theorem OU(l:List Int)(n:Int)(hl:l.length<9223372036854775808):cZ T 64 [ints l,.int .i64 n] (.bool (l.contains n)):=by
 refine aX (af:=a64) rfl (by simp[a64]) dd ?_;try simp only[↓QA,QB,seval,a64]
 refine dQ (S:=Nat) 0 (·<=l.length) (fun k=>l.length-k) (fun k=>[(0,ints l),(1,.int .i64 n),(5,.bool ((l.take k).contains n)),(6,.int .i64 k)]) (fun _=>[]) (Nat.zero_le _) rfl ?_ fun k hk=>?_
 ·try simp only[aB,QE,seval]
  try simp
 ·try simp only[↓QA,QB,seval,aGU]
  refine aJ (fun h=>?_) fun h=>?_
  ·have hk1:k<l.length:=by simpa using h
   try simp only[↓QA,QB,seval]
   refine aJ (fun h2=>?_) fun h2=>?_
   all_goals
    try simp only[↓QA,QB,seval,h2,hk1]
    refine⟨k+1,by omega,by omega,?_⟩;try simp only[aB,QE,seval,dB hk1 hl]
    simp only[List.take_succ_eq_append_getElem hk1,List.contains_append,h2];simp;try (rw[Bool.eq_iff_iff];simp;exact eq_comm)
  ·have:k=l.length:=by simp at h;omega
   try simp only[↓QA,QB,seval]
   simp[this]
def less:List Int->List Int->Bool
 |_,[]=>false
 |[],_::_=>true
 |a::az,b::bs=>if a=b then less az bs else decide (a<b)
theorem RG{a b:List Int}{k:Nat}(ha:k<a.length)(hb:k<b.length)(h:a[k]=b[k]):less (a.drop (k+1)) (b.drop (k+1))=less (a.drop k) (b.drop k):=by
 rw[List.drop_eq_getElem_cons ha,List.drop_eq_getElem_cons hb];simp[less,h]
theorem P1(a b:List Int)(ha:a.length<9223372036854775808)(hb:b.length<9223372036854775808):cZ T 170 [ints a,ints b] (.bool (less a b)):=by
 refine aX (af:=U9) rfl (by simp[U9]) dd ?_
 (repeat (first|simp only[↓QA,QB,seval,U9]|refine rd0 rfl ?_))
 refine dQ (S:=Nat) 0 (fun k=>k<=a.length/\k<=b.length/\less (a.drop k) (b.drop k)=less a b) (fun k=>a.length-k) (fun k=>[(0,ints a),(1,ints b),(5,.int .i64 k)]) (fun _=>[]) ⟨Nat.zero_le _,Nat.zero_le _,rfl⟩ rfl ?_ fun k hk=>?_
 ·try simp only[aB,QE,seval]
  try simp
 ·obtain⟨hka,hkb,hl⟩:=hk
  (repeat (first|simp only[↓QA,QB,seval,YT]|refine rd0 rfl ?_))
  by_cases h1:k<a.length
  ·have g1:decide ((k:Int)<a.length)=true:=by simpa using h1
   by_cases h2:k<b.length
   ·have g2:decide ((k:Int)<b.length)=true:=by simpa using h2
    (repeat (first|simp only[↓QA,QB,seval,g1,g2,h1,h2]|refine rd0 rfl ?_))
    refine aJ (fun h3=>?_) fun h3=>?_
    ·have h3':a[k]=b[k]:=by simpa using h3
     (repeat (first|simp only[↓QA,QB,seval,h3]|refine rd0 rfl ?_))
     refine⟨k+1,⟨by omega,by omega,(RG h1 h2 h3').trans hl⟩,by omega,?_⟩;try simp only[aB,QE,seval,dB h1 ha]
    ·have h3':a[k]≠b[k]:=by simpa using h3
     have e1:((k:Int)==b.length)=false:=by simp;omega
     have e2:((k:Int)==a.length)=false:=by simp;omega
     (repeat (first|simp only[↓QA,QB,seval,h3,e1,e2,h1,h2]|refine rd0 rfl ?_))
     rw[<-hl,List.drop_eq_getElem_cons h1,List.drop_eq_getElem_cons h2];simp[less,h3']
   ·have hkb':k=b.length:=by omega
    have g2:decide ((k:Int)<b.length)=false:=by simp;omega
    have e1:((k:Int)==b.length)=true:=by simp;omega
    (repeat (first|simp only[↓QA,QB,seval,g1,g2,e1]|refine rd0 rfl ?_))
    rw[<-hl,hkb',List.drop_length];cases List.drop b.length a<;>simp[less]
  ·have g1:decide ((k:Int)<a.length)=false:=by simp;omega
   have e2:((k:Int)==a.length)=true:=by simp;omega
   have hka':k=a.length:=by omega
   (repeat (first|simp only[↓QA,QB,seval,g1]|refine rd0 rfl ?_))
   refine aJ (fun h3=>?_) fun h3=>?_
   ·have h3':k=b.length:=by simp at h3;omega
    (repeat (first|simp only[↓QA,QB,seval]|refine rd0 rfl ?_))
    rw[<-hl,h3',List.drop_length];cases List.drop b.length a<;>simp[less]
   ·have h3':k<b.length:=by simp at h3;omega
    (repeat (first|simp only[↓QA,QB,seval,h3,e2]|refine rd0 rfl ?_))
    rw[<-hl,hka',List.drop_length,List.drop_eq_getElem_cons (by omega)];simp[less]
theorem qY:∀ a,less a a=false
 |[]=>rfl
 |a::az=>by simp[less,qY az]
theorem CI:∀ a b,less a b=false->less b a=false->a=b
 |[],[],_,_=>rfl
 |[],b::bs,h,_=>by simp[less] at h
 |a::az,[],_,h=>by simp[less] at h
 |a::az,b::bs,h1,h2=>by
  by_cases hab:a=b
  ·subst hab;simp[less] at h1 h2;rw[CI az bs h1 h2]
  ·simp[less,hab,Ne.symm hab] at h1 h2;omega
theorem fF(a b:List Int)(ha:a.length<9223372036854775808)(hb:b.length<9223372036854775808):cZ T 44 [ints a,ints b] (.bool (decide (a=b))):=by
 refine aX (af:=a44) rfl (by simp[a44]) dd ?_;try simp only[↓QA,QB,seval,a44]
 refine aJ (fun h=>?_) fun h=>?_
 ·try simp only[↓QA,QB,seval,h]
  refine aC (P1 a b ha hb) rfl dd ?_;try simp only[↓QA,QB,seval,h]
  cases h1:less a b
  ·try simp only[↓QA,QB,seval,h]
   refine aC (P1 b a hb ha) rfl dd ?_;try simp only[↓QA,QB,seval,h]
   cases h2:less b a
   ·rw[CI a b h1 h2];simp
   ·have:a≠b:=by rintro rfl;rw[qY] at h2;cases h2
    simp[this]
  ·have:a≠b:=by rintro rfl;rw[qY] at h1;cases h1
   try simp only[↓QA,QB,seval,h]
   simp[this]
 ·have:a≠b:=by rintro rfl;simp at h
  try simp only[↓QA,QB,seval,h]
  simp[this]
def fV(a b:List Int):Bool:=if a.length=b.length then less a b else decide (a.length<b.length)
def aGB(s:ByteArray):List ByteArray->Nat
 |[]=>0
 |x::xs=>if x=s then 0 else aGB s xs+1
def aJT(i:Nat)(b:Int):Bool:=inR b 97 122||(decide (0<i)&&(b==46||inR b 48 57))
def aAC(s:ByteArray):Nat->Bool
 |0=>true
 |k+1=>aAC s k&&aJT k (M4 s k)
def aJJ(s:ByteArray):Bool:=inR s.size 1 16&&aAC s s.size
def fresh(s:ByteArray)(before:List ByteArray):Int:=if aJJ s=false then 6 else if aGB s before=before.length then 0 else 5
def aS(a:Int):Nat->List Int
 |0=>[]
 |n+1=>a::aS (a+1) n
theorem kS:∀ n a,(aS a n).length=n
 |0,_=>rfl
 |n+1,a=>by simp[aS,kS n]
theorem bP:∀ n a x,x∈aS a n↔a<=x/\x<a+n
 |0,a,x=>by simp[aS]
 |n+1,a,x=>by simp[aS,bP n];omega
def dH(i:Nat)(c:List Int):Int:=if 0<i then (c[i-1]?).getD 0+1 else 0
def P5(below i:Nat)(c:List Int):List (List Int):=(aS (dH i c) ((below:Int)-dH i c).toNat).map fun n=>c++[n]
def dU(below:Nat):Nat->List (List Int)
 |0=>[[]]
 |i+1=>(dU below i).flatMap (P5 below i)
theorem nJ(below:Nat):∀ i c,c∈dU below i->c.length=i/\∀ x∈c,0<=x/\x<below
 |0,c,h=>by simp[dU] at h;subst h;simp
 |i+1,c,h=>by
  simp only[dU,List.mem_flatMap] at h;obtain⟨d,h1,h2⟩:=h;obtain⟨q1,q2⟩:=nJ below i d h1;simp only[P5,List.mem_map,bP] at h2;obtain⟨n,h3,rfl⟩:=h2;refine⟨by simp[q1],fun x hx=>?_⟩;rcases List.mem_append.1 hx with hx|hx
  ·exact q2 x hx
  ·simp at hx;subst hx;have:0<=dH i d:=by
    unfold dH;split
    ·rename_i hi;have hlt:i-1<d.length:=by omega
     have:=q2 d[i-1] (List.getElem_mem hlt);simp[hlt];omega
    ·omega
   omega
theorem xH{α β:Type}(f:α->List β)(b:Nat):∀ l:List α,(∀ x∈l,(f x).length<=b)->(l.flatMap f).length<=l.length*b
 |[],_=>by simp
 |x::l,h=>by
  have h1:=h x (by simp);have h2:=xH f b l fun y hy=>h y (List.mem_cons_of_mem _ hy)
  simp only[List.flatMap_cons,List.length_append,List.length_cons,Nat.add_mul];omega
theorem v4(l:List (List Int)):aI 1 (l.map ints)=true:=w7 1 ints l fun x=>aFR _ _ _
theorem iU(l:List Int):aI 1 (l.map (.int .i64))=true:=w7 1 _ l fun x=>YO _ _
theorem w8:∀ {a b c:List Int},less a b=true->less b c=true->less a c=true
 |a,b,[],h1,h2=>by cases b<;>simp[less] at h2
 |a,[],c::cs,h1,h2=>by cases a<;>simp[less] at h1
 |[],b::bs,c::cs,h1,h2=>by simp[less]
 |a::az,b::bs,c::cs,h1,h2=>by
  simp only[less] at *;by_cases hab:a=b
  ·subst hab;by_cases hac:a=c
   ·subst hac;simp only[if_true] at *;exact w8 h1 h2
   ·simp only[hac,if_false,if_true] at *;exact h2
  ·by_cases hbc:b=c
   ·subst hbc;simp only[hab,if_false,if_true,decide_eq_true_eq] at *;exact h1
   ·simp only[hab,hbc,if_false,decide_eq_true_eq] at *;rw[if_neg (by omega)];simp;omega
theorem zM(a:List Int):fV a a=false:=by simp[fV,qY]
theorem A4{a b c:List Int}(h1:fV a b=true)(h2:fV b c=true):fV a c=true:=by
 simp only[fV] at *;by_cases e1:a.length=b.length<;>by_cases e2:b.length=c.length
 ·simp only[e1,e2,if_true] at *;exact w8 h1 h2
 ·simp only[e1,e2,if_true,if_false,decide_eq_true_eq] at *;exact h2
 ·rw[if_neg e1] at h1;rw[if_neg (by omega)];simp at h1 ⊢;omega
 ·simp only[e1,e2,if_false,decide_eq_true_eq] at *;rw[if_neg (by omega)];simp;omega
theorem GI{a b:List Int}(h1:fV a b=false)(h2:fV b a=false):a=b:=by
 simp only[fV] at *;by_cases e1:a.length=b.length
 ·simp only[e1,if_true] at *;exact CI a b h1 h2
 ·rw[if_neg e1] at h1;rw[if_neg (Ne.symm e1)] at h2;simp at h1 h2;omega
theorem IH{a b c:List Int}(h1:fV b a=false)(h2:fV c b=false):fV c a=false:=by
 rw[Bool.eq_false_iff];intro h;by_cases hab:fV a b=true
 ·rw[A4 h hab] at h2;cases h2
 ·have:=GI (by simpa using hab) h1;subst this;rw[h] at h2;cases h2
def lst(n s:Nat):List Int:=(aS 0 n).filter fun i=>decide (s/2^i.toNat%2=1)
theorem aJ7:∀ n:Fin 7,∀ s:Fin 64,s.val<2^n.val->lst n s∈dU n (lst n s).length:=by decide +kernel
theorem ZU:∀ n m:Fin 7,∀ c∈dU n m,∃ s:Fin 64,s.val<2^n.val/\lst n s=c:=by decide +kernel
theorem D4:∀ n m:Fin 7,(dU n m).Pairwise fun a b=>less a b=true:=by decide +kernel
theorem KS:∀ n:Fin 7,(dU n n).length=1:=by decide +kernel
theorem PG(n s:Nat):(lst n s).length<=n:=by
 have:=List.length_filter_le (fun i:Int=>decide (s/2^i.toNat%2=1)) (aS 0 n);rw[kS] at this;exact this
def dJ(f:List Int->Bool)(n:Nat):Nat->Nat->Option (List Int)
 |0,_=>none
 |k+1,m=>match (dU n m).find? f with
  |some l=>some l
  |none=>dJ f n k (m+1)
theorem H4:∀ n:Fin 7,∀ c∈dU n n,∀ j:Fin 7,j.val<n.val->c.contains ((j.val:Nat):Int)=true:=by decide +kernel
def iE(f:List Int->Bool)(o:Option (List Int))(l:List Int):Option (List Int):=match o with
 |none=>if f l=true then some l else none
 |some b=>if fV b l=true then some b else if f l=true then some l else some b
def lD(f:List Int->Bool)(n:Nat):Nat->Nat->Option (List Int)->Option (List Int)
 |0,_,o=>o
 |k+1,s,o=>lD f n k (s+1) (iE f o (lst n s))
theorem yE(f:List Int->Bool)(n:Nat):∀ k s o,(∀ w,o=some w->f w=true/\∃ t,t<s/\w=lst n t/\∀ t',t'<s->f (lst n t')=true->fV (lst n t') w=false)->(o=none->∀ t,t<s->f (lst n t)=false) ->
  (∀ w,lD f n k s o=some w->f w=true/\∃ t,t<s+k/\w=lst n t/\∀ t',t'<s+k->f (lst n t')=true->fV (lst n t') w=false)/\(lD f n k s o=none->∀ t,t<s+k->f (lst n t)=false)
 |0,s,o,h1,h2=>⟨h1,h2⟩
 |k+1,s,o,h1,h2=>by
  have ih:=yE f n k (s+1) (iE f o (lst n s));rw[show s+1+k=s+(k+1) by omega] at ih;simp only[lD];have last:∀ (w:List Int) t',t'<s+1->(∀ t'',t''<s->f (lst n t'')=true->fV (lst n t'') w=false)->(f (lst n s)=true->fV (lst n s) w=false)->f (lst n t')=true->fV (lst n t') w=false:=by
   intro w t' ht h3 h4 hs;by_cases he:t'=s
   ·subst he;exact h4 hs
   ·exact h3 t' (by omega) hs
  refine ih (fun w hw=>?_) fun hn t ht=>?_
  ·cases o with
   |none =>
    simp only[iE] at hw;split at hw
    ·rename_i hs;simp only[Option.some.injEq] at hw;subst hw;refine⟨hs,s,by omega,rfl,fun t' ht hst=>last _ t' ht (fun t'' h4 h5=>by rw[h2 rfl t'' h4] at h5;cases h5) (fun _=>zM _) hst⟩
    ·cases hw
   |some b =>
    obtain⟨q1,t,q2,q3,q4⟩:=h1 b rfl;simp only[iE] at hw;split at hw
    ·rename_i hf;simp only[Option.some.injEq] at hw;subst hw;refine⟨q1,t,by omega,q3,fun t' ht hst=>last _ t' ht q4 (fun _=>?_) hst⟩;rw[Bool.eq_false_iff];intro h5;have:=A4 hf h5;rw[zM] at this;cases this
    ·rename_i hf;split at hw
     ·rename_i hs;simp only[Option.some.injEq] at hw;subst hw;refine⟨hs,s,by omega,rfl,fun t' ht hst=>last _ t' ht (fun t'' h4 h5=>?_) (fun _=>zM _) hst⟩;exact IH (by simpa using hf) (q4 t'' h4 h5)
     ·rename_i hs;simp only[Option.some.injEq] at hw;subst hw;exact⟨q1,t,by omega,q3,fun t' ht hst=>last _ t' ht q4 (fun h5=>absurd h5 hs) hst⟩
  ·cases o with
   |none =>
    simp only[iE] at hn;split at hn
    ·cases hn
    ·rename_i hs;by_cases he:t=s
     ·subst he;simpa using hs
     ·exact h2 rfl t (by omega)
   |some b =>
    simp only[iE] at hn;split at hn
    ·cases hn
    ·split at hn<;>cases hn
theorem xA:∀ {n i:Nat} {c:List Int},c∈dU n i->i<=n:=by
 intro n i;cases i with
 |zero=>intros;omega
 |succ i =>
  intro c hc;simp only[dU,List.mem_flatMap,P5,List.mem_map,bP] at hc;obtain⟨d,hd,x,hx,rfl⟩:=hc;have key:∀ j (d:List Int),d∈dU n j->(j:Int)<=dH j d:=by
   intro j
   induction j with
   |zero=>intro d _;simp[dH]
   |succ j ih =>
    intro d hd;simp only[dU,List.mem_flatMap,P5,List.mem_map,bP] at hd;obtain⟨d',hd',y,hy,rfl⟩:=hd;have h5:=ih d' hd';have h6:=(nJ n j d' hd').1;simp only[dH,Nat.succ_pos,if_true,Nat.add_sub_cancel];rw[List.getElem?_append_right (by omega),h6,Nat.sub_self];simp only[List.getElem?_cons_zero,Option.getD_some];omega
  have:=key i d hd;omega
theorem uD(f:List Int->Bool)(n:Nat)(hN:n<=6):∀ k m,(∀ m',m'<m->∀ c∈dU n m',f c=false) ->
  (∀ l,dJ f n k m=some l->l∈dU n l.length/\f l=true/\∀ m',∀ c∈dU n m',f c=true->fV c l=false)/\(dJ f n k m=none->∀ m',m'<m+k->∀ c∈dU n m',f c=false)
 |0,m,hlow=>⟨fun l h=>by simp[dJ] at h,fun _ m' h c hc=>hlow m' (by omega) c hc⟩
 |k+1,m,hlow=>by
  simp only[dJ];cases hf:(dU n m).find? f with
  |none =>
   simp only;have ih:=uD f n hN k (m+1) fun m' hm' c hc=>by
    by_cases he:m'=m
    ·subst he;rw[List.find?_eq_none] at hf;simpa using hf c hc
    ·exact hlow m' (by omega) c hc
   exact⟨ih.1,fun h m' hm'=>ih.2 h m' (by omega)⟩
  |some l =>
   simp only;refine⟨fun l' h=>?_,fun h=>by cases h⟩;cases h;have hmem:=List.mem_of_find?_eq_some hf;have hs:=List.find?_some hf;have hlen:=(nJ _ _ _ hmem).1;rw[hlen];refine⟨hmem,hs,fun m' c hc hsc=>?_⟩;have hcl:=(nJ _ _ _ hc).1;by_cases h1:m'<m
   ·rw[hlow m' h1 c hc] at hsc;cases hsc
   ·by_cases he:m'=m
    ·subst he;rw[Bool.eq_false_iff];intro hlt;simp only[fV,hcl,hlen,if_true] at hlt;obtain⟨pre,post,e1,e2⟩:=(List.find?_eq_some_iff_append.1 hf).2;have hmn:=xA hmem;have hpw:=D4 ⟨n,by omega⟩ ⟨m',by omega⟩;simp only at hpw;rw[e1] at hc hpw;rcases List.mem_append.1 hc with hc|hc
     ·have:=e2 c hc;rw[hsc] at this;cases this
     ·rcases List.mem_cons.1 hc with rfl|hc
      ·rw[qY] at hlt;cases hlt
      ·have:=(List.pairwise_append.1 hpw).2.1;have:=(List.pairwise_cons.1 this).1 c hc;have h3:=w8 hlt this;rw[qY] at h3;cases h3
    ·simp only[fV];rw[if_neg (by omega)];simp;omega
theorem WB(f:List Int->Bool)(n:Nat)(hN:n<=6):lD f n (2^n) 0 none=dJ f n (n+1) 0:=by
 have hp:2^n<=2^6:=Nat.pow_le_pow_right (by omega) hN;obtain⟨w1,w2⟩:=uD f n hN (n+1) 0 (fun m' h=>by omega);obtain⟨s1,s2⟩:=yE f n (2^n) 0 none (fun w h=>by cases h) (fun _ t h=>by omega);rw[Nat.zero_add] at s1 s2;cases hf:lD f n (2^n) 0 none with
 |none =>
  cases hg:dJ f n (n+1) 0 with
  |none=>rfl
  |some l =>
   obtain⟨a,b,c⟩:=w1 l hg;have hle:=xA a;obtain⟨t,ht,hlt⟩:=ZU ⟨n,by omega⟩ ⟨l.length,by omega⟩ l a;have:=s2 hf t.val ht;rw[show lst n t.val=l from hlt,b] at this;cases this
 |some w =>
  obtain⟨q1,t',q2,q3,q4⟩:=s1 w hf;have hin:=aJ7 ⟨n,by omega⟩ ⟨t',by omega⟩ q2;simp only at hin;rw[<-q3] at hin;have hle:w.length<=n:=by rw[q3];exact PG _ _
  cases hg:dJ f n (n+1) 0 with
  |none =>
   have:=w2 hg w.length (by omega) w hin;rw[q1] at this;cases this
  |some l =>
   obtain⟨a,b,c⟩:=w1 l hg;have hll:=xA a;obtain⟨t,ht,hlt⟩:=ZU ⟨n,by omega⟩ ⟨l.length,by omega⟩ l a;have a1:=q4 t.val ht (by rw[show lst n t.val=l from hlt];exact b);rw[show lst n t.val=l from hlt] at a1;have a2:=c w.length w hin q1;rw[GI a1 a2]
open Go
variable {P:Program}
def oP(P:Program)(t:TypeId)(ts:List TypeId):Prop:=∃ fs,P.underlying t=some (.struct fs)/\fs.toList.map Field.type=ts
theorem DS{n:Nat}{t:TypeId}{ts:List TypeId}{cs:List AV}(hu:oP P t ts)(h:Typ P (n+1) t cs):mkV P t cs = .agg cs/\PJ P n ts cs:=by
 obtain⟨fs,h1,h2⟩:=hu;have:=OR h1 h;rw[h2] at this;exact⟨NE h1,this⟩
theorem YK{t:TypeId}{a:AV}{d:TypeDesc}(hu:P.underlying t=some d)(hd:∀ fs,d≠.struct fs:=by intro fs h;cases h)(hd2:∀ k e,d≠.array k e:=by intro k e h;cases h):mkV P t [a]=a:=aFG (by rw[hu];intro fs e;cases e;exact hd _ rfl) (by rw[hu];intro k e h;cases h;exact hd2 _ _ rfl)
theorem GQ{n:Nat}{i t:TypeId}{cs:List AV}(hi:P.underlying i=some (.int .i64))(hs:oP P t [i,i])(h:Typ P (n+2) t cs):∃ s:Span,cs=[.int .i64 s.lo,.int .i64 s.hi]:=by
 obtain⟨_,a,b,rfl,h1,c,d,rfl,h2,rfl⟩:=DS hs h;obtain⟨x,rfl,_⟩:=j5 hi h1;obtain⟨y,rfl,_⟩:=j5 hi h2;exact⟨⟨x,y⟩,rfl⟩
theorem aJQ{n:Nat}{t:TypeId}{cs:List AV}(hi:P.underlying t=some (.int .i64))(h:Typ P (n+1) t cs):∃ x:Int,mkV P t cs = .int .i64 x/\True:=by
 obtain⟨x,rfl,_⟩:=j5 hi h;exact⟨x,YK hi,trivial⟩
theorem aGQ{n:Nat}{t:TypeId}{cs:List AV}(hi:P.underlying t=some (.int .u8))(h:Typ P (n+1) t cs):∃ x:Int,mkV P t cs = .int .u8 x/\(0<=x/\x<256):=by
 obtain⟨x,rfl,hw⟩:=j5 hi h;exact⟨x,YK hi,aGP hw⟩
end Go.Am.Room
namespace Go.Am.Room.Ho
structure Hold where
 start:Span
 duct:Int
 keep:Span
structure Line where
 watch:Int
 hold:Int
 marks:Int
 deriving DecidableEq
structure Ship where
 cold:Int
 power:Int
 warm:Int
 heat:List Int
 frm:Int
 holds:List Hold
 log:List Line
def encHold(h:Hold):AV:=.agg [.int .i64 h.start.lo,.int .i64 h.start.hi,.int .i64 h.duct,.int .i64 h.keep.lo,.int .i64 h.keep.hi]
theorem encHold_eq(h:Hold):encHold h = .agg [.int .i64 h.start.lo,.int .i64 h.start.hi,.int .i64 h.duct,.int .i64 h.keep.lo,.int .i64 h.keep.hi]:=by simp only[encHold]
theorem data_hold(h:Hold):jS (encHold h):=iG (aD (aM _ _) (aD (aM _ _) (aD (aM _ _) (aD (aM _ _) (aD (aM _ _) cM)))))
instance (h:Hold):Dat (encHold h):=⟨data_hold h⟩
def eL(x:Line):AV:=.agg [.int .i64 x.watch,.int .i64 x.hold,.int .i64 x.marks]
theorem aW(x:Line):eL x = .agg [.int .i64 x.watch,.int .i64 x.hold,.int .i64 x.marks]:=by simp only[eL]
theorem data_line(x:Line):jS (eL x):=iG (aD (aM _ _) (aD (aM _ _) (aD (aM _ _) cM)))
instance (x:Line):Dat (eL x):=⟨data_line x⟩
instance (l:List Hold):Dats (l.map encHold):=⟨cJ data_hold l⟩
instance (l:List Line):Dats (l.map eL):=⟨cJ data_line l⟩
def shipCells(s:Ship):List AV:=[.int .i64 s.cold,.int .i64 s.power,.int .i64 s.warm,ints s.heat,.int .i64 s.frm,.lit (s.holds.map encHold) false none,.lit (s.log.map eL) false none]
theorem aL(s:Ship):shipCells s=[.int .i64 s.cold,.int .i64 s.power,.int .i64 s.warm,.lit (s.heat.map (.int .i64)) false none,.int .i64 s.frm,.lit (s.holds.map encHold) false none,.lit (s.log.map eL) false none]:=by simp only[shipCells,ints]
def encShip(s:Ship):AV:=.agg (shipCells s)
theorem encShip_eq(s:Ship):encShip s = .agg (shipCells s):=by simp only[encShip]
theorem data_ship(s:Ship):jS (encShip s):=iG (aD (aM _ _) (aD (aM _ _) (aD (aM _ _) (aD (gE _) (aD (aM _ _) (aD (eC data_hold _) (aD (eC data_line _) cM)))))))
instance (s:Ship):Dat (encShip s):=⟨data_ship s⟩
theorem bF(σ:St)(m d:Nat)(l:List Hold):bT σ m d (l.map encHold)=some (l.map encHold):=gQ (cJ data_hold l) σ m d
theorem bE(σ:St)(m d:Nat)(l:List Line):bT σ m d (l.map eL)=some (l.map eL):=gQ (cJ data_line l) σ m d
structure Fits (s:Ship):Prop where
 heat:s.heat.length<9223372036854775808
 holds:s.holds.length<9223372036854775808
 log:s.log.length<9223372036854775808
def aO{α:Type}(f:Nat->α->Int):List α->Nat->Option (Nat×Int)
 |[],_=>none
 |x::xs,i=>if f i x=0 then aO f xs (i+1) else some (i,f i x)
theorem dP{α:Type}{f:Nat->α->Int}{l:List α}{k:Nat}(h:k<l.length):aO f (l.drop k) k=if f k l[k]=0 then aO f (l.drop (k+1)) (k+1) else some (k,f k l[k]):=by
 rw[List.drop_eq_getElem_cons h];rfl
theorem eN{α:Type}{f:Nat->α->Int}{l:List α}{k:Nat}(h:k=l.length):aO f (l.drop k) k=none:=by
 rw[h,List.drop_length];rfl
def fM(n:Int):Bool:=inR n 0 80
def dO(h:Hold):Int :=
 if j9 h.start 0 80=7\/j9 h.keep 0 80=7\/inR h.duct 0 2=false then 7 else if j9 h.start 0 80≠0 then j9 h.start 0 80 else j9 h.keep 0 80
def jV(_:Nat)(n:Int):Int:=if fM n then 0 else 7
def iQ(s:Ship)(_:Nat)(x:Line):Int:=if inR x.hold 0 ((s.holds.length:Int)-1)=false then 4 else if inR x.watch 0 s.heat.length&&fM x.marks then 0 else 7
def fI(s:Ship):Int×Int×Int:=if 5<s.log.length then (5,0,3) else match aO (iQ s) s.log 0 with|some (i,e)=>(5,i,e)|none=>(0,0,0)
def fH(s:Ship):Int×Int×Int:=if inR s.holds.length 1 4=false then (4,0,3) else match aO (fun _=>dO) s.holds 0 with|some (i,e)=>(4,i,e)|none=>fI s
def gC(s:Ship):Int×Int×Int:=if inR s.frm 0 s.heat.length=false then (3,0,7) else fH s
def fX(s:Ship):Int×Int×Int:=if inR s.heat.length 1 6=false then (2,0,3) else match aO jV s.heat 0 with|some (i,e)=>(2,i,e)|none=>gC s
def check(s:Ship):Int×Int×Int:=if fM s.cold=false\/inR s.power 1 9=false\/inR s.warm 0 5=false then (1,0,7) else fX s
def jW(a b n:Int):Int:=if a<b then min b (a+n) else max b (a-n)
def cooled(bl:List Int)(h:Nat):Bool:=(List.range (h+1)).all fun i=>!bl.contains (i:Int)
def marksAt(s:Ship)(h:Nat)(start:Int)(c:Bool):Nat->Int
 |0=>start
 |w+1=>if c then jW (marksAt s h start c w) s.cold (max 1 (s.power-h)) else jW (marksAt s h start c w) ((s.heat[w]?).getD 0) s.warm
def courseOf(s:Ship)(h:Nat)(start:Int)(c:Bool):List Int:=(List.range (s.heat.length+1)).map (marksAt s h start c)
def course(s:Ship)(h:Nat)(start:Int)(bl:List Int):List Int:=courseOf s h start (cooled bl h)
def tI(h:Hold)(n:Nat)(l:List Int):List (List Int):=(if h.duct=1 then [] else [l])++(if h.duct=0 then [] else [l++[(n:Int)]])
def dZ(s:Ship):Nat->List (List Int)
 |0=>[[]]
 |n+1=>match s.holds[n]? with|some h=>(dZ s n).flatMap (tI h n)|none=>dZ s n
def fR(s:Ship):List (List Int):=dZ s s.holds.length
def iL(h:Nat)(c:Nat->Int)(but:List Int)(i:Nat)(x:Line):Bool:=!decide (x.hold=h)||but.contains (i:Int)||inR (c x.watch.toNat-x.marks) (-1) 1
def sP(s:Ship)(h:Nat)(c:Nat->Int)(but:List Int):Bool:=(List.range s.log.length).all fun i=>match s.log[i]? with|some x=>iL h c but i x|none=>true
def startsOf(s:Ship)(h:Nat)(bl but:List Int):List Int :=
 match s.holds[h]? with
 |some x=>(aS x.start.lo (x.start.hi+1-x.start.lo).toNat).filter fun n=>sP s h (marksAt s h n (cooled bl h)) but
 |none=>[]
structure Truth where
 blocked:List Int
 starts:List (List Int)
def mN(s:Ship)(but bl:List Int):Option Truth :=
 let l:=(List.range s.holds.length).map fun h=>startsOf s h bl but
 if l.all (fun x=>!x.isEmpty) then some ⟨bl,l⟩ else none
def truths(s:Ship)(but:List Int):List Truth:=(fR s).filterMap (mN s but)
def restOf(l but:List Int):List Int:=l.filter fun x=>!but.contains x
def cR(s:Ship)(l:List Truth)(h:Nat)(clear:List Int):List (Nat->Int):=l.flatMap fun t=>((t.starts[h]?).getD []).map fun n=>marksAt s h n (cooled (restOf t.blocked clear) h)
def kH:List Int->Span
 |[]=>⟨0,0⟩
 |x::xs=>xs.foldl kF ⟨x,x⟩
def eF(yes all:Nat):Int:=if yes=all then 1 else if yes=0 then 2 else 0
def pM(c:Nat->Int)(most:Int):Nat->Nat->Int
 |0,_=>-1
 |k+1,w=>if c w<=most then w else pM c most k (w+1)
def rZ(s:Ship)(c:Nat->Int)(most:Int):Int:=pM c most (s.heat.length+1) 0
def keptOf(s:Ship)(h:Nat)(c:Nat->Int):Bool:=match s.holds[h]? with
 |some x=>(aS s.frm (s.heat.length+1-s.frm).toNat).all fun w=>inR (c w.toNat) x.keep.lo x.keep.hi
 |none=>true
def errAsk(s:Ship)(n:Int):Int:=if (check s).2.2=0 then (if inR n 0 ((s.holds.length:Int)-1) then 0 else 4) else (check s).2.2
def gG(n most e:Int):Int:=if e=0 then (if inR n 0 most then 0 else 7) else e
def errKnown(s:Ship)(e:Int):Int:=if e=0 then (if (truths s []).isEmpty then 8 else 0) else e
def qX(s:Ship)(n w:Int):Int:=errKnown s (gG w s.heat.length (errAsk s n))
def rN(s:Ship)(n w:Int):Span×Int:=if qX s n w=0 then (kH ((cR s (truths s []) n.toNat []).map fun c=>c w.toNat),0) else (⟨0,0⟩,qX s n w)
def mF(s:Ship)(n m:Int):Int:=errKnown s (gG m 80 (errAsk s n))
def mG(s:Ship)(n m:Int):Span×Int×Int :=
 if mF s n m=0 then
  (kH (((cR s (truths s []) n.toNat []).map fun c=>rZ s c m).filter fun w=>decide (0<=w)),
   eF (((cR s (truths s []) n.toNat []).map fun c=>rZ s c m).filter fun w=>decide (0<=w)).length (cR s (truths s []) n.toNat []).length,0)
 else (⟨0,0⟩,0,mF s n m)
def HX(l:List Truth)(h:Int):Bool:=l.all fun t=>t.blocked.contains h
def Q1(l:List Truth)(h:Int):Bool:=l.any fun t=>t.blocked.contains h
def fK(s:Ship):Int:=errKnown s (check s).2.2
def nP(s:Ship):List Int×List Int×Int :=
 if fK s=0 then ((aS 0 s.holds.length).filter (HX (truths s [])),(aS 0 s.holds.length).filter (Q1 (truths s [])),0) else ([],[],fK s)
def keepsIn(s:Ship)(l:List Truth)(h:Nat)(clear:List Int):Int:=eF ((cR s l h clear).filter (keptOf s h)).length (cR s l h clear).length
def keepsErr(s:Ship)(n:Int):Int:=errKnown s (errAsk s n)
def keepsOf(s:Ship)(n:Int):Int×Int:=if keepsErr s n=0 then (keepsIn s (truths s []) n.toNat [],0) else (0,keepsErr s n)
def qJ(s:Ship):List Int×List Int×Int :=
 if fK s=0 then ((aS 0 s.holds.length).filter (fun h=>decide (keepsIn s (truths s []) h.toNat []=2)),(aS 0 s.holds.length).filter (fun h=>decide (keepsIn s (truths s []) h.toNat []≠1)),0) else ([],[],fK s)
def YM(s:Ship)(l:List Truth)(clear:List Int):Bool:=(List.range s.holds.length).all fun h=>decide (keepsIn s l h clear=1)
def sE(s:Ship):List Int×Int :=
 if fK s=0 then (match dJ (YM s (truths s [])) s.holds.length (s.holds.length+1) 0 with|some l=>(l,0)|none=>([],9)) else ([],fK s)
def someB(s:Ship)(but:List Int):Bool:=!(truths s but).isEmpty
def H5(s:Ship):List Int:=(dJ (someB s) s.log.length s.log.length 0).getD (((dU s.log.length s.log.length)[0]?).getD [])
def BY(s:Ship):List Int×Int:=if (check s).2.2=0 then (H5 s,0) else ([],(check s).2.2)
end Go.Am.Room.Ho
namespace Go.Am.Room
def vX(sz:Nat)(σ:St)(xs:List AV):AV×St:=if xs.length=0 then (.lit [] true none,σ) else (.lit xs false (some σ.length),σ++[.tok sz xs.length true])
theorem O3{sz b:Nat}{σ:St}{xs:List AV}{f:Bool}{tk:Option Nat}(h:JU sz b [] xs):cI sz b σ (.lit [] true none) (.lit xs f tk)=some ((vX sz σ xs).1,(vX sz σ xs).2):=by
 by_cases h0:xs.length=0
 ·have:xs=[]:=List.length_eq_zero_iff.1 h0;subst this;rw[aFE];simp[vX]
 ·rw[DW h h0];simp[vX,h0]
theorem FY{sz b:Nat}{σ:St}{xs ys:List AV}{f:Bool}{tk:Option Nat}(h:JU sz b xs ys)(hy:ys.length≠0):cI sz b (vX sz σ xs).2 (vX sz σ xs).1 (.lit ys f tk)=some (.lit (xs++ys) false (some σ.length),σ++[.tok sz (xs.length+ys.length) true]):=by
 by_cases h0:xs.length=0
 ·have:xs=[]:=List.length_eq_zero_iff.1 h0;subst this;simp only[vX,List.length_nil,if_true];rw[DW h hy];simp
 ·simp only[vX,h0,if_false];rw[G9 (ex:=true) h hy (by simp)];simp
theorem j8{σ:St}{sz b:Nat}{xs ys:List AV}{ex f:Bool}{t:Nat}{tk:Option Nat}(h:JU sz b xs ys)(h0:ys.length≠0)(n:Nat)(hn:n=xs.length)(ht:σ[t]? = some (.tok sz n ex)):
  cI sz b σ (.lit xs false (some t)) (.lit ys f tk)=some (.lit (xs++ys) false (some t),σ.set t (.tok sz (n+ys.length) true)):=by
 subst hn;exact G9 h h0 ht
theorem sD{xs l:List AV}{f:Bool}{t:Option Nat}(h:aI 1 xs=true):aI 1 (xs++[.lit l f t])=true:=by
 unfold aI at *;rw[List.all_append,h];rfl
end Go.Am.Room
set_option maxRecDepth 8000
namespace Go.Am.Room.Tu
def TM:=zz @aK (@List.length_append.{0})
theorem dW(a b:Int):cZ T 136 [.int .i64 a,.int .i64 b] (eM ⟨a,b⟩):=by
 refine aX (af:=X7) rfl (by simp[X7]) dd ?_;try simp only[↓QA,QB,seval,TM,X7]
def turnOf(l:List Int)(n:Nat):Int:=if l.length=0 then 0 else (l[n%l.length]?).getD 0
def u8s(l:List Int):AV:=.lit (l.map (.int .u8)) false none
theorem yP(l:List Int):jS (u8s l):=eC (aM .u8) l
instance (l:List Int):Dat (u8s l):=⟨yP l⟩
theorem S_u8s(σ:St)(m d:Nat)(l:List Int):bT σ m d (l.map (.int .u8))=some (l.map (.int .u8)):=gQ (cJ (aM .u8) l) σ m d
def Bytes(l:List Int):Prop:=(∀ x∈l,0<=x/\x<256)/\l.length<9223372036854775808
theorem turnOf_bd{l:List Int}(h:Bytes l)(n:Nat):0<=turnOf l n/\turnOf l n<256:=by
 unfold turnOf;split
 ·omega
 ·rename_i h0;have hlt:n%l.length<l.length:=Nat.mod_lt _ (by omega);rw[List.getElem?_eq_getElem hlt,Option.getD_some];exact h.1 _ (List.getElem_mem hlt)
end Go.Am.Room.Tu
namespace Go.Am.Room.Ho
open Go
variable {P:Program}
structure TysK (P:Program):Prop where
 int:P.underlying 3=some (.int .i64)
 u8:P.underlying 5=some (.int .u8)
 span:oP P 24 [3,3]
 ints:P.underlying 30=some (.slice 3)
 u8s:P.underlying 34=some (.slice 5)
 holds:P.underlying 76=some (.slice 89)
 lines:P.underlying 77=some (.slice 246)
 ship:oP P 79 [3,3,3,30,3,76,77]
 kept:oP P 81 [5,24,34,34]
 hold:oP P 89 [24,3,24]
 line:oP P 246 [3,3,3]
theorem aCJ{n:Nat}{cs:List AV}(T:TysK P)(h:Typ P (n+3) 89 cs):∃ s:Hold,mkV P 89 cs=encHold s/\True:=by
 obtain⟨e,a,b,rfl,h1,a2,b2,rfl,h2,a3,b3,rfl,h3,rfl⟩:=DS T.hold h;obtain⟨x,rfl⟩:=GQ T.int T.span h1;obtain⟨y,rfl,_⟩:=j5 T.int h2;obtain⟨z,rfl⟩:=GQ T.int T.span h3;exact⟨⟨x,y,z⟩,e,trivial⟩
theorem aD6{n:Nat}{cs:List AV}(T:TysK P)(h:Typ P (n+2) 246 cs):∃ s:Line,mkV P 246 cs=eL s/\True:=by
 obtain⟨e,a,b,rfl,h1,c,d,rfl,h2,c2,d2,rfl,h3,rfl⟩:=DS T.line h;obtain⟨x,rfl,_⟩:=j5 T.int h1;obtain⟨y,rfl,_⟩:=j5 T.int h2;obtain⟨z,rfl,_⟩:=j5 T.int h3;exact⟨⟨x,y,z⟩,e,trivial⟩
theorem ty_ship{n:Nat}{cs:List AV}(T:TysK P)(h:Typ P (n+5) 79 cs):∃ s:Ship,mkV P 79 cs=encShip s/\Fits s:=by
 obtain⟨e,a1,b1,rfl,h1,a2,b2,rfl,h2,a3,b3,rfl,h3,a4,b4,rfl,h4,a5,b5,rfl,h5,a6,b6,rfl,h6,a7,b7,rfl,h7,rfl⟩:=DS T.ship h;obtain⟨x1,rfl,_⟩:=j5 T.int h1;obtain⟨x2,rfl,_⟩:=j5 T.int h2;obtain⟨x3,rfl,_⟩:=j5 T.int h3;obtain⟨x4,rfl,⟨l4,_⟩,_⟩:=qO (f:=fun x:Int=>AV.int .i64 x) T.ints h4 fun y hy=>aJQ T.int hy
 obtain⟨x5,rfl,_⟩:=j5 T.int h5;obtain⟨x6,rfl,⟨l6,_⟩,_⟩:=qO T.holds h6 fun y hy=>aCJ T hy
 obtain⟨x7,rfl,⟨l7,_⟩,_⟩:=qO T.lines h7 fun y hy=>aD6 T hy
 exact⟨⟨x1,x2,x3,x4,x5,x6,x7⟩,e,⟨l4,l6,l7⟩⟩
theorem ty_kept{n:Nat}{cs:List AV}(T:TysK P)(h:Typ P (n+3) 81 cs):
  ∃ (p:Nat) (g:Span) (l k:List Int),mkV P 81 cs = .agg [.int .u8 p,.int .i64 g.lo,.int .i64 g.hi,Tu.u8s l,Tu.u8s k]/\p<256/\Tu.Bytes l/\Tu.Bytes k:=by
 obtain⟨e,a1,b1,rfl,h1,a2,b2,rfl,h2,a3,b3,rfl,h3,a4,b4,rfl,h4,rfl⟩:=DS T.kept h;obtain⟨x1,rfl,w1⟩:=j5 T.u8 h1;obtain⟨g,rfl⟩:=GQ T.int T.span h2;obtain⟨x3,rfl,⟨l3,_⟩,q3⟩:=qO (f:=fun x:Int=>AV.int .u8 x) T.u8s h3 fun y hy=>aGQ T.u8 hy
 obtain⟨x4,rfl,⟨l4,_⟩,q4⟩:=qO (f:=fun x:Int=>AV.int .u8 x) T.u8s h4 fun y hy=>aGQ T.u8 hy
 have hw:=aGP w1;obtain⟨p,rfl⟩:∃ p:Nat,x1=p:=⟨x1.toNat,by omega⟩;exact⟨p,g,x3,x4,e,by omega,⟨q3,l3⟩,q4,l4⟩
end Go.Am.Room.Ho
namespace Go.Am.Room
def aO{α:Type}(f:Nat->α->Int):List α->Nat->Option (Nat×Int)
 |[],_=>none
 |x::xs,i=>if f i x=0 then aO f xs (i+1) else some (i,f i x)
theorem dP{α:Type}{f:Nat->α->Int}{l:List α}{k:Nat}(h:k<l.length):aO f (l.drop k) k=if f k l[k]=0 then aO f (l.drop (k+1)) (k+1) else some (k,f k l[k]):=by
 rw[List.drop_eq_getElem_cons h];rfl
theorem eN{α:Type}{f:Nat->α->Int}{l:List α}{k:Nat}(h:k=l.length):aO f (l.drop k) k=none:=by
 rw[h,List.drop_length];rfl
def kH:List Int->Span
 |[]=>⟨0,0⟩
 |x::xs=>xs.foldl kF ⟨x,x⟩
def eF(yes all:Nat):Int:=if yes=all then 1 else if yes=0 then 2 else 0
theorem cG{n lo hi:Int}:inR n lo hi=true↔lo<=n/\n<=hi:=by simp[inR]
theorem qP{s:Span}{lo hi:Int}(h:j9 s lo hi=0):lo<=s.lo/\s.lo<=s.hi/\s.hi<=hi:=by
 unfold j9 at h;split at h
 ·omega
 ·rename_i h1;split at h
  ·omega
  ·simp[inR] at h1;omega
theorem B6{s:Span}{lo hi:Int}(h:lo<=s.lo/\s.lo<=s.hi/\s.hi<=hi):j9 s lo hi=0:=by
 unfold j9;rw[cG.2 ⟨h.1,by omega⟩,cG.2 ⟨by omega,h.2.2⟩];simp;omega
theorem eT{α:Type}{f:Nat->α->Int}:∀ {l:List α} {i:Nat},aO f l i=none->∀ k (h:k<l.length),f (i+k) l[k]=0
 |[],_,_,k,h=>by simp at h
 |x::xs,i,h,k,hk=>by
  simp only[aO] at h;split at h
  ·rename_i h0;cases k with
   |zero=>exact h0
   |succ k =>
    have:=eT h k (by simpa using hk);simpa[Nat.add_assoc,Nat.add_comm 1 k] using this
  ·cases h
theorem m5{α:Type}{f:Nat->α->Int}:∀ {l:List α} {i:Nat},(∀ x∈l,∀ k,f k x=0)->aO f l i=none
 |[],_,_=>rfl
 |x::xs,i,h=>by
  simp only[aO];rw[if_pos (h x (by simp) i)];exact m5 fun y hy=>h y (by simp[hy])
theorem cQ{α:Type}{f:Nat->α->Int}:∀ {l:List α} {i j:Nat} {e:Int},aO f l i=some (j,e)->e≠0
 |[],_,_,_,h=>by cases h
 |x::xs,i,j,e,h=>by
  simp only[aO] at h;split at h
  ·exact cQ h
  ·rename_i hn;simp at h;rw[<-h.2];exact hn
end Go.Am.Room
set_option maxRecDepth 4000
namespace Go.Am.Room.Tu
def fW{α:Type}(p:α->Bool):List α->Nat->Int
 |[],_=>-1
 |x::xs,k=>if p x then k else fW p xs (k+1)
theorem rB{α:Type}(p:α->Bool):∀ (l:List α) (k:Nat),decide (0<=fW p l k)=l.any p
 |[],k=>by simp[fW]
 |x::xs,k=>by
  cases h:p x
  ·simp[fW,h,rB p xs (k+1)]
  ·simp[fW,h]
theorem AC(σ:St)(f:AV)(l:List Int)(p:Int->Bool)(hl:l.length<9223372036854775808)(hk:n9 σ f)(h:∀ x∈l,gB T f [.int .i64 x] σ (.bool (p x))):gB T (.func 257 [] []) [ints l,f] σ (.int .i64 (fW p l 0)):=by
 refine dM (af:=EI) rfl (by simp[EI]) ?_;have hk0:=hk.nil;try simp only[↓QA,QB,seval,EI]
 refine dQ (S:=Nat) 0 (fun k=>k<=l.length/\fW p (l.drop k) k=fW p l 0) (fun k=>l.length-k) (fun k=>[(0,ints l),(1,f),(7,.int .i64 l.length),(8,.int .i64 k)]) (fun _=>σ) ⟨Nat.zero_le _,by simp⟩ rfl ?_ fun k hk1=>?_
 ·try simp only[aB,QE,seval]
  try simp
 ·obtain⟨hkl,hi⟩:=hk1;try simp only[↓QA,QB,seval,IP]
  refine aJ (fun hd=>?_) fun hd=>?_
  ·have hlt:k<l.length:=by simpa using hd
   rw[List.drop_eq_getElem_cons hlt] at hi;simp only[fW] at hi;have hw:=dB hlt hl;try simp only[↓QA,QB,seval,hlt]
   refine bJ (h l[k] (List.getElem_mem hlt)) ?_;try simp only[↓QA,QB,seval]
   cases hp:p l[k]
   ·try simp only[↓QA,QB,seval,hw]
    refine⟨k+1,⟨by omega,by rw[<-hi,hp];rfl⟩,by omega,?_⟩;try simp only[aB,QE,seval,hw,hk0,Nat.le_refl]
   ·try simp only[↓QA,QB,seval]
    refine cY [] (by first|rfl|simp) ?_;rw[<-hi,hp];try simp only[QS,QC,seval]
  ·have hlt:k=l.length:=by simp at hd;omega
   try simp only[↓QA,QB,seval]
   refine cY [] (by first|rfl|simp) ?_;rw[<-hi,hlt,List.drop_length];try simp only[QS,QC,seval,fW]
theorem rV(σ:St)(f:AV)(l:List Int)(p:Int->Bool)(hl:l.length<9223372036854775808)(hk:n9 σ f)(h:∀ x∈l,gB T f [.int .i64 x] σ (.bool (p x))):gB T (.func 356 [] []) [ints l,f] σ (.bool (l.any p)):=by
 refine dM (af:=KQ) rfl (by simp[KQ]) ?_;try simp only[↓QA,QB,seval,KQ]
 refine bJ (AC σ f l p hl hk h) ?_;try simp only[↓QA,QB,seval]
 refine cY [] (by first|rfl|simp) ?_;rw[<-rB p l 0];try simp only[QS,QC,seval]
def jX(lo hi n:Int):Bool:=decide (n<lo)||decide (hi<n)
def lL(lo hi:Int)(ns:List Int):Bool:=ns.any (jX lo hi)
theorem aD5(lo hi n:Int):gB T (.func 405 [] [.ptr 0 0,.ptr 1 0]) [.int .i64 n] [.cells [.int .i64 lo],.cells [.int .i64 hi]] (.bool (jX lo hi n)):=by
 refine dM (af:=V8) rfl (by simp[V8]) ?_;try simp only[↓QA,QB,seval,V8]
 refine aJ (fun h=>?_) fun h=>?_
 all_goals
  try simp only[↓QA,QB,seval,h]
  refine cY [] (by first|rfl|simp) ?_;try simp only[QS,QC,seval,jX,h]
  try simp
theorem kQ(lo hi:Int)(ns:List Int)(hl:ns.length<9223372036854775808):cZ T 287 [.int .i64 lo,.int .i64 hi,ints ns] (.bool (lL lo hi ns)):=by
 refine aX (af:=VZ) rfl (by simp[VZ]) dd ?_;try simp only[↓QA,QB,seval,VZ]
 refine bJ (rV _ _ ns (jX lo hi) hl (fun τ=>?_) fun x _=>aD5 lo hi x) ?_
 ·try simp only[QS,QC,seval]
 ·try simp only[↓QA,QB,seval,lL]
theorem BI(lo hi n:Int):lL lo hi [n] = !inR n lo hi:=by
 rw[Bool.eq_iff_iff];simp[lL,jX,inR]
theorem aS2(lo hi n m:Int):lL lo hi [n,m]=(!inR n lo hi||!inR m lo hi):=by
 rw[Bool.eq_iff_iff];simp[lL,jX,inR]
def aQ{α:Type}(dH most:Int)(of:Nat->α->Int)(l:List α):Int×Int:=if inR l.length dH most=false then (0,3) else match aO of l 0 with|some (i,e)=>(i,e)|none=>(0,0)
def jI(x:Int×Int):AV:=.tuple [.int .i64 x.1,.int .i64 x.2]
def enc3(x:Int×Int×Int):AV:=.tuple [.int .i64 x.1,.int .i64 x.2.1,.int .i64 x.2.2]
end Go.Am.Room.Tu
namespace Go.Am.Room
theorem dA(m:Nat):∀ (σ a b c:St),EqS m (σ++a) (σ++b) (σ++c)=EqS m a b c
 |[],a,b,c=>rfl
 |x::σ,a,b,c=>by simp only[List.cons_append,EqS,dA m σ a b c,true_or,true_and,and_self]
theorem aQK(a:Nat)(h:a<9223372036854775808):Go.Am.bits .and .i64 (a:Int) 1=((a%2:Nat):Int):=by
 have e1:(BitVec.ofInt 64 (a:Int) &&& BitVec.ofInt 64 1).toNat=a%2:=by
  rw[BitVec.toNat_and];have h1:(BitVec.ofInt 64 (a:Int)).toNat=a:=by
   rw[BitVec.toNat_ofInt];omega
  have h2:(BitVec.ofInt 64 1).toNat=1:=by decide
  rw[h1,h2,Nat.and_one_is_mod]
 show IntKind.i64.wrap (((BitVec.ofInt 64 (a:Int) &&& BitVec.ofInt 64 1).toNat:Nat):Int)=_
 rw[e1];exact bD ⟨by omega,by omega⟩
theorem DJ(a:Nat)(h:a<9223372036854775808):dD .and (.int .i64 (a:Int)) (.int .i64 1)=some (.int .i64 ((a%2:Nat):Int)):=by
 simp[dD,fP,aQK a h]
theorem IY(a i:Nat)(h:i<=60):dD .shr (.int .i64 (a:Int)) (.int .i64 (i:Int))=some (.int .i64 ((a/2^i:Nat):Int)):=by
 have hm:Nat.min i 64=i:=Nat.min_eq_left (by omega);have h0:¬(i:Int)<0:=by omega
 simp only[dD,h0,if_false,IntKind.bits,Int.toNat_natCast,hm,Option.some.injEq,AV.int.injEq,true_and];rw[Int.fdiv_eq_ediv_of_nonneg _ (Int.pow_nonneg (by omega))];norm_cast
theorem kO(m:Nat)(σ b c:St):EqS m σ (σ++b) (σ++c)=EqS m [] b c:=by have:=dA m σ [] b c;rwa [List.append_nil] at this
def mH(T:FuncId->Option AFunc)(f:AV)(args:List AV)(σ:St)(v:AV)(σ':St):Prop:=Run T (.callv f args σ) fun o=>o.v=v/\o.σ=σ'
theorem bR{f:AV}{args:List AV}{v:AV}{σ σ':St}{K:AV->St->Prop}(h:mH T f args σ v σ')(k:K v σ'):cK (K:=⟨K⟩) T f args σ:=.mono h fun o ho=>by rw[ho.1,ho.2];exact k
theorem oT{f:AV}{args:List AV}{v:AV}{σ σ':St}{K:AV->St->Prop}(h:mH T f args σ v σ')(k:K v σ'):cD (K:=⟨K⟩) T f args σ:=⟨v,σ',h,k⟩
theorem B4(z v:AV):P0 true z (some (some v))=some (.tuple [v,.bool true]):=rfl
theorem B7(z:AV):P0 true z (some none)=some (.tuple [z,.bool false]):=rfl
theorem H7(k:Nat)(x:ABlk)(hx:aU k x):∀ (A a b c:St) (i:Nat),EqS k (A++a) (A.set i x++b) (A.set i x++c)=EqS k a b c
 |[],a,b,c,i=>by simp
 |y::A,a,b,c,0=>by
  simp only[List.set_cons_zero,List.cons_append,EqS,dA,hx,or_true,true_and,and_self]
 |y::A,a,b,c,i+1=>by
  have:=H7 k x hx A a b c i;simp only[List.set_cons_succ,List.cons_append,EqS,this,true_or,true_and,and_self]
theorem jD(i:Nat):cA 1 (.yield i)=true:=by simp[cA,AV.cells,AV.cell]
theorem jA(i:Nat):(AV.yield i).cells=[.yield i]:=by simp[AV.cells]
theorem D8{f:AOpd}{g:FuncId}{first cap:List AV}{ps:List Nat}{a b:ACode}{e:Env}{σ:St}{K:KJ}{R:Out->Prop}(hf:f.ev e = .func g first cap)(h:Run T (.call g (first++[.yield σ.length]++cap) (σ++[.loop .ready none e ps a b])) R)(h1:∀ o,R o->∃ st pend env' ps' a' b',o.σ[σ.length]? = some (.loop st pend env' ps' a' b')/\st≠.busy/\K pend e (o.σ.set σ.length .dead)):rK (K:=⟨K⟩) T (.rangeFunc f ps a b) e σ:=.rangeFunc hf h h1
theorem JP{σ:St}{l:List Int}{a:Int}{ex:Bool}{t:Nat}(hn:l.length<100)(ht:σ[t]? = some (.tok 1 l.length ex)):cI 1 8 σ (.lit (l.map (.int .i64)) false (some t)) (.lit [.int .i64 a] true none)=some (.lit ((l++[a]).map (.int .i64)) false (some t),σ.set t (.tok 1 (l.length+1) true)):=by
 rw[G9 (ex:=ex) ⟨w7 1 _ l (fun x=>YO _ _),by simp[aI,AV.cells,AV.cell],by simp[room];omega,by simp[room];omega⟩ (by simp) (by simpa using ht)];simp
theorem tQ{vs:List AV}(h:mQ vs)(m:Nat):okVs m vs:=okVs_up _ h.1
theorem PV{v:AV}(h:jS v)(m:Nat):okV m v:=(tQ (aD h cM) m).1
theorem mT{σ:St}{i:Nat}{cs:List AV}(h:aE σ i=some cs):i<σ.length:=by
 unfold aE at h;by_cases hi:i<σ.length
 ·exact hi
 ·rw[List.getElem?_eq_none (by omega)] at h;cases h
theorem vE{σ:St}{i:Nat}(h:i<σ.length)(cs:List AV):aE (σ.set i (.cells cs)) i=some cs:=by
 simp[aE,h]
theorem ST{σ:St}{i:Nat}{cs:List AV}(h:aE σ i=some cs)(τ:St):aE (σ++τ) i=some cs:=by
 have hl:=mT h;simp only[aE] at h ⊢;rw[List.getElem?_append_left hl];exact h
end Go.Am.Room
namespace Go.Am.Room
structure MemAt {M:Type} (S:M->St) (obj:List AV) (es:M->List (AV×AV)) (p m N:Nat):Prop where
 len:∀ M,(S M).length=N
 at0:∀ M,aE (S M) p=some obj
 map0:∀ M,(S M)[m]? = some (.map (es M))
 mset:∀ M M',(S M).set m (.map (es M'))=S M'
 ok:∀ M k,aU k (.map (es M))
 pl:p<N
 ml:m<N
namespace MemAt
variable {M:Type} {S:M->St} {obj:List AV} {es:M->List (AV×AV)} {p m N:Nat}
theorem base(h:MemAt S obj es p m N)(A:M)(τ:St)(k:Nat):aE (S A++τ) (N+k)=aE τ k:=by rw[<-h.len A];exact mA _ _ _
theorem base0(h:MemAt S obj es p m N)(A:M)(τ:St):aE (S A++τ) N=aE τ 0:=h.base A τ 0
theorem bset(h:MemAt S obj es p m N)(A:M)(τ:St)(k:Nat)(x:ABlk):(S A++τ).set (N+k) x=S A++τ.set k x:=by rw[<-h.len A];exact lF _ _ _ _
theorem bset0(h:MemAt S obj es p m N)(A:M)(τ:St)(x:ABlk):(S A++τ).set N x=S A++τ.set 0 x:=h.bset A τ 0 x
theorem at1(h:MemAt S obj es p m N)(A:M)(τ:St):aE (S A++τ) p=some (obj):=by
 have:=h.at0 A;have hl:=h.pl;rw[<-h.len A] at hl;simp only[aE] at this ⊢;rw[List.getElem?_append_left hl];exact this
theorem map1(h:MemAt S obj es p m N)(A:M)(τ:St):(S A++τ)[m]? = some (.map (es A)):=by
 have hl:=h.ml;rw[<-h.len A] at hl;rw[List.getElem?_append_left hl];exact h.map0 A
theorem mset1(h:MemAt S obj es p m N)(A B:M)(τ:St):(S A++τ).set m (.map (es B))=S B++τ:=by
 have hl:=h.ml;rw[<-h.len A] at hl;rw[List.set_append_left _ _ hl,h.mset]
theorem keep(h:MemAt S obj es p m N)(A B:M)(i:Nat)(hi:i≠m):(S B)[i]? = (S A)[i]?:=by
 rw[<-h.mset A B,List.getElem?_set_ne (fun e=>hi e.symm)]
theorem kept(h:MemAt S obj es p m N){A B:M}{σ τ:St}(hσ:σ=S B++τ):∀ i,i<(S A).length->cE (S A) σ (S A).length i:=by
 intro i hi;rw[hσ];have hl:i<(S B).length:=by rw[h.len] at hi ⊢;exact hi
 by_cases him:i=m
 ·subst him;refine .inr (.inl ⟨.map (es B),?_,h.ok B _⟩);rw[List.getElem?_append_left hl,h.map0]
 ·refine .inl ?_;rw[List.getElem?_append_left hl,h.keep A B i him]
theorem app(h:MemAt S obj es p m N)(τ:St):MemAt (fun A=>S A++τ) obj es p m (N+τ.length) :=
 ⟨fun A=>by rw[List.length_append,h.len],fun A=>h.at1 A τ,fun A=>h.map1 A τ,fun A B=>h.mset1 A B τ,h.ok,by have:=h.pl;omega,by have:=h.ml;omega⟩
theorem eqS(h:MemAt S obj es p m N)(k:Nat)(A B:M)(x y z:St):EqS k (S A++x) (S B++y) (S B++z)=EqS k x y z:=by
 rw[<-h.mset A B];exact H7 k _ (h.ok B k) _ _ _ _ _
end MemAt
theorem nO{M:Type}{S:M->St}{obj:List AV}{es:M->List (AV×AV)}{p m N:Nat}(hR:MemAt S obj es p m N){f:FuncId}{first cap args:List AV}{af:AFunc}{v:AV}{A B:M}(hf:T f=some af)(hn:(first++args++cap).length<=af.ntmps)(h:wp T af.body (eP 0 (first++args++cap)) (S A) (fun j e σ1=>(j=none\/j=some .ret)/\∃ v0 τ,eQ af.results e σ1=some v0/\σ1=S B++τ/\bN σ1 N 20 v0=some v)):mH T (.func f first cap) args (S A) v (S B):=by
 refine .callf (.call hf hn (eG h fun o ho=>ho) fun o ho=>?_);obtain⟨hj,v0,τ,hres,hσ,h4⟩:=ho;refine⟨hj,v0,hres,?_⟩;unfold bN at h4;cases hs:snap o.σ N 20 v0 with
 |none=>rw[hs] at h4;cases h4
 |some v1 =>
  rw[hs] at h4;simp at h4;refine .inr ⟨20,v1,v,by rw[hR.len];exact hs,.inr h4.symm,hR.kept hσ,?_,rfl,?_⟩
  ·rw[hσ,List.length_append,hR.len,hR.len];omega
  ·rw[hσ,hR.len,<-hR.len B,List.take_left]
def aV{A X:Type}(f:A->X->X×Bool):List A->X->X×Bool
 |[],x=>(x,true)
 |a::az,x=>if (f a x).2=true then aV f az (f a x).1 else ((f a x).1,false)
theorem nM{A X:Type}(f:A->X->X×Bool):∀ (az bs:List A) (x:X),aV f (az++bs) x=if (aV f az x).2=true then aV f bs (aV f az x).1 else ((aV f az x).1,false)
 |[],bs,x=>by simp[aV]
 |a::az,bs,x=>by
  simp only[List.cons_append,aV];split
  ·exact nM f az bs _
  ·simp
structure Fam {X:Type} (Z ZD:X->St) (obj:List AV) (p q N:Nat):Prop where
 len:∀ x,(Z x).length=N
 lenD:∀ x,(ZD x).length=N
 at0:∀ x,aE (Z x) p=some obj
 atq0:∀ x,aE (Z x) q=some [.ptr p 0]
 keep:∀ x y k i,N<=k->i<N->cE (Z x) (Z y) k i
 keepD:∀ x y k i,N<=k->i<N->cE (Z x) (ZD y) k i
 pl:p<N
 ql:q<N
namespace Fam
variable {X:Type} {Z ZD:X->St} {obj:List AV} {p q N:Nat}
theorem base(h:Fam Z ZD obj p q N)(x:X)(τ:St)(k:Nat):aE (Z x++τ) (N+k)=aE τ k:=by rw[<-h.len x];exact mA _ _ _
theorem base0(h:Fam Z ZD obj p q N)(x:X)(τ:St):aE (Z x++τ) N=aE τ 0:=h.base x τ 0
theorem bset(h:Fam Z ZD obj p q N)(x:X)(τ:St)(k:Nat)(y:ABlk):(Z x++τ).set (N+k) y=Z x++τ.set k y:=by rw[<-h.len x];exact lF _ _ _ _
theorem bset0(h:Fam Z ZD obj p q N)(x:X)(τ:St)(y:ABlk):(Z x++τ).set N y=Z x++τ.set 0 y:=h.bset x τ 0 y
theorem at1(h:Fam Z ZD obj p q N)(x:X)(τ:St):aE (Z x++τ) p=some obj:=by
 have:=h.at0 x;have hl:=h.pl;rw[<-h.len x] at hl;simp only[aE] at this ⊢;rw[List.getElem?_append_left hl];exact this
theorem atq1(h:Fam Z ZD obj p q N)(x:X)(τ:St):aE (Z x++τ) q=some [.ptr p 0]:=by
 have:=h.atq0 x;have hl:=h.ql;rw[<-h.len x] at hl;simp only[aE] at this ⊢;rw[List.getElem?_append_left hl];exact this
theorem leaveW(h:Fam Z ZD obj p q N){x:X}{W υ τ' σ':St}(hW:W.length=N)(hk:∀ k i,N<=k->i<N->cE (Z x) W k i){v:Bool}{Q:Out->Prop}(hσ:σ'=W++(υ++τ'))(hQ:Q ⟨none,[],W++υ,.bool v⟩):DU (Z x++υ) σ' (.bool v) Q:=by
 refine .inr ⟨20,.bool v,.bool v,by simp[snap],.inl rfl,fun i hi=>?_,?_,?_⟩
 ·rw[hσ];rw[List.length_append,h.len] at hi ⊢;by_cases hn:i<N
  ·have:=hk (N+υ.length) i (by omega) hn;have e1:(Z x++υ)[i]? = (Z x)[i]?:=List.getElem?_append_left (by rw[h.len];exact hn);have e2:(W++(υ++τ'))[i]? = W[i]?:=List.getElem?_append_left (by rw[hW];exact hn);simp only[cE,e1,e2] at this ⊢;exact this
  ·refine .inl ?_;have e1:(W++(υ++τ'))[i]? = (υ++τ')[i-N]?:=by rw[List.getElem?_append_right (by omega),hW]
   have e2:(Z x++υ)[i]? = υ[i-N]?:=by rw[List.getElem?_append_right (by rw[h.len];omega),h.len]
   rw[e1,e2,List.getElem?_append_left (by omega)]
 ·rw[hσ];simp only[List.length_append,h.len,hW];omega
 ·have e1:σ'.take (Z x++υ).length=W++υ:=by
   have q1:(Z x++υ).length=(W++υ).length:=by simp only[List.length_append,h.len,hW]
   rw[hσ,q1,<-List.append_assoc];exact List.take_left
  rw[e1];exact hQ
def out(Z ZD:X->St)(r:X×Bool):St:=if r.2=true then Z r.1 else ZD r.1
theorem leave(h:Fam Z ZD obj p q N){x:X}{r:X×Bool}{υ τ' σ':St}{Q:Out->Prop}(hσ:σ'=out Z ZD r++(υ++τ'))(hQ:Q ⟨none,[],out Z ZD r++υ,.bool r.2⟩):DU (Z x++υ) σ' (.bool r.2) Q:=by
 unfold out at hσ hQ;split at hσ
 ·rename_i hr;rw[if_pos hr] at hQ;exact h.leaveW (h.len _) (fun k i hk hi=>h.keep _ _ k i hk hi) hσ hQ
 ·rename_i hr;rw[if_neg hr] at hQ;exact h.leaveW (h.lenD _) (fun k i hk hi=>h.keepD _ _ k i hk hi) hσ hQ
end Fam
theorem AD{A X:Type}(f:A->X->X×Bool)(a:A)(x:X):aV f [a] x=f a x:=by
 simp only[aV];obtain⟨y,bb⟩:=f a x;cases bb<;>simp
structure Fam1 {X:Type} {M:Type} (Z ZD:X->M->St) (obj:List AV) (es:M->List (AV×AV)) (p m q N:Nat):Prop where
 ship:∀ x,MemAt (Z x) obj es p m N
 lenD:∀ x A,(ZD x A).length=N
 atq0:∀ x A,aE (Z x A) q=some [.ptr p 0]
 keep:∀ x A y B k i,N<=k->i<N->cE (Z x A) (Z y B) k i
 keepD:∀ x A y B k i,N<=k->i<N->cE (Z x A) (ZD y B) k i
 ql:q<N
 pl:p<N
namespace Fam1
variable {X:Type} {M:Type} {Z ZD:X->M->St} {obj:List AV} {es:M->List (AV×AV)} {p m q N:Nat}
theorem atq1(h:Fam1 Z ZD obj es p m q N)(x:X)(A:M)(τ:St):aE (Z x A++τ) q=some [.ptr p 0]:=by
 have:=h.atq0 x A;have hl:=h.ql;rw[<-(h.ship x).len A] at hl;simp only[aE] at this ⊢;rw[List.getElem?_append_left hl];exact this
def out(Z ZD:X->M->St)(r:X×Bool)(A:M):St:=if r.2=true then Z r.1 A else ZD r.1 A
end Fam1
end Go.Am.Room
namespace Go.Am.Room
def nE(f:Nat->Int)(i:Nat)(v:Int):Nat->Int:=fun j=>if j=i then v else f j
def nV(n:Nat)(f:Nat->Int):List AV:=(List.range n).map fun i=>.int .i64 (f i)
theorem nY(n:Nat)(f:Nat->Int):(nV n f).length=n:=by simp[nV]
theorem CR(n:Nat)(f:Nat->Int){i:Nat}(h:i<n):(nV n f)[i]? = some (.int .i64 (f i)):=by simp[nV,h]
theorem N0{n:Nat}{f g:Nat->Int}(h:∀ i,i<n->f i=g i):nV n f=nV n g:=by
 refine List.map_congr_left fun i hi=>?_
 rw[h i (by simpa using hi)]
theorem U7(n:Nat)(f:Nat->Int)(v:Int){i:Nat}(h:i<n):(nV n f).take i++[AV.int .i64 v]++(nV n f).drop (i+1)=nV n (nE f i v):=by
 have h1:(nV n f).take i++[AV.int .i64 v]++(nV n f).drop (i+1)=(nV n f).set i (.int .i64 v):=by
  rw[List.set_eq_take_append_cons_drop,if_pos (by rw[nY];exact h)];simp
 rw[h1];refine List.ext_getElem? fun j=>?_
 by_cases hj:j<n
 ·rw[CR n _ hj,List.getElem?_set];by_cases e:i=j
  ·subst e;simp[nY,hj,nE]
  ·rw[if_neg e,CR n _ hj];simp[nE,show ¬j=i from fun q=>e q.symm]
 ·rw[List.getElem?_eq_none (by rw[List.length_set,nY];omega),List.getElem?_eq_none (by rw[nY];omega)]
theorem oS(n:Nat)(f:Nat->Int):mQ (nV n f):=cJ (enc:=fun i:Nat=>AV.int .i64 (f i)) (fun i=>aM _ _) (List.range n)
instance (n:Nat) (f:Nat->Int):Dats (nV n f):=⟨oS n f⟩
theorem aEX(n:Nat)(f:Nat->Int)(m:Nat):okVs m (nV n f):=tQ (oS n f) m
theorem aJ5(n:Nat)(f:Nat->Int)(σ:St)(m d:Nat):bT σ m d (nV n f)=some (nV n f):=gQ (oS n f) σ m d
theorem RB(n:Nat)(f:Nat->Int):aZ (nV n f)=true:=aH1 _ _ fun i=>by simp[AV.cell]
theorem SI(n:Nat)(f:Nat->Int):(nV n f).take n=nV n f:=List.take_of_length_le (by rw[nY];exact Nat.le_refl n)
theorem RI(n:Nat)(f:Nat->Int):(nV n f).drop n=[]:=List.drop_eq_nil_of_le (by rw[nY];exact Nat.le_refl n)
section
variable {K:Type} [DecidableEq K]
def bA(M:List K)(w:K):List K:=if w∈M then M else M++[w]
structure KeyIs (sh:EqTy) (enc val:K->AV):Prop where
 eq:∀ w x,iX sh (enc w) (enc x)=some (decide (w=x))
 dk:∀ w,jS (enc w)
 dv:∀ w,jS (val w)
variable {sh:EqTy} {enc val:K->AV}
def sZ(enc val:K->AV)(M:List K):List (AV×AV):=M.map fun w=>(enc w,val w)
theorem PM(h:KeyIs sh enc val)(w:K):∀ M:List K,findKey sh (enc w) (sZ enc val M)=some (if w∈M then some (val w) else none)
 |[]=>by simp[sZ,findKey]
 |x::M=>by
  have ih:=PM h w M;simp only[sZ,List.map_cons,findKey,h.eq] at ih ⊢;by_cases e:w=x
  ·subst e;simp
  ·simp only[e,decide_false,ih,List.mem_cons,false_or]
theorem VJ(h:KeyIs sh enc val)(w:K):∀ M:List K,w∉M->lQ sh (enc w) (val w) (sZ enc val M)=some (sZ enc val (M++[w]))
 |[],_=>by simp[sZ,lQ]
 |x::M,hn=>by
  have ih:=VJ h w M (fun q=>hn (List.mem_cons_of_mem _ q));have hx:w≠x:=fun e=>hn (by rw[e];simp)
  simp only[sZ,List.map_cons,lQ,h.eq,List.cons_append] at ih ⊢;simp only[hx,decide_false,ih,Option.map_some]
theorem aIC(h:KeyIs sh enc val)(M:List K)(k:Nat):aU k (.map (sZ enc val M)):=by
 simp only[aU,sZ];intro q hq;obtain⟨w,hw,rfl⟩:=List.mem_map.1 hq;exact⟨PV (h.dk w) k,PV (h.dv w) k⟩
variable {S:List K->St} {obj:List AV} {p m N:Nat}
theorem aB0(hk:KeyIs sh enc val)(h:MemAt S obj (sZ enc val) p m N)(M:List K)(τ:St)(w:K):rP sh (S M++τ) (.map m) (enc w)=some (if w∈M then some (val w) else none):=by
 simp only[rP,h.map1,PM hk,hk.eq];simp
theorem aIU(hk:KeyIs sh enc val)(h:MemAt S obj (sZ enc val) p m N)(M:List K)(τ:St)(w:K)(hw:w∉M):vH sh (S M++τ) (.map m) (enc w) (val w)=some (S (M++[w])++τ):=by
 simp only[vH,hk.eq,h.map1,VJ hk w M hw,Option.map_some,h.mset1];simp
end
end Go.Am.Room
namespace Go.Am.Room.Tu
structure Lot where
 hold:Int
 frm:Int
 green:Span
structure Seen where
 lot:Int
 hour:Int
 turned:Bool
structure Car where
 heat:List Int
 gas:Int
 holds:List Span
 lots:List Lot
 seen:List Seen
def iM(x:Lot):AV:=.agg [.int .i64 x.hold,.int .i64 x.frm,.int .i64 x.green.lo,.int .i64 x.green.hi]
theorem gH(x:Lot):iM x = .agg [.int .i64 x.hold,.int .i64 x.frm,.int .i64 x.green.lo,.int .i64 x.green.hi]:=by simp only[iM]
theorem uP(x:Lot):jS (iM x):=iG (aD (aM _ _) (aD (aM _ _) (aD (aM _ _) (aD (aM _ _) cM))))
instance (x:Lot):Dat (iM x):=⟨uP x⟩
def gL(x:Seen):AV:=.agg [.int .i64 x.lot,.int .i64 x.hour,.bool x.turned]
theorem fJ(x:Seen):gL x = .agg [.int .i64 x.lot,.int .i64 x.hour,.bool x.turned]:=by simp only[gL]
theorem qR(x:Seen):jS (gL x):=iG (aD (aM _ _) (aD (aM _ _) (aD (FH _) cM)))
instance (x:Seen):Dat (gL x):=⟨qR x⟩
instance (l:List Lot):Dats (l.map iM):=⟨cJ uP l⟩
instance (l:List Seen):Dats (l.map gL):=⟨cJ qR l⟩
theorem gJ(σ:St)(m d:Nat)(l:List Lot):bT σ m d (l.map iM)=some (l.map iM):=gQ (cJ uP l) σ m d
theorem fB(σ:St)(m d:Nat)(l:List Seen):bT σ m d (l.map gL)=some (l.map gL):=gQ (cJ qR l) σ m d
theorem fA(σ:St)(m d:Nat)(l:List Span):bT σ m d (l.map eM)=some (l.map eM):=gQ (cJ vG l) σ m d
def aY(c:Car):List AV:=[.lit (c.heat.map (.int .i64)) false none,.int .i64 c.gas,.lit (c.holds.map eM) false none,.lit (c.lots.map iM) false none,.lit (c.seen.map gL) false none]
theorem mX(c:Car):aY c=[.lit (c.heat.map (.int .i64)) false none,.int .i64 c.gas,.lit (c.holds.map eM) false none,.lit (c.lots.map iM) false none,.lit (c.seen.map gL) false none]:=by simp only[aY]
def i9(c:Car):AV:=.agg (aY c)
theorem nS(c:Car):i9 c = .agg (aY c):=by simp only[i9]
theorem aBK(c:Car):jS (i9 c):=iG (aD (gE _) (aD (aM _ _) (aD (eC vG _) (aD (eC uP _) (aD (eC qR _) cM)))))
instance (c:Car):Dat (i9 c):=⟨aBK c⟩
structure Fits (c:Car):Prop where
 heat:c.heat.length<9223372036854775808
 holds:c.holds.length<9223372036854775808
 lots:c.lots.length<9223372036854775808
 seen:c.seen.length<9223372036854775808
def wide(s:Span)(most:Int):Int:=if j9 s 0 most=0 then (if 3<s.hi-s.lo then 2 else 0) else j9 s 0 most
def lotFrm(c:Car)(i:Nat):Int:=match c.lots[i]? with|some l=>l.frm|none=>0
def tR(_:Nat)(n:Int):Int:=if inR n 0 3 then 0 else 7
def yC(_:Nat)(s:Span):Int:=wide s 6
def tD(c:Car)(_:Nat)(l:Lot):Int:=if inR l.hold 0 ((c.holds.length:Int)-1)=false then 4 else if inR l.frm 0 c.heat.length=false then 7 else wide l.green 40
def s9(c:Car)(_:Nat)(s:Seen):Int:=if inR s.lot 0 ((c.lots.length:Int)-1)=false then 4 else if inR s.hour (lotFrm c s.lot.toNat) c.heat.length then 0 else 7
def fI(c:Car):Int×Int×Int:=if 4<c.seen.length then (5,0,3) else match aO (s9 c) c.seen 0 with|some (i,e)=>(5,i,e)|none=>(0,0,0)
def fH(c:Car):Int×Int×Int:=if 4<c.lots.length then (4,0,3) else match aO (tD c) c.lots 0 with|some (i,e)=>(4,i,e)|none=>fI c
def gC(c:Car):Int×Int×Int:=if inR c.holds.length 1 3=false then (3,0,3) else match aO yC c.holds 0 with|some (i,e)=>(3,i,e)|none=>fH c
def fX(c:Car):Int×Int×Int:=if inR c.gas 0 3=false then (2,0,7) else gC c
def check(c:Car):Int×Int×Int:=if 8<c.heat.length then (1,0,3) else match aO tR c.heat 0 with|some (i,e)=>(1,i,e)|none=>fX c
def heatAt(c:Car)(h:Nat):Int:=(c.heat[h]?).getD 0
def inHold(c:Car)(hd:Int)(i:Nat):Bool:=match c.lots[i]? with|some l=>decide (l.hold=hd)|none=>false
def nH(c:Car)(i:Nat):Int:=match c.lots[i]? with|some l=>l.hold|none=>0
def isTurned(c:Car)(ls:Nat->Bool)(h:Nat)(left:Nat->Int)(i:Nat):Bool:=ls i&&decide (i<c.lots.length)&&decide (lotFrm c i<=h)&&decide (left i<=0)
def gasAt(c:Car)(ls:Nat->Bool)(h:Nat)(left:Nat->Int):Int:=if (List.range c.lots.length).any (isTurned c ls h left) then c.gas else 0
def leftTo(c:Car)(ls:Nat->Bool)(w:Int)(g:Nat->Int):Nat->Nat->Int
 |0=>g
 |n+1=>fun i=>if lotFrm c i<=n/\0<leftTo c ls w g n i then leftTo c ls w g n i-(heatAt c n+w+gasAt c ls n (leftTo c ls w g n)) else leftTo c ls w g n i
def turnAt(c:Car)(ls:Nat->Bool)(w:Int)(g:Nat->Int)(h i:Nat):Bool:=isTurned c ls h (leftTo c ls w g h) i
def never(c:Car):Int:=c.heat.length+1
def eH(c:Car)(ls:Nat->Bool)(w:Int)(g:Nat->Int)(i:Nat):Nat->Int
 |0=>never c
 |n+1=>if turnAt c ls w g n i=true then min (eH c ls w g i n) n else eH c ls w g i n
def aAS(c:Car)(ls:Nat->Bool)(w:Int)(g:Nat->Int)(i:Nat):Int:=eH c ls w g i (c.heat.length+1)
def gF(g:List Int)(i:Nat):Int:=(g[i]?).getD 0
structure Way where
 warm:Int
 greens:List Int
def kA(w:Way):AV:=.agg [.int .i64 w.warm,ints w.greens]
theorem IU(w:Way):jS (kA w):=iG (aD (aM _ _) (aD (gE _) cM))
instance (w:Way):Dat (kA w):=⟨IU w⟩
instance (l:List Way):Dats (l.map kA):=⟨cJ IU l⟩
def greenIn(c:Car)(hd:Int)(i:Nat):List Int:=match c.lots[i]? with|some l=>aS l.green.lo (if l.hold=hd then (l.green.hi+1-l.green.lo).toNat else 1)|none=>[]
def greensUp(c:Car)(hd:Int):Nat->List (List Int)
 |0=>[[]]
 |n+1=>(greensUp c hd n).flatMap fun p=>(greenIn c hd n).map fun x=>p++[x]
def kE(c:Car)(hd:Int):List (List Int):=greensUp c hd c.lots.length
def uM(c:Car)(hd:Nat):List Int:=match c.holds[hd]? with|some s=>aS s.lo (s.hi+1-s.lo).toNat|none=>[]
def allOf(c:Car)(hd:Nat):List Way:=(uM c hd).flatMap fun w=>(kE c hd).map fun g=>⟨w,g⟩
def DY(c:Car)(hd:Int)(t:Nat->Int)(x:Seen):Bool:=!inHold c hd x.lot.toNat||(decide (t x.lot.toNat<=x.hour)==x.turned)
def IK(c:Car)(hd:Int)(t:Nat->Int):Bool:=c.seen.all (DY c hd t)
def wayTime(c:Car)(hd:Int)(w:Way):Nat->Int:=aAS c (inHold c hd) w.warm (gF w.greens)
def waysOf(c:Car)(hd:Nat):List Way:=(allOf c hd).filter fun w=>IK c hd (wayTime c hd w)
def someB(c:Car):Bool:=(List.range c.holds.length).all fun h=>!(waysOf c h).isEmpty
def errAsk(c:Car)(n:Int):Int:=if (check c).2.2=0 then (if inR n 0 ((c.lots.length:Int)-1) then 0 else 4) else (check c).2.2
def lotErr(c:Car)(n:Int):Int:=if errAsk c n=0 then (if someB c then 0 else 8) else errAsk c n
def hoursAll(c:Car)(i:Nat):List Int:=(waysOf c (nH c i).toNat).map fun w=>wayTime c (nH c i) w i
def hoursOf(c:Car)(i:Nat):List Int:=(hoursAll c i).filter fun h=>decide (h≠never c)
def turnsOf(c:Car)(n:Int):Span×Int×Int :=
 if lotErr c n=0 then (kH (hoursOf c n.toNat),eF (hoursOf c n.toNat).length (hoursAll c n.toNat).length,0) else (⟨0,0⟩,0,lotErr c n)
def exC(l:List Seen):Car:=⟨[0,0,0,1,0,0],2,[⟨1,2⟩,⟨1,1⟩],[⟨0,0,⟨4,5⟩⟩,⟨0,0,⟨10,10⟩⟩,⟨1,2,⟨6,6⟩⟩],l⟩
theorem x1:turnsOf (exC []) 0=(⟨2,4⟩,1,0):=by decide +kernel
theorem x2:turnsOf (exC []) 1=(⟨4,6⟩,1,0):=by decide +kernel
theorem x3:turnsOf (exC []) 2=(⟨0,0⟩,2,0):=by decide +kernel
theorem x4:turnsOf (exC [⟨0,3,false⟩]) 1=(⟨6,6⟩,1,0):=by decide +kernel
theorem x5:turnsOf (exC [⟨0,4,false⟩]) 0=(⟨0,0⟩,0,8):=by decide +kernel
structure Vd (c:Car):Prop where
 nht:c.heat.length<=8
 ht:∀ n∈c.heat,0<=n/\n<=3
 gas:0<=c.gas/\c.gas<=3
 nhd:1<=c.holds.length/\c.holds.length<=3
 hd:∀ s∈c.holds,(0<=s.lo/\s.lo<=s.hi/\s.hi<=6)/\s.hi-s.lo<=3
 nlt:c.lots.length<=4
 lt:∀ l∈c.lots,(0<=l.hold/\l.hold<c.holds.length)/\(0<=l.frm/\l.frm<=c.heat.length)/\(0<=l.green.lo/\l.green.lo<=l.green.hi/\l.green.hi<=40)/\l.green.hi-l.green.lo<=3
 nsn:c.seen.length<=4
 sn:∀ s∈c.seen,(0<=s.lot/\s.lot<c.lots.length)/\lotFrm c s.lot.toNat<=s.hour/\s.hour<=c.heat.length
theorem FD{s:Span}{m:Int}(h:wide s m=0):(0<=s.lo/\s.lo<=s.hi/\s.hi<=m)/\s.hi-s.lo<=3:=by
 unfold wide at h;split at h
 ·rename_i h1;split at h
  ·omega
  ·exact⟨qP h1,by omega⟩
 ·rename_i h1;exact absurd h h1
theorem Q2{s:Span}{m:Int}(h:(0<=s.lo/\s.lo<=s.hi/\s.hi<=m)/\s.hi-s.lo<=3):wide s m=0:=by
 unfold wide;rw[if_pos (B6 h.1),if_neg (by omega)]
theorem vd_of_check{c:Car}(h:(check c).2.2=0):Vd c:=by
 unfold check at h;split at h
 ·simp at h
 rename_i c1;split at h
 ·rename_i i e he;exact absurd h (cQ he)
 rename_i f1;unfold fX at h;split at h
 ·simp at h
 rename_i c2;unfold gC at h;split at h
 ·simp at h
 rename_i c3;split at h
 ·rename_i i e he;exact absurd h (cQ he)
 rename_i f3;unfold fH at h;split at h
 ·simp at h
 rename_i c4;split at h
 ·rename_i i e he;exact absurd h (cQ he)
 rename_i f4;unfold fI at h;split at h
 ·simp at h
 rename_i c5;split at h
 ·rename_i i e he;exact absurd h (cQ he)
 rename_i f5;rw[Bool.not_eq_false,cG] at c2 c3;refine⟨by omega,?_,c2,by omega,?_,by omega,?_,by omega,?_⟩
 ·intro x hx;obtain⟨k,hk,rfl⟩:=List.getElem_of_mem hx;have:=eT f1 k hk;unfold tR at this;split at this
  ·rename_i hi;exact cG.1 hi
  ·omega
 ·intro x hx;obtain⟨k,hk,rfl⟩:=List.getElem_of_mem hx;exact FD (eT f3 k hk)
 ·intro x hx;obtain⟨k,hk,rfl⟩:=List.getElem_of_mem hx;have:=eT f4 k hk;unfold tD at this;split at this
  ·omega
  rename_i hi;split at this
  ·omega
  rename_i hj;rw[Bool.not_eq_false,cG] at hi hj;exact⟨by omega,hj,FD this⟩
 ·intro x hx;obtain⟨k,hk,rfl⟩:=List.getElem_of_mem hx;have:=eT f5 k hk;unfold s9 at this;split at this
  ·omega
  rename_i hi;split at this
  ·rename_i hj;rw[Bool.not_eq_false,cG] at hi;rw[cG] at hj;exact⟨by omega,hj⟩
  ·omega
theorem check_of_vd{c:Car}(h:Vd c):check c=(0,0,0):=by
 have h1:=h.nht;have h2:=h.nhd;have h3:=h.nlt;have h4:=h.nsn;have g1:aO tR c.heat 0=none:=m5 fun n hn k=>by simp[tR,cG.2 (h.ht n hn)]
 have g3:aO yC c.holds 0=none:=m5 fun s hs k=>Q2 (h.hd s hs)
 have g4:aO (tD c) c.lots 0=none:=m5 fun l hl k=>by
  obtain⟨a1,a2,a3⟩:=h.lt l hl;have b1:inR l.hold 0 ((c.holds.length:Int)-1)=true:=cG.2 (by omega);simp[tD,b1,cG.2 a2,Q2 a3]
 have g5:aO (s9 c) c.seen 0=none:=m5 fun s hs k=>by
  obtain⟨a1,a2⟩:=h.sn s hs;have b1:inR s.lot 0 ((c.lots.length:Int)-1)=true:=cG.2 (by omega);simp[s9,b1,cG.2 a2]
 have e5:fI c=(0,0,0):=by rw[fI,if_neg (by omega),g5]
 have e4:fH c=(0,0,0):=by rw[fH,if_neg (by omega),g4];exact e5
 have e3:gC c=(0,0,0):=by rw[gC,if_neg (by simp[cG.2 (show (1:Int)<=c.holds.length/\(c.holds.length:Int)<=3 by omega)]),g3];exact e4
 have e2:fX c=(0,0,0):=by rw[fX,if_neg (by simp[cG.2 h.gas])];exact e3
 rw[check,if_neg (by omega),g1];exact e2
theorem aA6{c:Car}(h:Vd c){i:Nat}(hi:i<c.lots.length):0<=nH c i/\nH c i<c.holds.length:=by
 have:=h.lt _ (List.getElem_mem hi);simp only[nH,List.getElem?_eq_getElem hi];exact this.1
theorem QY{c:Car}(h:Vd c)(n:Nat):0<=heatAt c n/\heatAt c n<=3:=by
 unfold heatAt;cases e:c.heat[n]? with
 |none=>simp
 |some x=>exact h.ht x (List.mem_of_getElem? e)
theorem aG8{c:Car}(h:Vd c)(ls:Nat->Bool)(n:Nat)(left:Nat->Int):0<=gasAt c ls n left/\gasAt c ls n left<=3:=by
 have:=h.gas;unfold gasAt;split<;>omega
theorem PQ{c:Car}(h:Vd c)(ls:Nat->Bool){w:Int}(hw:0<=w/\w<=6){g:Nat->Int}(hg:∀ i,0<=g i/\g i<=40)(i:Nat):∀ n,-12<=leftTo c ls w g n i/\leftTo c ls w g n i<=40
 |0=>by have:=hg i;simp only[leftTo];omega
 |n+1=>by
  have:=PQ h ls hw hg i n;have:=QY h n;have:=aG8 h ls n (leftTo c ls w g n);simp only[leftTo];split<;>omega
theorem FC{c:Car}{ls:Nat->Bool}{w:Int}{g:Nat->Int}{i n:Nat}(h:leftTo c ls w g n i<=0):∀ k,leftTo c ls w g (n+k) i=leftTo c ls w g n i
 |0=>rfl
 |k+1=>by
  have ih:=FC h k;rw[<-Nat.add_assoc];simp only[leftTo];rw[if_neg (by rw[ih];omega),ih]
theorem GH{c:Car}{ls:Nat->Bool}{w:Int}{g:Nat->Int}{i n m:Nat}(h:turnAt c ls w g n i=true)(hm:n<=m):turnAt c ls w g m i=true:=by
 obtain⟨k,rfl⟩:∃ k,m=n+k:=⟨m-n,by omega⟩;simp only[turnAt,isTurned,Bool.and_eq_true,decide_eq_true_eq] at h ⊢;rw[FC h.2 k];exact⟨⟨h.1.1,by omega⟩,h.2⟩
theorem time_le(c:Car)(ls:Nat->Bool)(w:Int)(g:Nat->Int)(i:Nat):∀ n,eH c ls w g i n<=never c
 |0=>Int.le_refl _
 |n+1=>by
  have:=time_le c ls w g i n;simp only[eH];split<;>omega
theorem time_nn(c:Car)(ls:Nat->Bool)(w:Int)(g:Nat->Int)(i:Nat):∀ n,0<=eH c ls w g i n
 |0=>by simp only[eH,never];omega
 |n+1=>by
  have:=time_nn c ls w g i n;simp only[eH];split<;>omega
theorem time_lt(c:Car)(ls:Nat->Bool)(w:Int)(g:Nat->Int)(i:Nat):∀ n,n<=c.heat.length+1->(eH c ls w g i n=never c\/eH c ls w g i n<n)/\∀ m,m<n->(eH c ls w g i n<=m↔turnAt c ls w g m i=true)
 |0,_=>⟨.inl rfl,fun m hm=>absurd hm (by omega)⟩
 |n+1,hn=>by
  obtain⟨h1,h2⟩:=time_lt c ls w g i n (by omega);have hnv:never c=c.heat.length+1:=rfl;simp only[eH];by_cases ht:turnAt c ls w g n i=true
  ·simp only[ht,if_true];refine⟨.inr (by omega),fun m hm=>?_⟩;by_cases e:m=n
   ·subst e;simp only[ht,iff_true];omega
   ·have:=h2 m (by omega);rw[<-this];omega
  ·simp only[ht,Bool.false_eq_true,if_false];have hno:eH c ls w g i n=never c:=by
    rcases h1 with h1|h1
    ·exact h1
    ·exfalso;obtain⟨k,hk⟩:∃ k:Nat,eH c ls w g i n=(k:Int):=⟨(eH c ls w g i n).toNat,by have:=time_nn c ls w g i n;omega⟩;have:=(h2 k (by omega)).1 (by omega);exact ht (GH this (by omega))
   refine⟨.inl hno,fun m hm=>?_⟩;rw[hno,hnv];constructor
   ·intro h;omega
   ·intro h;exact absurd (GH h (by omega)) ht
end Go.Am.Room.Tu
namespace Go.Am.Room.Tu
theorem MV{c:Car}{i:Nat}(hi:i<c.lots.length):lotFrm c i=c.lots[i].frm:=by simp[lotFrm,hi]
end Go.Am.Room.Tu
namespace Go.Am.Room.Tu
theorem G7{c:Car}{i:Nat}(hi:i<c.lots.length)(hd:Int):inHold c hd i=decide (c.lots[i].hold=hd):=by simp[inHold,hi]
theorem aE3{c:Car}{h:Nat}(hh:h<c.heat.length):heatAt c h=c.heat[h]:=by simp[heatAt,hh]
structure WayOk (c:Car) (w:Way):Prop where
 warm:0<=w.warm/\w.warm<=6
 len:w.greens.length=c.lots.length
 green:∀ x∈w.greens,0<=x/\x<=40
theorem aLM{l:List Int}(h:∀ x∈l,0<=x/\x<=40)(i:Nat):0<=gF l i/\gF l i<=40:=by
 unfold gF;cases e:l[i]? with
 |none=>simp
 |some x=>exact h x (List.mem_of_getElem? e)
end Go.Am.Room.Tu
namespace Go.Am.Room.Tu
theorem OI{c:Car}{n:Nat}(h:n<c.lots.length)(hd:Int):greenIn c hd n=aS c.lots[n].green.lo (if c.lots[n].hold=hd then (c.lots[n].green.hi+1-c.lots[n].green.lo).toNat else 1):=by simp[greenIn,h]
theorem CQ{c:Car}(hv:Vd c)(hd:Int)(n:Nat):(greenIn c hd n).length<=4/\∀ x∈greenIn c hd n,0<=x/\x<=40:=by
 unfold greenIn;split
 ·rename_i l hl;obtain⟨_,_,a3,a4⟩:=hv.lt l (List.mem_of_getElem? hl);rw[kS];refine⟨by split<;>omega,fun x hx=>?_⟩;rw[bP] at hx;split at hx<;>omega
 ·simp
theorem xQ{c:Car}(hv:Vd c)(hd:Int):∀ n,(greensUp c hd n).length<=4^n
 |0=>by simp[greensUp]
 |n+1=>by
  have h1:=xQ hv hd n;have h2:=xH (fun p:List Int=>(greenIn c hd n).map fun x=>p++[x]) 4 (greensUp c hd n) fun p _=>by rw[List.length_map];exact (CQ hv hd n).1
  rw[Nat.pow_succ];exact Nat.le_trans h2 (Nat.mul_le_mul_right _ h1)
theorem tO{c:Car}(hv:Vd c)(hd:Int):∀ n,∀ p∈greensUp c hd n,p.length=n/\∀ x∈p,0<=x/\x<=40
 |0=>by simp[greensUp]
 |n+1=>by
  intro p hp;simp only[greensUp,List.mem_flatMap,List.mem_map] at hp;obtain⟨q,hq,x,hx,rfl⟩:=hp;obtain⟨h1,h2⟩:=tO hv hd n q hq;refine⟨by simp[h1],fun y hy=>?_⟩;rcases List.mem_append.1 hy with hy|hy
  ·exact h2 y hy
  ·have:y=x:=by simpa using hy
   subst this;exact (CQ hv hd n).2 y hx
theorem aR0{n:Nat}(h:n<=4):4^n<=256:=by
 calc 4^n<=4^4:=Nat.pow_le_pow_right (by omega) h
  _=256:=by decide
def X8(x:Lot)(hd:Int):Int:=if x.hold=hd then x.green.hi else x.green.lo
end Go.Am.Room.Tu
namespace Go.Am.Room.Tu
def zL(c:Car)(hd:Int)(t:Nat->Int)(n:Nat):Bool:=(c.seen.take n).all (DY c hd t)
theorem R1{c:Car}{k:Nat}(hk:k<c.seen.length)(hd:Int)(t:Nat->Int):zL c hd t (k+1)=(zL c hd t k&&DY c hd t c.seen[k]):=by
 rw[zL,zL,List.take_add_one,List.all_append,List.getElem?_eq_getElem hk];simp
theorem J6(c:Car)(hd:Int)(t:Nat->Int):zL c hd t c.seen.length=IK c hd t:=by simp[zL,IK]
theorem WR{c:Car}(hv:Vd c){hd:Nat}(hhd:hd<c.holds.length){w:Way}(h:w∈allOf c hd):WayOk c w:=by
 simp only[allOf,List.mem_flatMap,List.mem_map] at h;obtain⟨x,hx,g,hg,rfl⟩:=h;obtain⟨⟨s1,s2,s3⟩,s4⟩:=hv.hd _ (List.getElem_mem hhd);obtain⟨g1,g2⟩:=tO hv hd _ g hg;refine⟨?_,g1,g2⟩;simp only[uM,List.getElem?_eq_getElem hhd] at hx;rw[bP] at hx;simp only;omega
theorem aB7{c:Car}(hv:Vd c){hd:Nat}(hhd:hd<c.holds.length):(allOf c hd).length<=1024:=by
 obtain⟨⟨s1,s2,s3⟩,s4⟩:=hv.hd _ (List.getElem_mem hhd);have hgl:(kE c hd).length<=256:=Nat.le_trans (xQ hv hd _) (aR0 hv.nlt);have h1:=xH (fun w:Int=>(kE c hd).map fun g=>(⟨w,g⟩:Way)) 256 (uM c hd) fun w _=>by rw[List.length_map];exact hgl
 have h2:(uM c hd).length<=4:=by
  simp only[uM,List.getElem?_eq_getElem hhd,kS];omega
 have h3:(allOf c hd).length<=(uM c hd).length*256:=h1;omega
end Go.Am.Room.Tu
namespace Go.Am.Room.Ho
theorem cG{n lo hi:Int}:inR n lo hi=true↔lo<=n/\n<=hi:=by simp[inR]
theorem qP{s:Span}{lo hi:Int}(h:j9 s lo hi=0):lo<=s.lo/\s.lo<=s.hi/\s.hi<=hi:=by
 unfold j9 at h;split at h
 ·omega
 ·rename_i h1;split at h
  ·omega
  ·simp[inR] at h1;omega
theorem B6{s:Span}{lo hi:Int}(h:lo<=s.lo/\s.lo<=s.hi/\s.hi<=hi):j9 s lo hi=0:=by
 unfold j9;rw[cG.2 ⟨h.1,by omega⟩,cG.2 ⟨by omega,h.2.2⟩];simp;omega
theorem eT{α:Type}{f:Nat->α->Int}:∀ {l:List α} {i:Nat},aO f l i=none->∀ k (h:k<l.length),f (i+k) l[k]=0
 |[],_,_,k,h=>by simp at h
 |x::xs,i,h,k,hk=>by
  simp only[aO] at h;split at h
  ·rename_i h0;cases k with
   |zero=>exact h0
   |succ k =>
    have:=eT h k (by simpa using hk);simpa[Nat.add_assoc,Nat.add_comm 1 k] using this
  ·cases h
theorem cQ{α:Type}{f:Nat->α->Int}:∀ {l:List α} {i j:Nat} {e:Int},aO f l i=some (j,e)->e≠0
 |[],_,_,_,h=>by cases h
 |x::xs,i,j,e,h=>by
  simp only[aO] at h;split at h
  ·exact cQ h
  ·rename_i hn;simp at h;rw[<-h.2];exact hn
structure HoldOk (h:Hold):Prop where
 start:0<=h.start.lo/\h.start.lo<=h.start.hi/\h.start.hi<=80
 keep:0<=h.keep.lo/\h.keep.lo<=h.keep.hi/\h.keep.hi<=80
 duct:0<=h.duct/\h.duct<=2
structure Vd (s:Ship):Prop where
 cold:0<=s.cold/\s.cold<=80
 power:1<=s.power/\s.power<=9
 warm:0<=s.warm/\s.warm<=5
 nheat:1<=s.heat.length/\s.heat.length<=6
 heat:∀ n∈s.heat,0<=n/\n<=80
 frm:0<=s.frm/\s.frm<=s.heat.length
 nholds:1<=s.holds.length/\s.holds.length<=4
 holds:∀ h∈s.holds,HoldOk h
 nlog:s.log.length<=5
 log:∀ x∈s.log,(0<=x.hold/\x.hold<s.holds.length)/\(0<=x.watch/\x.watch<=s.heat.length)/\0<=x.marks/\x.marks<=80
theorem I3(h:Hold):dO h=0↔HoldOk h:=by
 constructor
 ·intro h1;unfold dO at h1;split at h1
  ·omega
  rename_i c;simp only[not_or,Bool.not_eq_false] at c;split at h1
  ·rename_i c2;exact absurd h1 c2
  ·rename_i c2;exact⟨qP (Decidable.not_not.1 c2),qP h1,cG.1 c.2.2⟩
 ·intro h1;unfold dO;rw[B6 h1.start,B6 h1.keep,cG.2 h1.duct];simp
theorem vd_of_check{s:Ship}(h:(check s).2.2=0):Vd s:=by
 unfold check at h;split at h
 ·simp at h
 rename_i c1;unfold fX at h;split at h
 ·simp at h
 rename_i c2;split at h
 ·rename_i i e he;exact absurd h (cQ he)
 rename_i f1;unfold gC at h;split at h
 ·simp at h
 rename_i c3;unfold fH at h;split at h
 ·simp at h
 rename_i c4;split at h
 ·rename_i i e he;exact absurd h (cQ he)
 rename_i f2;unfold fI at h;split at h
 ·simp at h
 rename_i c5;split at h
 ·rename_i i e he;exact absurd h (cQ he)
 rename_i f3;simp only[not_or,Bool.not_eq_false] at c1 c2 c3 c4;obtain⟨d1,d2,d3⟩:=c1;rw[fM,cG] at d1;rw[cG] at d2 d3 c2 c3 c4;refine⟨d1,d2,d3,by omega,?_,c3,by omega,?_,by omega,?_⟩
 ·intro n hn;obtain⟨k,hk,rfl⟩:=List.getElem_of_mem hn;have:=eT f1 k hk;unfold jV at this;split at this
  ·rename_i hi;rw[fM,cG] at hi;omega
  ·omega
 ·intro x hx;obtain⟨k,hk,rfl⟩:=List.getElem_of_mem hx;exact (I3 _).1 (eT f2 k hk)
 ·intro x hx;obtain⟨k,hk,rfl⟩:=List.getElem_of_mem hx;have:=eT f3 k hk;unfold iQ at this;split at this
  ·omega
  rename_i hi;split at this
  ·rename_i hj;rw[Bool.and_eq_true,fM,cG,cG] at hj;rw[Bool.not_eq_false,cG] at hi;omega
  ·omega
theorem CN{a b n:Int}(ha:0<=a/\a<=80)(hb:0<=b/\b<=80)(hn:0<=n):0<=jW a b n/\jW a b n<=80:=by
 unfold jW;split<;>omega
theorem tN{s:Ship}(hv:Vd s){h:Nat}{n:Int}(hn:0<=n/\n<=80)(c:Bool):∀ w,w<=s.heat.length->0<=marksAt s h n c w/\marksAt s h n c w<=80
 |0,_=>hn
 |w+1,hw=>by
  have ih:=tN hv (h:=h) hn c w (by omega);simp only[marksAt];split
  ·exact CN ih hv.cold (by omega)
  ·have hlt:w<s.heat.length:=by omega
   rw[List.getElem?_eq_getElem hlt,Option.getD_some];exact CN ih (hv.heat _ (List.getElem_mem hlt)) hv.warm.1
theorem mem_truths{s:Ship}{but:List Int}{t:Truth}:t∈truths s but↔t.blocked∈fR s/\t.starts=(List.range s.holds.length).map (fun h=>startsOf s h t.blocked but)/\∀ h,h<s.holds.length->startsOf s h t.blocked but≠[]:=by
 simp only[truths,List.mem_filterMap,mN];constructor
 ·rintro⟨bl,hbl,h⟩;split at h
  ·rename_i ha;cases h;refine⟨hbl,rfl,fun h hh=>?_⟩;have:=List.all_eq_true.1 ha (startsOf s h bl but) (List.mem_map.2 ⟨h,List.mem_range.2 hh,rfl⟩);simpa using this
  ·cases h
 ·rintro⟨h1,h2,h3⟩;refine⟨t.blocked,h1,?_⟩;rw[if_pos]
  ·rw[<-h2]
  ·rw[List.all_eq_true];intro x hx;obtain⟨h,hh,rfl⟩:=List.mem_map.1 hx;have:=h3 h (List.mem_range.1 hh);simpa using this
theorem vV{s:Ship}{but:List Int}{t:Truth}(ht:t∈truths s but){h:Nat}(hh:h<s.holds.length):(t.starts[h]?).getD []=startsOf s h t.blocked but:=by
 rw[(mem_truths.1 ht).2.1];simp[hh]
theorem mem_courses{s:Ship}{but clear:List Int}{h:Nat}(hh:h<s.holds.length){c:Nat->Int}:c∈cR s (truths s but) h clear↔∃ t∈truths s but,∃ n∈startsOf s h t.blocked but,c=marksAt s h n (cooled (restOf t.blocked clear) h):=by
 simp only[cR,List.mem_flatMap,List.mem_map];constructor
 ·rintro⟨t,ht,n,hn,rfl⟩;rw[vV ht hh] at hn;exact⟨t,ht,n,hn,rfl⟩
 ·rintro⟨t,ht,n,hn,rfl⟩;exact⟨t,ht,n,by rw[vV ht hh];exact hn,rfl⟩
theorem mem_starts{s:Ship}{h:Nat}(hh:h<s.holds.length){bl but:List Int}{n:Int}:n∈startsOf s h bl but↔(s.holds[h].start.lo<=n/\n<=s.holds[h].start.hi)/\sP s h (marksAt s h n (cooled bl h)) but=true:=by
 simp only[startsOf,List.getElem?_eq_getElem hh,List.mem_filter,bP];constructor
 ·rintro⟨h1,h2⟩;exact⟨by omega,h2⟩
 ·rintro⟨h1,h2⟩;exact⟨by omega,h2⟩
theorem SA{s:Ship}{h:Nat}{c:Nat->Int}{but:List Int}:sP s h c but=true↔∀ i (hi:i<s.log.length),iL h c but i s.log[i]=true:=by
 simp only[sP,List.all_eq_true,List.mem_range];constructor
 ·intro h1 i hi;have:=h1 i hi
  rwa [List.getElem?_eq_getElem hi] at this
 ·intro h1 i hi;rw[List.getElem?_eq_getElem hi];exact h1 i hi
theorem lV:∀ (n:Nat) (a:Int),aS a (n+1)=aS a n++[a+n]
 |0,a=>by simp[aS]
 |n+1,a=>by
  rw[aS,lV n (a+1)];simp only[aS,List.cons_append]
  congr 3
  omega
def QJ(s:Ship)(n:Nat)(bl:List Int):Prop:=bl=(aS 0 n).filter (fun h=>bl.contains h)/\∀ h (hh:h<s.holds.length),h<n->(s.holds[h].duct=0->¬(h:Int)∈bl)/\(s.holds[h].duct=1->(h:Int)∈bl)
theorem XG{s:Ship}{n:Nat}{bl:List Int}(h:QJ s n bl){x:Int}(hx:x∈bl):0<=x/\x<n:=by
 rw[h.1] at hx;have hx:=(List.mem_filter.1 hx).1;have:=(bP _ _ _).1 hx;omega
theorem E7{n:Nat}{bl l:List Int}(h:∀ x:Int,0<=x->x<n->(x∈bl↔x∈l)):(aS 0 n).filter (fun h=>bl.contains h)=(aS 0 n).filter (fun h=>l.contains h):=by
 refine List.filter_congr fun x hx=>?_
 have:=(bP _ _ _).1 hx;have:=h x (by omega) (by omega);rw[Bool.eq_iff_iff];simpa using this
theorem wN{s:Ship}:∀ {n:Nat} {bl:List Int},n<=s.holds.length->(bl∈dZ s n↔QJ s n bl)
 |0,bl,_=>by
  simp only[dZ,List.mem_singleton,QJ,aS,List.filter_nil];exact⟨fun h=>⟨h,fun h _ hh=>absurd hh (by omega)⟩,fun h=>h.1⟩
 |n+1,bl,hn=>by
  have hlt:n<s.holds.length:=by omega
  simp only[dZ,List.getElem?_eq_getElem hlt,List.mem_flatMap];constructor
  ·rintro⟨l,hl,hg⟩;have ih:=(wN (by omega)).1 hl;have hnl:¬(n:Int)∈l:=fun hx=>by have:=XG ih hx;omega
   simp only[tI,List.mem_append] at hg;rcases hg with hg|hg
   ·split at hg
    ·simp at hg
    ·rename_i hd;simp at hg;subst hg;refine⟨?_,fun h hh h1=>?_⟩
     ·rw[lV,List.filter_append];have:List.filter (fun h=>bl.contains h) [(0:Int)+n]=[]:=by simp;exact hnl
      rw[this,List.append_nil];exact ih.1
     ·by_cases he:h=n
      ·subst he;exact⟨fun _=>hnl,fun h2=>absurd h2 hd⟩
      ·exact ih.2 h hh (by omega)
   ·split at hg
    ·simp at hg
    ·rename_i hd;simp at hg;subst hg;refine⟨?_,fun h hh h1=>?_⟩
     ·rw[lV,List.filter_append];have:List.filter (fun h=>(l++[(n:Int)]).contains h) [(0:Int)+n]=[(n:Int)]:=by simp
      rw[this,E7 (l:=l) (fun x h1 h2=>by simp;omega),<-ih.1]
     ·by_cases he:h=n
      ·subst he;exact⟨fun h2=>absurd h2 hd,fun _=>by simp⟩
      ·have:=ih.2 h hh (by omega);have hne:(h:Int)≠n:=by omega
       simpa[hne] using this
  ·intro h;have hd:=h.2 n hlt (by omega);refine⟨(aS 0 n).filter (fun x=>bl.contains x),(wN (by omega)).2 ⟨?_,fun k hk hkn=>?_⟩,?_⟩
   ·refine (E7 fun x h1 h2=>?_).symm;simp only[List.mem_filter,bP,List.contains_iff_mem];exact⟨fun h=>h.2,fun h=>⟨by omega,h⟩⟩
   ·have:=h.2 k hk (by omega);simp only[List.mem_filter,bP,List.contains_iff_mem];exact⟨fun h1 h2=>this.1 h1 h2.2,fun h1=>⟨by omega,this.2 h1⟩⟩
   ·have e:=h.1;rw[lV,List.filter_append] at e;simp only[tI,List.mem_append];by_cases hb:(n:Int)∈bl
    ·right;rw[if_neg (fun h0=>hd.1 h0 hb),List.mem_singleton];have:List.filter (fun h=>bl.contains h) [(0:Int)+n]=[(n:Int)]:=by simp[hb]
     rw[this] at e;exact e
    ·left;rw[if_neg (fun h0=>hb (hd.2 h0)),List.mem_singleton];have:List.filter (fun h=>bl.contains h) [(0:Int)+n]=[]:=by simp[hb]
     rw[this,List.append_nil] at e;exact e
theorem UW{s:Ship}{bl:List Int}:bl∈fR s↔QJ s s.holds.length bl:=wN (Nat.le_refl _)
theorem sR{α:Type}{p:α->Bool}{l:List α}:(l.filter p).length=l.length↔∀ x∈l,p x=true:=by
 rw[List.length_filter_eq_length_iff]
theorem pF{α:Type}{p:α->Bool}{l:List α}:eF (l.filter p).length l.length=1↔∀ x∈l,p x=true:=by
 rw[<-sR];unfold eF;split
 ·rename_i h;simp[h]
 ·rename_i h;split
  ·simp[h]
  ·simp[h]
theorem keepsIn_one{s:Ship}{l:List Truth}{h:Nat}{clear:List Int}:keepsIn s l h clear=1↔∀ c∈cR s l h clear,keptOf s h c=true:=pF
end Go.Am.Room.Ho
namespace Go.Am.Room
theorem EA:∀ (l:List Int) (s:Span),s.lo<=s.hi->(l.foldl kF s).lo<=s.lo/\s.hi<=(l.foldl kF s).hi/\(∀ x∈l,(l.foldl kF s).lo<=x/\x<=(l.foldl kF s).hi)/\((l.foldl kF s).lo=s.lo\/(l.foldl kF s).lo∈l)/\((l.foldl kF s).hi=s.hi\/(l.foldl kF s).hi∈l)
 |[],s,h=>⟨Int.le_refl _,Int.le_refl _,fun x hx=>by simp at hx,.inl rfl,.inl rfl⟩
 |y::l,s,h=>by
  have hj:(kF s y).lo<=(kF s y).hi:=by simp only[kF];omega
  obtain⟨a,b,c,d,e⟩:=EA l (kF s y) hj;simp only[List.foldl_cons];have h1:(kF s y).lo<=s.lo/\(kF s y).lo<=y/\((kF s y).lo=s.lo\/(kF s y).lo=y):=by simp only[kF];omega
  have h2:s.hi<=(kF s y).hi/\y<=(kF s y).hi/\((kF s y).hi=s.hi\/(kF s y).hi=y):=by simp only[kF];omega
  refine⟨by omega,by omega,fun x hx=>?_,?_,?_⟩
  ·rcases List.mem_cons.1 hx with rfl|hx
   ·omega
   ·exact c x hx
  ·rcases d with d|d
   ·rcases h1.2.2 with h|h
    ·left;omega
    ·right;rw[d,h];simp
   ·right;simp[d]
  ·rcases e with e|e
   ·rcases h2.2.2 with h|h
    ·left;omega
    ·right;rw[e,h];simp
   ·right;simp[e]
theorem OV{l:List Int}(h:l≠[]):(kH l).lo∈l/\(kH l).hi∈l/\∀ x∈l,(kH l).lo<=x/\x<=(kH l).hi:=by
 cases l with
 |nil=>exact absurd rfl h
 |cons x l =>
  obtain⟨a,b,c,d,e⟩:=EA l ⟨x,x⟩ (Int.le_refl _);simp only[kH];refine⟨?_,?_,fun y hy=>?_⟩
  ·rcases d with d|d
   ·rw[d];simp
   ·simp[d]
  ·rcases e with e|e
   ·rw[e];simp
   ·simp[e]
  ·rcases List.mem_cons.1 hy with rfl|hy
   ·exact⟨a,b⟩
   ·exact c y hy
theorem sR{α:Type}{p:α->Bool}{l:List α}:(l.filter p).length=l.length↔∀ x∈l,p x=true:=by
 rw[List.length_filter_eq_length_iff]
theorem pF{α:Type}{p:α->Bool}{l:List α}:eF (l.filter p).length l.length=1↔∀ x∈l,p x=true:=by
 rw[<-sR];unfold eF;split
 ·rename_i h;simp[h]
 ·rename_i h;split
  ·simp[h]
  ·simp[h]
theorem J7{α:Type}{p:α->Bool}{l:List α}:eF (l.filter p).length l.length=2↔l≠[]/\∀ x∈l,p x=false:=by
 unfold eF;split
 ·rename_i h;simp only[show ¬(1:Int)=2 by omega,false_iff];rintro⟨h1,h2⟩;rw[sR] at h;cases l with
  |nil=>exact h1 rfl
  |cons x l =>
   have a:=h x (by simp);have b:=h2 x (by simp);rw[a] at b;cases b
 ·rename_i h;split
  ·rename_i h0;simp only[true_iff];refine⟨fun e=>?_,fun x hx=>?_⟩
   ·subst e;simp at h
   ·have:=List.eq_nil_of_length_eq_zero h0;rw[List.filter_eq_nil_iff] at this;simpa using this x hx
  ·rename_i h0;simp only[show ¬(0:Int)=2 by omega,false_iff];rintro⟨h1,h2⟩;apply h0;rw[List.length_eq_zero_iff,List.filter_eq_nil_iff];intro x hx;simp[h2 x hx]
def oR(H v:Nat->Int)(g:Int):Nat->Int
 |0=>g
 |n+1=>oR H v g n-H n-v n
theorem zS{H v u:Nat->Int}{g:Int}:∀ n,(∀ k,k<n->v k<=u k)->oR H u g n<=oR H v g n
 |0,_=>Int.le_refl _
 |n+1,h=>by
  have:=zS (H:=H) (v:=v) (u:=u) (g:=g) n fun k hk=>h k (by omega)
  have:=h n (by omega);simp only[oR];omega
def kC(heat:List Int)(warm green:Span):Tu.Car:=⟨heat,0,[warm],[⟨0,0,green⟩],[]⟩
section
variable {heat:List Int} {warm green:Span}
theorem PI(w:Int)(g:Nat->Int)(ls:Nat->Bool)(hh:∀ n∈heat,0<=n)(hw:0<=w):∀ n,Tu.leftTo (kC heat warm green) ls w g n 0=oR (Tu.heatAt (kC heat warm green)) (fun _=>w) (g 0) n\/(Tu.leftTo (kC heat warm green) ls w g n 0<=0/\oR (Tu.heatAt (kC heat warm green)) (fun _=>w) (g 0) n<=0)
 |0=>.inl rfl
 |n+1=>by
  have ih:=PI w g ls hh hw n;have hg:Tu.gasAt (kC heat warm green) ls n (Tu.leftTo (kC heat warm green) ls w g n)=0:=by
   unfold Tu.gasAt;split<;>rfl
  have hf:Tu.lotFrm (kC heat warm green) 0=0:=rfl;have hp:0<=Tu.heatAt (kC heat warm green) n:=by
   unfold Tu.heatAt;show 0<=(heat[n]?).getD 0
   cases e:heat[n]? with
   |none=>simp
   |some x=>exact hh x (List.mem_of_getElem? e)
  simp only[Tu.leftTo,oR,hg,hf];obtain⟨L,hL⟩:∃ L,Tu.leftTo (kC heat warm green) ls w g n 0=L:=⟨_,rfl⟩;rw[hL] at ih ⊢;by_cases h0:0<L
  ·rw[if_pos ⟨by omega,h0⟩];rcases ih with ih|ih
   ·left;omega
   ·omega
  ·rw[if_neg (by omega)];right;rcases ih with ih|ih<;>omega
theorem aB2(w:Int)(g:Nat->Int)(ls:Nat->Bool)(hls:ls 0=true)(hh:∀ n∈heat,0<=n)(hw:0<=w)(n:Nat):Tu.turnAt (kC heat warm green) ls w g n 0=true↔oR (Tu.heatAt (kC heat warm green)) (fun _=>w) (g 0) n<=0:=by
 have hf:Tu.lotFrm (kC heat warm green) 0=0:=rfl;have hl:(0:Nat)<(kC heat warm green).lots.length:=by simp[kC]
 have:=PI (warm:=warm) (green:=green) w g ls hh hw n;simp only[Tu.turnAt,Tu.isTurned,hls,hf,Bool.and_eq_true,decide_eq_true_eq,true_and];omega
theorem QX(w g:Int)(hh:∀ n∈heat,0<=n)(hw:0<=w){n:Nat}(hn:n<=heat.length):Tu.wayTime (kC heat warm green) 0 ⟨w,[g]⟩ 0<=n↔oR (Tu.heatAt (kC heat warm green)) (fun _=>w) g n<=0:=by
 have h1:=(Tu.time_lt (kC heat warm green) (Tu.inHold (kC heat warm green) 0) w (Tu.gF [g]) 0 (heat.length+1) (Nat.le_refl _)).2 n (by omega);have h2:=aB2 (warm:=warm) (green:=green) w (Tu.gF [g]) (Tu.inHold (kC heat warm green) 0) (by simp[Tu.inHold,kC]) hh hw n;have e:Tu.gF [g] 0=g:=rfl;rw[e] at h2;exact h1.trans h2
theorem UC{w g:Int}(hw:warm.lo<=w/\w<=warm.hi)(hg:green.lo<=g/\g<=green.hi):(⟨w,[g]⟩:Tu.Way)∈Tu.waysOf (kC heat warm green) 0:=by
 refine List.mem_filter.2 ⟨?_,rfl⟩;simp only[Tu.allOf,List.mem_flatMap,List.mem_map];refine⟨w,?_,[g],?_,rfl⟩
 ·show w∈aS warm.lo (warm.hi+1-warm.lo).toNat
  rw[bP];omega
 ·show [g]∈Tu.greensUp (kC heat warm green) 0 1
  simp only[Tu.greensUp,List.mem_flatMap,List.mem_map,List.mem_singleton];refine⟨[],rfl,g,?_,rfl⟩;have hq:Tu.greenIn (kC heat warm green) 0 0=aS green.lo (green.hi+1-green.lo).toNat:=by simp[Tu.greenIn,kC]
  rw[hq,bP];omega
theorem aPC(h1:heat.length<=8)(h2:∀ n∈heat,0<=n/\n<=3)(hw:0<=warm.lo/\warm.lo<=warm.hi/\warm.hi<=6)(hw3:warm.hi<=warm.lo+3)(hg:0<=green.lo/\green.lo<=green.hi/\green.hi<=40)(hg3:green.hi<=green.lo+3):Tu.Vd (kC heat warm green) where
 nht:=h1
 ht:=h2
 gas:=by simp[kC]
 nhd:=by simp[kC]
 hd:=fun s hs=>by
  simp only[kC,List.mem_singleton] at hs;subst hs;omega
 nlt:=by simp[kC]
 lt:=fun l hl=>by
  simp only[kC,List.mem_singleton] at hl;subst hl;simp only[kC,List.length_singleton];omega
 nsn:=by simp[kC]
 sn:=fun s hs=>by simp[kC] at hs
theorem aIJ(hv:Tu.Vd (kC heat warm green))(hw:warm.lo<=warm.hi)(hg:green.lo<=green.hi):Tu.lotErr (kC heat warm green) 0=0:=by
 have h1:(Tu.check (kC heat warm green)).2.2=0:=by rw[Tu.check_of_vd hv]
 have h2:inR (0:Int) 0 (((kC heat warm green).lots.length:Int)-1)=true:=cG.2 (by simp[kC]);have h3:Tu.someB (kC heat warm green)=true:=by
  have:=UC (heat:=heat) (warm:=warm) (green:=green) (w:=warm.lo) (g:=green.lo) ⟨Int.le_refl _,hw⟩ ⟨Int.le_refl _,hg⟩;have hne:Tu.waysOf (kC heat warm green) 0≠[]:=List.ne_nil_of_mem this;simp[Tu.someB,kC,List.range_succ] at hne ⊢;exact hne
 simp[Tu.lotErr,Tu.errAsk,h1,h2,h3]
theorem JO{w g:Int}(hw:warm.lo<=w/\w<=warm.hi)(hg:green.lo<=g/\g<=green.hi):Tu.wayTime (kC heat warm green) 0 ⟨w,[g]⟩ 0∈Tu.hoursAll (kC heat warm green) 0 :=
 List.mem_map.2 ⟨_,UC hw hg,rfl⟩
theorem TZ{v:Nat->Int}{g:Int}(hh:∀ n∈heat,0<=n)(hw0:0<=warm.lo)(hw:warm.lo<=warm.hi)(hg:green.lo<=g/\g<=green.hi)(hv:∀ k,k<heat.length->warm.lo<=v k/\v k<=warm.hi):
  ((∀ n,n<=heat.length->0<oR (Tu.heatAt (kC heat warm green)) v g n)->eF (Tu.hoursOf (kC heat warm green) 0).length (Tu.hoursAll (kC heat warm green) 0).length≠1) /\
  ∀ n,n<=heat.length->oR (Tu.heatAt (kC heat warm green)) v g n<=0->(∀ j,j<n->0<oR (Tu.heatAt (kC heat warm green)) v g j) ->
   eF (Tu.hoursOf (kC heat warm green) 0).length (Tu.hoursAll (kC heat warm green) 0).length≠2/\(kH (Tu.hoursOf (kC heat warm green) 0)).lo<=n/\(eF (Tu.hoursOf (kC heat warm green) 0).length (Tu.hoursAll (kC heat warm green) 0).length=1->n<=(kH (Tu.hoursOf (kC heat warm green) 0)).hi):=by
 have hne:Tu.never (kC heat warm green)=heat.length+1:=rfl;have tlo:=JO (heat:=heat) (warm:=warm) (green:=green) (w:=warm.lo) ⟨Int.le_refl _,hw⟩ hg;have thi:=JO (heat:=heat) (warm:=warm) (green:=green) (w:=warm.hi) ⟨hw,Int.le_refl _⟩ hg;have klo:=fun n hn=>QX (heat:=heat) (warm:=warm) (green:=green) warm.lo g hh hw0 (n:=n) hn
 have khi:=fun n hn=>QX (heat:=heat) (warm:=warm) (green:=green) warm.hi g hh (by omega) (n:=n) hn
 have mlo:=fun n (hn:n<=heat.length)=>zS (H:=Tu.heatAt (kC heat warm green)) (v:=fun _=>warm.lo) (u:=v) (g:=g) n fun k hk=>(hv k (by omega)).1
 have mhi:=fun n (hn:n<=heat.length)=>zS (H:=Tu.heatAt (kC heat warm green)) (v:=v) (u:=fun _=>warm.hi) (g:=g) n fun k hk=>(hv k (by omega)).2
 have hsl:Tu.wayTime (kC heat warm green) 0 ⟨warm.lo,[g]⟩ 0<=Tu.never (kC heat warm green):=Tu.time_le _ _ _ _ _ _;have hsn:0<=Tu.wayTime (kC heat warm green) 0 ⟨warm.lo,[g]⟩ 0:=Tu.time_nn _ _ _ _ _ _;have hof:Tu.hoursOf (kC heat warm green) 0=(Tu.hoursAll (kC heat warm green) 0).filter fun h=>decide (h≠Tu.never (kC heat warm green)):=rfl
 rw[hof];obtain⟨A,hA⟩:∃ A,Tu.hoursAll (kC heat warm green) 0=A:=⟨_,rfl⟩;obtain⟨N,hN⟩:∃ N,Tu.never (kC heat warm green)=N:=⟨_,rfl⟩;obtain⟨X,hX⟩:∃ X,Tu.wayTime (kC heat warm green) 0 ⟨warm.lo,[g]⟩ 0=X:=⟨_,rfl⟩;obtain⟨Y,hY⟩:∃ Y,Tu.wayTime (kC heat warm green) 0 ⟨warm.hi,[g]⟩ 0=Y:=⟨_,rfl⟩;rw[hA] at tlo thi;rw[hX] at tlo hsl hsn;rw[hY] at thi;simp only[hX] at klo;simp only[hY] at khi;rw[hN] at hne hsl;rw[hA,hN];constructor
 ·intro h e;have:=(pF (p:=fun h=>decide (h≠N)).1 e) X tlo;simp only[ne_eq,decide_not,Bool.not_eq_true',decide_eq_false_iff_not] at this;have h1:=h heat.length (Nat.le_refl _);have h2:=mlo heat.length (Nat.le_refl _);have h3:=klo heat.length (Nat.le_refl _);omega
 ·intro n hn h1 h2;have h3:=mhi n hn;have h4:=khi n hn;have hYn:Y<=n:=h4.2 (by omega);have hYm:Y∈A.filter fun h=>decide (h≠N):=List.mem_filter.2 ⟨thi,by simp;omega⟩
  obtain⟨s1,s2,s3⟩:=OV (List.ne_nil_of_mem hYm);have s4:=s3 _ hYm;refine⟨fun e=>?_,by omega,fun e=>?_⟩
  ·have:=(J7 (p:=fun h=>decide (h≠N)).1 e).2 Y thi;simp only[ne_eq,decide_not,Bool.not_eq_false',decide_eq_true_eq] at this;omega
  ·have hx:=(pF (p:=fun h=>decide (h≠N)).1 e) X tlo;have s5:=s3 X (List.mem_filter.2 ⟨tlo,hx⟩);by_cases hle:(n:Int)<=X
   ·omega
   ·exfalso;obtain⟨j,hj⟩:∃ j:Nat,X=j:=⟨X.toNat,by omega⟩;have hjn:j<n:=by omega
    have q1:=h2 j hjn;have q2:=mlo j (by omega);have q3:=(klo j (by omega)).1 (by omega);omega
end
end Go.Am.Room
namespace Go.Am.Room.Tu
def aG:=zz @nS (zz @mX (zz @gH (zz @fJ (zz @aK (zz @gJ (zz @fB (@fA)))))))
theorem uX(σ:St)(f:AV)(l:List Int)(dH most:Int)(of:Nat->Int->Int)(hl:l.length<9223372036854775808)(hk:n9 σ f)(h:∀ i (hi:i<l.length),gB T f [.int .i64 l[i]] σ (.int .i64 (of i l[i]))):gB T (.func 396 [] []) [ints l,.int .i64 dH,.int .i64 most,f] σ (jI (aQ dH most of l)):=by
 refine dM (af:=aA5) rfl (by simp[aA5]) ?_;have hk0:=hk.nil;have hk2:∀ τ,bN (σ++τ) σ.length 20 f=some f:=hk;try simp only[↓QA,QB,seval,aG,aA5]
 (refine bC (kQ dH most [(l.length:Int)] (by simp)) (by simp[clr,clrs,ints]) (by simp[okV,okVs]) ?_;try simp only[↓QA,QB,seval,aG,BI])
 cases h1:inR l.length dH most
 ·try simp only[↓QA,QB,seval,aG]
  refine cY [] (by first|rfl|simp) ?_;try simp only[QS,QC,seval,aG,jI,aQ,h1]
 ·try simp only[↓QA,QB,seval,aG]
  refine dQ (S:=Nat) 0 (fun k=>k<=l.length/\aO of (l.drop k) k=aO of l 0) (fun k=>l.length-k) (fun k=>[(3,f),(19,ints l),(20,.int .i64 l.length),(21,.int .i64 k)]) (fun _=>σ) ⟨Nat.zero_le _,by simp⟩ rfl ?_ fun k hk1=>?_
  ·try simp only[aB,QE,seval,aG]
   try simp
  ·obtain⟨hkl,hi⟩:=hk1;try simp only[↓QA,QB,seval,aG,V6]
   refine aJ (fun hd=>?_) fun hd=>?_
   ·have hlt:k<l.length:=by simpa using hd
    have hs:=h k hlt;rw[dP hlt] at hi;have hw:=dB hlt hl;try simp only[↓QA,QB,seval,aG,hlt] at hs
    try simp only[↓QA,QB,seval,aG,hlt]
    refine bJ hs ?_;try simp only[↓QA,QB,seval,aG]
    cases hp:(of k l[k]==0)
    ·have hp':of k l[k]≠0:=by simpa using hp
     rw[if_neg hp'] at hi;try simp only[↓QA,QB,seval,aG,hp]
     refine cY [] (by first|rfl|simp) ?_;try simp only[QS,QC,seval,aG,jI,aQ,h1,<-hi,reduceCtorEq]
    ·have hp':of k l[k]=0:=by simpa using hp
     rw[if_pos hp'] at hi;try simp only[↓QA,QB,seval,aG,hp,hw]
     refine⟨k+1,⟨by omega,hi⟩,by omega,?_⟩;try simp only[aB,QE,seval,aG,hw,hk0,hk2,Nat.le_refl,uC]
   ·have hlt:k=l.length:=by simp at hd;omega
    rw[eN hlt] at hi;try simp only[↓QA,QB,seval,aG]
    refine cY [] (by first|rfl|simp) ?_;try simp only[QS,QC,seval,aG,jI,aQ,h1,<-hi,reduceCtorEq]
theorem HF(σ:St)(f:AV)(l:List Span)(dH most:Int)(of:Nat->Span->Int)(hl:l.length<9223372036854775808)(hk:n9 σ f)(h:∀ i (hi:i<l.length),gB T f [eM l[i]] (σ++[.cells (eM l[i]).cells]) (.int .i64 (of i l[i]))):gB T (.func 398 [] []) [.lit (l.map eM) false none,.int .i64 dH,.int .i64 most,f] σ (jI (aQ dH most of l)):=by
 refine dM (af:=Y5) rfl (by simp[Y5]) ?_;have hk0:=hk.nil;have hk2:∀ τ,bN (σ++τ) σ.length 20 f=some f:=hk;try simp only[↓QA,QB,seval,aG,Y5]
 (refine bC (kQ dH most [(l.length:Int)] (by simp)) (by simp[clr,clrs,ints]) (by simp[okV,okVs]) ?_;try simp only[↓QA,QB,seval,aG,BI])
 cases h1:inR l.length dH most
 ·try simp only[↓QA,QB,seval,aG]
  refine cY [] (by first|rfl|simp) ?_;try simp only[QS,QC,seval,aG,jI,aQ,h1]
 ·try simp only[↓QA,QB,seval,aG]
  refine dQ (S:=Nat) 0 (fun k=>k<=l.length/\aO of (l.drop k) k=aO of l 0) (fun k=>l.length-k) (fun k=>[(3,f),(19,.lit (l.map eM) false none),(20,.int .i64 l.length),(21,.int .i64 k)]) (fun _=>σ) ⟨Nat.zero_le _,by simp⟩ rfl ?_ fun k hk1=>?_
  ·try simp only[aB,QE,seval,aG]
   try simp
  ·obtain⟨hkl,hi⟩:=hk1;try simp only[↓QA,QB,seval,aG,UI]
   refine aJ (fun hd=>?_) fun hd=>?_
   ·have hlt:k<l.length:=by simpa using hd
    have hs:=h k hlt;rw[dP hlt] at hi;have hw:=dB hlt hl;try simp only[↓QA,QB,seval,aG,hlt] at hs
    try simp only[↓QA,QB,seval,aG,hlt]
    refine bJ hs ?_;try simp only[↓QA,QB,seval,aG]
    cases hp:(of k l[k]==0)
    ·have hp':of k l[k]≠0:=by simpa using hp
     rw[if_neg hp'] at hi;try simp only[↓QA,QB,seval,aG,hp]
     refine cY _ rfl ?_;try simp only[QS,QC,seval,aG,jI,aQ,h1,<-hi,reduceCtorEq]
    ·have hp':of k l[k]=0:=by simpa using hp
     rw[if_pos hp'] at hi;try simp only[↓QA,QB,seval,aG,hp,hw]
     refine⟨k+1,⟨by omega,hi⟩,by omega,?_⟩;try simp only[aB,QE,seval,aG,hw,hk0,hk2,Nat.le_refl,fA]
   ·have hlt:k=l.length:=by simp at hd;omega
    rw[eN hlt] at hi;try simp only[↓QA,QB,seval,aG]
    refine cY [] (by first|rfl|simp) ?_;try simp only[QS,QC,seval,aG,jI,aQ,h1,<-hi,reduceCtorEq]
theorem JH(σ:St)(f:AV)(l:List Lot)(dH most:Int)(of:Nat->Lot->Int)(hl:l.length<9223372036854775808)(hk:n9 σ f)(h:∀ i (hi:i<l.length),gB T f [iM l[i]] (σ++[.cells (iM l[i]).cells]) (.int .i64 (of i l[i]))):gB T (.func 400 [] []) [.lit (l.map iM) false none,.int .i64 dH,.int .i64 most,f] σ (jI (aQ dH most of l)):=by
 refine dM (af:=XF) rfl (by simp[XF]) ?_;have hk0:=hk.nil;have hk2:∀ τ,bN (σ++τ) σ.length 20 f=some f:=hk;try simp only[↓QA,QB,seval,aG,XF]
 (refine bC (kQ dH most [(l.length:Int)] (by simp)) (by simp[clr,clrs,ints]) (by simp[okV,okVs]) ?_;try simp only[↓QA,QB,seval,aG,BI])
 cases h1:inR l.length dH most
 ·try simp only[↓QA,QB,seval,aG]
  refine cY [] (by first|rfl|simp) ?_;try simp only[QS,QC,seval,aG,jI,aQ,h1]
 ·try simp only[↓QA,QB,seval,aG]
  refine dQ (S:=Nat) 0 (fun k=>k<=l.length/\aO of (l.drop k) k=aO of l 0) (fun k=>l.length-k) (fun k=>[(3,f),(19,.lit (l.map iM) false none),(20,.int .i64 l.length),(21,.int .i64 k)]) (fun _=>σ) ⟨Nat.zero_le _,by simp⟩ rfl ?_ fun k hk1=>?_
  ·try simp only[aB,QE,seval,aG]
   try simp
  ·obtain⟨hkl,hi⟩:=hk1;try simp only[↓QA,QB,seval,aG,U0]
   refine aJ (fun hd=>?_) fun hd=>?_
   ·have hlt:k<l.length:=by simpa using hd
    have hs:=h k hlt;rw[dP hlt] at hi;have hw:=dB hlt hl;try simp only[↓QA,QB,seval,aG,hlt] at hs
    try simp only[↓QA,QB,seval,aG,hlt]
    refine bJ hs ?_;try simp only[↓QA,QB,seval,aG]
    cases hp:(of k l[k]==0)
    ·have hp':of k l[k]≠0:=by simpa using hp
     rw[if_neg hp'] at hi;try simp only[↓QA,QB,seval,aG,hp]
     refine cY _ rfl ?_;try simp only[QS,QC,seval,aG,jI,aQ,h1,<-hi,reduceCtorEq]
    ·have hp':of k l[k]=0:=by simpa using hp
     rw[if_pos hp'] at hi;try simp only[↓QA,QB,seval,aG,hp,hw]
     refine⟨k+1,⟨by omega,hi⟩,by omega,?_⟩;try simp only[aB,QE,seval,aG,hw,hk0,hk2,Nat.le_refl,gJ]
   ·have hlt:k=l.length:=by simp at hd;omega
    rw[eN hlt] at hi;try simp only[↓QA,QB,seval,aG]
    refine cY [] (by first|rfl|simp) ?_;try simp only[QS,QC,seval,aG,jI,aQ,h1,<-hi,reduceCtorEq]
theorem H3(σ:St)(f:AV)(l:List Seen)(dH most:Int)(of:Nat->Seen->Int)(hl:l.length<9223372036854775808)(hk:n9 σ f)(h:∀ i (hi:i<l.length),gB T f [gL l[i]] (σ++[.cells (gL l[i]).cells]) (.int .i64 (of i l[i]))):gB T (.func 402 [] []) [.lit (l.map gL) false none,.int .i64 dH,.int .i64 most,f] σ (jI (aQ dH most of l)):=by
 refine dM (af:=V1) rfl (by simp[V1]) ?_;have hk0:=hk.nil;have hk2:∀ τ,bN (σ++τ) σ.length 20 f=some f:=hk;try simp only[↓QA,QB,seval,aG,V1]
 (refine bC (kQ dH most [(l.length:Int)] (by simp)) (by simp[clr,clrs,ints]) (by simp[okV,okVs]) ?_;try simp only[↓QA,QB,seval,aG,BI])
 cases h1:inR l.length dH most
 ·try simp only[↓QA,QB,seval,aG]
  refine cY [] (by first|rfl|simp) ?_;try simp only[QS,QC,seval,aG,jI,aQ,h1]
 ·try simp only[↓QA,QB,seval,aG]
  refine dQ (S:=Nat) 0 (fun k=>k<=l.length/\aO of (l.drop k) k=aO of l 0) (fun k=>l.length-k) (fun k=>[(3,f),(19,.lit (l.map gL) false none),(20,.int .i64 l.length),(21,.int .i64 k)]) (fun _=>σ) ⟨Nat.zero_le _,by simp⟩ rfl ?_ fun k hk1=>?_
  ·try simp only[aB,QE,seval,aG]
   try simp
  ·obtain⟨hkl,hi⟩:=hk1;try simp only[↓QA,QB,seval,aG,VC]
   refine aJ (fun hd=>?_) fun hd=>?_
   ·have hlt:k<l.length:=by simpa using hd
    have hs:=h k hlt;rw[dP hlt] at hi;have hw:=dB hlt hl;try simp only[↓QA,QB,seval,aG,hlt] at hs
    try simp only[↓QA,QB,seval,aG,hlt]
    refine bJ hs ?_;try simp only[↓QA,QB,seval,aG]
    cases hp:(of k l[k]==0)
    ·have hp':of k l[k]≠0:=by simpa using hp
     rw[if_neg hp'] at hi;try simp only[↓QA,QB,seval,aG,hp]
     refine cY _ rfl ?_;try simp only[QS,QC,seval,aG,jI,aQ,h1,<-hi,reduceCtorEq]
    ·have hp':of k l[k]=0:=by simpa using hp
     rw[if_pos hp'] at hi;try simp only[↓QA,QB,seval,aG,hp,hw]
     refine⟨k+1,⟨by omega,hi⟩,by omega,?_⟩;try simp only[aB,QE,seval,aG,hw,hk0,hk2,Nat.le_refl,fB]
   ·have hlt:k=l.length:=by simp at hd;omega
    rw[eN hlt] at hi;try simp only[↓QA,QB,seval,aG]
    refine cY [] (by first|rfl|simp) ?_;try simp only[QS,QC,seval,aG,jI,aQ,h1,<-hi,reduceCtorEq]
theorem aEB(s:Span)(m:Int):wide s m=if (!inR s.lo 0 m||!inR s.hi 0 m)=true then 7 else if inR (s.hi-s.lo) 0 3=false then 2 else 0:=by
 have e:j9 s 0 m=if (!inR s.lo 0 m||!inR s.hi 0 m)=true then 7 else if s.hi<s.lo then 2 else 0:=rfl
 unfold wide;rw[e];split
 ·simp
 ·by_cases h:s.hi<s.lo
  ·have:inR (s.hi-s.lo) 0 3=false:=by simp[inR];omega
   simp[h,this]
  ·by_cases h2:3<s.hi-s.lo
   ·have:inR (s.hi-s.lo) 0 3=false:=by simp[inR];omega
    simp[h,h2,this]
   ·have:inR (s.hi-s.lo) 0 3=true:=by simp[inR];omega
    simp[h,h2,this]
theorem GF(s:Span)(m:Int)(hm:0<=m/\m<=1000):cZ T 274 [eM s,.int .i64 m] (.int .i64 (wide s m)):=by
 refine aX (af:=WY) rfl (by simp[WY]) dd ?_;have he:=aEB s m;obtain⟨E,hE⟩:∃ E,wide s m=E:=⟨_,rfl⟩;rw[hE] at he ⊢;try simp only[↓QA,QB,seval,aG,WY]
 (refine bC (kQ 0 m [s.lo,s.hi] (by simp)) (by simp[clr,clrs,ints]) (by simp[okV,okVs]) ?_;try simp only[↓QA,QB,seval,aG,aS2])
 cases h1:(!inR s.lo 0 m||!inR s.hi 0 m)
 ·rw[h1] at he;simp only[Bool.or_eq_false_iff,Bool.not_eq_false',cG] at h1;have hw:IntKind.i64.wrap (s.hi-s.lo)=s.hi-s.lo:=bD ⟨by omega,by omega⟩;try simp only[↓QA,QB,seval,aG,hw]
  (refine bC (kQ 0 3 [s.hi-s.lo] (by simp)) (by simp[clr,clrs,ints]) (by simp[okV,okVs]) ?_;try simp only[↓QA,QB,seval,aG,BI])
  cases h2:inR (s.hi-s.lo) 0 3
  ·rw[h2] at he;try simp only[↓QA,QB,seval,aG]
   rw[he];rfl
  ·rw[h2] at he;try simp only[↓QA,QB,seval,aG]
   rw[he];rfl
 ·rw[h1] at he;try simp only[↓QA,QB,seval,aG]
  rw[he];rfl
theorem HA(n:Int)(σ:St):gB T (.func 397 [] []) [.int .i64 n] σ (.int .i64 (tR 0 n)):=by
 refine dM (af:=aAE) rfl (by simp[aAE]) ?_;try simp only[↓QA,QB,seval,aG,aAE]
 (refine bC (kQ 0 3 [n] (by simp)) (by simp[clr,clrs,ints]) (by simp[okV,okVs]) ?_;try simp only[↓QA,QB,seval,aG,BI])
 cases h1:inR n 0 3;all_goals
  try simp only[↓QA,QB,seval,aG]
  refine cY [] (by first|rfl|simp) ?_;try simp only[QS,QC,seval,aG,tR,h1,reduceCtorEq]
  try rfl
theorem HD(s:Span)(σ:St):gB T (.func 399 [] []) [eM s] σ (.int .i64 (yC 0 s)):=by
 refine dM (af:=ZV) rfl (by simp[ZV]) ?_;have hw:=GF s 6 (by omega);simp only[aK] at hw;try simp only[↓QA,QB,seval,aG,ZV,List.length_append]
 (refine aC (hw) rfl dd ?_;try simp only[↓QA,QB,seval,aG])
 refine cY _ rfl ?_;try simp only[QS,QC,seval,aG,yC]
theorem G5(c:Car)(hf:Fits c)(x:Lot):gB T (.func 401 [] [.ptr 0 0]) [iM x] [.cells (aY c),.cells (iM x).cells] (.int .i64 (tD c 0 x)):=by
 refine dM (af:=U8) rfl (by simp[U8]) ?_;have hfo:=hf.holds;have hws:IntKind.i64.wrap ((c.holds.length:Int)-1)=(c.holds.length:Int)-1:=bD ⟨by omega,by omega⟩;have hwd:=GF x.green 40 (by omega);simp only[aK] at hwd;have he:tD c 0 x=if inR x.hold 0 ((c.holds.length:Int)-1)=false then 4 else if inR x.frm 0 c.heat.length=false then 7 else wide x.green 40:=rfl
 obtain⟨E,hE⟩:∃ E,tD c 0 x=E:=⟨_,rfl⟩;rw[hE] at he ⊢;try simp only[↓QA,QB,seval,aG,U8,hws]
 (refine bC (kQ 0 ((c.holds.length:Int)-1) [x.hold] (by simp)) (by simp[clr,clrs,ints]) (by simp[okV,okVs]) ?_;try simp only[↓QA,QB,seval,aG,BI])
 cases h1:inR x.hold 0 ((c.holds.length:Int)-1)
 ·rw[h1] at he;try simp only[↓QA,QB,seval,aG]
  refine cY _ rfl ?_;rw[he];try simp only[QS,QC,seval,aG,reduceCtorEq]
  try rfl
 ·rw[h1] at he;try simp only[↓QA,QB,seval,aG]
  (refine bC (kQ 0 (c.heat.length:Int) [x.frm] (by simp)) (by simp[clr,clrs,ints]) (by simp[okV,okVs]) ?_;try simp only[↓QA,QB,seval,aG,BI])
  cases h2:inR x.frm 0 c.heat.length
  ·rw[h2] at he;try simp only[↓QA,QB,seval,aG]
   refine cY _ rfl ?_;rw[he];try simp only[QS,QC,seval,aG,reduceCtorEq]
   try rfl
  ·rw[h2] at he;try simp only[↓QA,QB,seval,aG]
   (refine aC (hwd) rfl dd ?_;try simp only[↓QA,QB,seval,aG])
   refine cY _ rfl ?_;rw[he];try simp only[QS,QC,seval,aG,reduceCtorEq]
   try rfl
theorem aCW(c:Car)(hf:Fits c)(x:Seen):gB T (.func 403 [] [.ptr 0 0]) [gL x] [.cells (aY c),.cells (gL x).cells] (.int .i64 (s9 c 0 x)):=by
 refine dM (af:=U3) rfl (by simp[U3]) ?_;have hfo:=hf.lots;have hws:IntKind.i64.wrap ((c.lots.length:Int)-1)=(c.lots.length:Int)-1:=bD ⟨by omega,by omega⟩;have he:s9 c 0 x=if inR x.lot 0 ((c.lots.length:Int)-1)=false then 4 else if inR x.hour (lotFrm c x.lot.toNat) c.heat.length then 0 else 7:=rfl
 obtain⟨E,hE⟩:∃ E,s9 c 0 x=E:=⟨_,rfl⟩;rw[hE] at he ⊢
 (repeat (first|simp only[↓QA,QB,seval,aG,U3,hws]|refine rd0 rfl ?_))
 ((first|refine bC (kQ 0 ((c.lots.length:Int)-1) [x.lot] (by simp)) (by simp[clr,clrs,ints]) (by simp[okV,okVs]) ?_|refine iT (kQ 0 ((c.lots.length:Int)-1) [x.lot] (by simp)) (by simp[clr,clrs,ints]) (by simp[okV,okVs]) ?_);(repeat (first|simp only[↓QA,QB,seval,aG,BI]|refine rd0 rfl ?_)))
 cases h1:inR x.lot 0 ((c.lots.length:Int)-1)
 ·rw[h1] at he
  (repeat (first|simp only[↓QA,QB,seval,aG]|refine rd0 rfl ?_))
  refine cY _ rfl ?_;rw[he];try simp only[QS,QC,seval,aG,reduceCtorEq]
  try rfl
 ·rw[h1] at he;rw[cG] at h1;obtain⟨l,hl⟩:∃ l:Nat,x.lot=l:=⟨x.lot.toNat,by omega⟩;have hlc:l<c.lots.length:=by omega
  rw[hl,Int.toNat_natCast,MV hlc] at he;obtain⟨y,hy⟩:∃ y,c.lots[l]=y:=⟨_,rfl⟩;rw[hy] at he
  (repeat (first|simp only[↓QA,QB,seval,aG,hl,hlc,hy]|refine rd0 rfl ?_))
  ((first|refine bC (kQ y.frm (c.heat.length:Int) [x.hour] (by simp)) (by simp[clr,clrs,ints]) (by simp[okV,okVs]) ?_|refine iT (kQ y.frm (c.heat.length:Int) [x.hour] (by simp)) (by simp[clr,clrs,ints]) (by simp[okV,okVs]) ?_);(repeat (first|simp only[↓QA,QB,seval,aG,BI,hl,hlc,hy]|refine rd0 rfl ?_)))
  cases h2:inR x.hour y.frm c.heat.length;all_goals
   rw[h2] at he
   (repeat (first|simp only[↓QA,QB,seval,aG]|refine rd0 rfl ?_))
   refine cY [.cells [.int .i64 l,.int .i64 x.hour,.bool x.turned]] (by rw[hl];rfl) ?_;rw[he];try simp only[QS,QC,seval,aG,reduceCtorEq,hl]
   try rfl
end Go.Am.Room.Tu
namespace Go.Am.Room.Tu
def dS:=zz @nS (zz @mX (zz @gH (zz @fJ (zz @aK (zz @gJ (zz @fB (@fA)))))))
theorem tZ(c:Car)(hf:Fits c):cZ T 282 [i9 c] (enc3 (check c)):=by
 refine aX (af:=WX) rfl (by simp[WX]) dd ?_;have g1:=hf.heat
 have g2:=hf.holds;have g3:=hf.lots;have g4:=hf.seen;try simp only[↓QA,QB,seval,dS,WX]
 have f1:=uX [.cells (aY c)] (.func 397 [] []) c.heat 0 8 tR g1 (fun τ=>by try simp only[QS,QC,seval,dS,List.length_append]) fun i hi=>HA c.heat[i] _
 have f2:=HF [.cells (aY c)] (.func 399 [] []) c.holds 1 3 yC g2 (fun τ=>by try simp only[QS,QC,seval,dS,List.length_append]) fun i hi=>HD c.holds[i] _
 have f3:=JH [.cells (aY c)] (.func 401 [] [.ptr 0 0]) c.lots 0 4 (tD c) g3 (fun τ=>by try simp only[QS,QC,seval,dS,List.length_append]) fun i hi=>G5 c hf c.lots[i]
 have f4:=H3 [.cells (aY c)] (.func 403 [] [.ptr 0 0]) c.seen 0 4 (s9 c) g4 (fun τ=>by try simp only[QS,QC,seval,dS,List.length_append]) fun i hi=>aCW c hf c.seen[i]
 try simp only[↓QA,QB,seval,dS] at f1 f2 f3 f4
 refine bJ f1 ?_;try simp only[↓QA,QB,seval,dS,jI]
 have n0:∀ {e:Int},e≠0->(e==0)=false:=fun h=>by simpa using h
 by_cases h1:8<c.heat.length
 ·have hi:inR c.heat.length 0 8=false:=by simp[inR];omega
  have e1:aQ 0 8 tR c.heat=(0,3):=by simp only[aQ,hi,if_true]
  have e2:check c=(1,0,3):=by simp only[check,h1,if_true]
  rw[e1,e2];try simp only[↓QA,QB,seval,dS,show ((3:Int)==0)=false from rfl,enc3]
 have i1:inR c.heat.length 0 8=true:=by simp[inR];omega
 cases h2:aO tR c.heat 0 with
 |some p =>
  obtain⟨i,e⟩:=p;have hne:=n0 (cQ h2);have e1:aQ 0 8 tR c.heat=((i:Int),e):=by simp only[aQ,i1,h2];rfl
  have e2:check c=(1,(i:Int),e):=by simp only[check,h1,h2];rfl
  rw[e1,e2];try simp only[↓QA,QB,seval,dS,hne,enc3]
 |none =>
 have e1:aQ 0 8 tR c.heat=(0,0):=by simp only[aQ,i1,h2];rfl
 have e2:check c=fX c:=by simp only[check,h1,h2];rfl
 rw[e1,e2];try simp only[↓QA,QB,seval,dS,show ((0:Int)==0)=true from rfl]
 (refine bC (kQ 0 3 [c.gas] (by simp)) (by simp[clr,clrs,ints]) (by simp[okV,okVs]) ?_;try simp only[↓QA,QB,seval,dS,BI])
 cases h3:inR c.gas 0 3
 ·have e2:fX c=(2,0,7):=by simp only[fX,h3,if_true]
  rw[e2];try simp only[↓QA,QB,seval,dS,enc3]
 have e2:fX c=gC c:=by simp only[fX,h3];rfl
 rw[e2];try simp only[↓QA,QB,seval,dS]
 refine bJ f2 ?_;try simp only[↓QA,QB,seval,dS,jI]
 cases i2:inR c.holds.length 1 3
 ·have e1:aQ 1 3 yC c.holds=(0,3):=by simp only[aQ,i2,if_true]
  have e2:gC c=(3,0,3):=by simp only[gC,i2,if_true]
  rw[e1,e2];try simp only[↓QA,QB,seval,dS,show ((3:Int)==0)=false from rfl,enc3]
 cases h4:aO yC c.holds 0 with
 |some p =>
  obtain⟨i,e⟩:=p;have hne:=n0 (cQ h4);have e1:aQ 1 3 yC c.holds=((i:Int),e):=by simp only[aQ,i2,h4];rfl
  have e2:gC c=(3,(i:Int),e):=by simp only[gC,i2,h4];rfl
  rw[e1,e2];try simp only[↓QA,QB,seval,dS,hne,enc3]
 |none =>
 have e1:aQ 1 3 yC c.holds=(0,0):=by simp only[aQ,i2,h4];rfl
 have e2:gC c=fH c:=by simp only[gC,i2,h4];rfl
 rw[e1,e2];try simp only[↓QA,QB,seval,dS,show ((0:Int)==0)=true from rfl]
 refine bJ f3 ?_;try simp only[↓QA,QB,seval,dS,jI]
 by_cases h5:4<c.lots.length
 ·have hi:inR c.lots.length 0 4=false:=by simp[inR];omega
  have e1:aQ 0 4 (tD c) c.lots=(0,3):=by simp only[aQ,hi,if_true]
  have e2:fH c=(4,0,3):=by simp only[fH,h5,if_true]
  rw[e1,e2];try simp only[↓QA,QB,seval,dS,show ((3:Int)==0)=false from rfl,enc3]
 have i3:inR c.lots.length 0 4=true:=by simp[inR];omega
 cases h6:aO (tD c) c.lots 0 with
 |some p =>
  obtain⟨i,e⟩:=p;have hne:=n0 (cQ h6);have e1:aQ 0 4 (tD c) c.lots=((i:Int),e):=by simp only[aQ,i3,h6];rfl
  have e2:fH c=(4,(i:Int),e):=by simp only[fH,h5,h6];rfl
  rw[e1,e2];try simp only[↓QA,QB,seval,dS,hne,enc3]
 |none =>
 have e1:aQ 0 4 (tD c) c.lots=(0,0):=by simp only[aQ,i3,h6];rfl
 have e2:fH c=fI c:=by simp only[fH,h5,h6];rfl
 rw[e1,e2];try simp only[↓QA,QB,seval,dS,show ((0:Int)==0)=true from rfl]
 refine bJ f4 ?_;try simp only[↓QA,QB,seval,dS,jI]
 by_cases h7:4<c.seen.length
 ·have hi:inR c.seen.length 0 4=false:=by simp[inR];omega
  have e1:aQ 0 4 (s9 c) c.seen=(0,3):=by simp only[aQ,hi,if_true]
  have e2:fI c=(5,0,3):=by simp only[fI,h7,if_true]
  rw[e1,e2];try simp only[↓QA,QB,seval,dS,show ((3:Int)==0)=false from rfl,enc3]
 have i4:inR c.seen.length 0 4=true:=by simp[inR];omega
 cases h8:aO (s9 c) c.seen 0 with
 |some p =>
  obtain⟨i,e⟩:=p;have hne:=n0 (cQ h8);have e1:aQ 0 4 (s9 c) c.seen=((i:Int),e):=by simp only[aQ,i4,h8];rfl
  have e2:fI c=(5,(i:Int),e):=by simp only[fI,h7,h8];rfl
  rw[e1,e2];try simp only[↓QA,QB,seval,dS,hne,enc3]
 |none =>
 have e1:aQ 0 4 (s9 c) c.seen=(0,0):=by simp only[aQ,i4,h8];rfl
 have e2:fI c=(0,0,0):=by simp only[fI,h7,h8];rfl
 rw[e1,e2];try simp only[↓QA,QB,seval,dS,show ((0:Int)==0)=true from rfl,enc3]
end Go.Am.Room.Tu
namespace Go.Am.Room
theorem nQ{a:Nat}(h:a<9223372036854775808):(BitVec.ofInt 64 (a:Int)).toNat=a:=by
 rw[BitVec.toNat_ofInt];omega
theorem VU(a b:Nat)(ha:a<9223372036854775808)(hb:b<9223372036854775808):dD .and (.int .i64 (a:Int)) (.int .i64 (b:Int))=some (.int .i64 ((a &&& b:Nat):Int)):=by
 have h1:(BitVec.ofInt 64 (a:Int) &&& BitVec.ofInt 64 (b:Int)).toNat=a &&& b:=by rw[BitVec.toNat_and,nQ ha,nQ hb]
 have h2:a &&& b<=a:=Nat.and_le_left;have h3:Go.Am.bits .and .i64 (a:Int) (b:Int)=((a &&& b:Nat):Int):=by
  show IntKind.i64.wrap (((BitVec.ofInt 64 (a:Int) &&& BitVec.ofInt 64 (b:Int)).toNat:Nat):Int)=_
  rw[h1];exact bD ⟨by omega,by omega⟩
 simp[dD,fP,h3]
theorem aHI(a b:Nat)(ha:a<4611686018427387904)(hb:b<4611686018427387904):dD .or (.int .i64 (a:Int)) (.int .i64 (b:Int))=some (.int .i64 ((a|||b:Nat):Int)):=by
 have h1:(BitVec.ofInt 64 (a:Int)|||BitVec.ofInt 64 (b:Int)).toNat=a|||b:=by rw[BitVec.toNat_or,nQ (by omega),nQ (by omega)]
 have h2:a|||b<2^62:=Nat.or_lt_two_pow (by omega) (by omega);have h3:Go.Am.bits .or .i64 (a:Int) (b:Int)=((a|||b:Nat):Int):=by
  show IntKind.i64.wrap (((BitVec.ofInt 64 (a:Int)|||BitVec.ofInt 64 (b:Int)).toNat:Nat):Int)=_
  rw[h1];exact bD ⟨by omega,by omega⟩
 simp[dD,fP,h3]
def lY(a b:Nat):Nat:=a &&& (2^64-(b+1))
theorem ZS{b:Nat}(hb:b<9223372036854775808)(a i:Nat)(ha:a<9223372036854775808):(lY a b).testBit i=(a.testBit i&&!b.testBit i):=by
 rw[lY,Nat.testBit_and,Nat.testBit_two_pow_sub_succ (by omega)];by_cases hi:i<64
 ·simp[hi]
 ·have:a.testBit i=false:=Nat.testBit_lt_two_pow (Nat.lt_of_lt_of_le (show a<2^63 by omega) (Nat.pow_le_pow_right (by omega) (by omega)));simp[this]
theorem PB(a b:Nat):lY a b<=a:=Nat.and_le_left
theorem WC(a b:Nat)(ha:a<9223372036854775808)(hb:b<9223372036854775808):dD .andNot (.int .i64 (a:Int)) (.int .i64 (b:Int))=some (.int .i64 ((lY a b:Nat):Int)):=by
 have h1:(BitVec.ofInt 64 (a:Int) &&& ~~~BitVec.ofInt 64 (b:Int)).toNat=lY a b:=by
  rw[BitVec.toNat_and,BitVec.toNat_not,nQ ha,nQ hb,lY]
  congr 1
  omega
 have h2:=PB a b;have h3:Go.Am.bits .andNot .i64 (a:Int) (b:Int)=((lY a b:Nat):Int):=by
  show IntKind.i64.wrap (((BitVec.ofInt 64 (a:Int) &&& ~~~BitVec.ofInt 64 (b:Int)).toNat:Nat):Int)=_
  rw[h1];exact bD ⟨by omega,by omega⟩
 simp[dD,fP,h3]
theorem zE{i:Nat}(h:i<=60):2^i<=1152921504606846976:=by
 calc 2^i<=2^60:=Nat.pow_le_pow_right (by omega) h
  _=1152921504606846976:=by decide
theorem C5(i:Nat)(h:i<=60):dD .shl (.int .i64 1) (.int .i64 (i:Int))=some (.int .i64 ((2^i:Nat):Int)):=by
 have hm:Nat.min i 64=i:=Nat.min_eq_left (by omega);have h0:¬(i:Int)<0:=by omega
 have hp:=zE h;have hc:(1:Int)*2^i=((2^i:Nat):Int):=by rw[Int.one_mul];exact (Int.natCast_pow 2 i).symm
 simp only[dD,h0,if_false,IntKind.bits,Int.toNat_natCast,hm,hc];generalize 2^i=q at hp;rw[bD ⟨by omega,by omega⟩]
theorem nI(a i:Nat):a.testBit i=decide (a/2^i%2=1):=Nat.testBit_eq_decide_div_mod_eq
theorem U4{a b:Nat}:a &&& b=0↔∀ i,¬(a.testBit i=true/\b.testBit i=true):=by
 constructor
 ·intro h i hi;have:=congrArg (fun x=>x.testBit i) h;simp[Nat.testBit_and,hi.1,hi.2] at this
 ·intro h;refine Nat.eq_of_testBit_eq fun i=>?_
  rw[Nat.testBit_and,Nat.zero_testBit];have:=h i;cases h1:a.testBit i<;>cases h2:b.testBit i<;>simp_all
theorem V2{a k:Nat}:a &&& (2^k-1)=0↔∀ i,i<k->a.testBit i=false:=by
 rw[U4];constructor
 ·intro h i hi;have:=h i;rw[Nat.testBit_two_pow_sub_one] at this;simpa[hi] using this
 ·intro h i hi;rw[Nat.testBit_two_pow_sub_one] at hi;have h2:i<k:=by simpa using hi.2
  rw[h i h2] at hi;simp at hi
end Go.Am.Room
namespace Go.Am.Room.Tu
def tb(c:Car)(m:Nat):List AV:=aY c++[.int .i64 0,.map m]
theorem KP(c:Car)(m:Nat):(tb c m)[0]? = some (.lit (c.heat.map (.int .i64)) false none):=by simp[tb,aY]
theorem JX(c:Car)(m:Nat):(tb c m)[1]? = some (.int .i64 c.gas):=by simp[tb,aY]
theorem KK(c:Car)(m:Nat):(tb c m)[2]? = some (.lit (c.holds.map eM) false none):=by simp[tb,aY]
theorem JR(c:Car)(m:Nat):(tb c m)[3]? = some (.lit (c.lots.map iM) false none):=by simp[tb,aY]
theorem MB(c:Car)(m:Nat):(tb c m)[4]? = some (.lit (c.seen.map gL) false none):=by simp[tb,aY]
theorem IX(c:Car)(m:Nat):(tb c m)[5]? = some (.int .i64 0):=by simp[tb,aY]
theorem KY(c:Car)(m:Nat):(tb c m)[6]? = some (.map m):=by simp[tb,aY]
def hrs(f:Nat->Int):List AV:=nV 5 f
theorem aFZ(f:Nat->Int):hrs f=[.int .i64 (f 0),.int .i64 (f 1),.int .i64 (f 2),.int .i64 (f 3),.int .i64 (f 4)]:=by simp[hrs,nV,List.range_succ]
theorem z5:hrs (fun _=>0)=[.int .i64 0,.int .i64 0,.int .i64 0,.int .i64 0,.int .i64 0]:=aFZ _
theorem pK(f:Nat->Int):(hrs f).length=5:=nY _ _
theorem y9(f:Nat->Int){i:Nat}(h:i<5):(hrs f)[i]? = some (.int .i64 (f i)):=CR 5 _ h
theorem zO{f g:Nat->Int}(h:∀ i,i<5->f i=g i):hrs f=hrs g:=N0 h
theorem GY(f:Nat->Int)(v:Int){i:Nat}(h:i<5):(hrs f).take i++[AV.int .i64 v]++(hrs f).drop (i+1)=hrs (nE f i v):=U7 5 _ _ h
theorem mY(f:Nat->Int):aZ (hrs f)=true:=RB _ _
theorem mZ(f:Nat->Int):(hrs f).take 5=hrs f:=SI 5 _
theorem mU(f:Nat->Int):(hrs f).drop 5=[]:=RI 5 _
theorem oO(f:Nat->Int)(m:Nat):okVs m (hrs f):=aEX _ _ _
theorem wB(f:Nat->Int)(σ:St)(m d:Nat):bT σ m d (hrs f)=some (hrs f):=aJ5 _ _ _ _ _
instance (f:Nat->Int):Dats (hrs f):=⟨oS _ _⟩
abbrev Gr:=Int×Int×Int×Int×Int
instance gr_eq:DecidableEq Gr:=inferInstanceAs (DecidableEq (Int×Int×Int×Int×Int))
abbrev Ky:=Int×Int×Gr×Nat
instance ky_eq:DecidableEq Ky:=inferInstanceAs (DecidableEq (Int×Int×Gr×Nat))
def kG(w:Ky):Nat->Int:=gF [w.2.2.1.1,w.2.2.1.2.1,w.2.2.1.2.2.1,w.2.2.1.2.2.2.1,w.2.2.1.2.2.2.2]
def sC(hd wm:Int)(g:Nat->Int)(th:Nat):Ky:=(hd,wm,(g 0,g 1,g 2,g 3,g 4),th)
theorem aN7(hd wm:Int)(g:Nat->Int)(th:Nat){i:Nat}(h:i<5):kG (sC hd wm g th) i=g i:=by
 have:i=0\/i=1\/i=2\/i=3\/i=4:=by omega
 rcases this with rfl|rfl|rfl|rfl|rfl<;>rfl
def bL(w:Ky):List AV:=[.int .i64 w.1,.int .i64 w.2.1,.int .i64 w.2.2.1.1,.int .i64 w.2.2.1.2.1,.int .i64 w.2.2.1.2.2.1,.int .i64 w.2.2.1.2.2.2.1,.int .i64 w.2.2.1.2.2.2.2,.int .i64 (w.2.2.2:Int)]
def mV(w:Ky):AV:=.agg (bL w)
theorem qK(w:Ky):mV w = .agg (bL w):=by simp only[mV]
theorem P8(w:Ky):jS (mV w):=iG (aD (aM _ _) (aD (aM _ _) (aD (aM _ _) (aD (aM _ _) (aD (aM _ _) (aD (aM _ _) (aD (aM _ _) (aD (aM _ _) cM))))))))
instance (w:Ky):Dat (mV w):=⟨P8 w⟩
def kyT(c:Car)(w:Ky):Nat->Int:=aAS c (fun i=>w.2.2.2.testBit i) w.2.1 (kG w)
def HE(c:Car)(w:Ky):AV:=.agg (hrs (kyT c w))
theorem yI(c:Car)(w:Ky):HE c w = .agg (hrs (kyT c w)):=by simp only[HE]
theorem PO(c:Car)(w:Ky):jS (HE c w):=iG (oS _ _)
instance (c:Car) (w:Ky):Dat (HE c w):=⟨PO c w⟩
theorem IQ(c:Car):KeyIs (.agg [.i,.i,.i,.i,.i,.i,.i,.i]) mV (HE c) where
 eq:=fun ⟨a1,a2,⟨a3,a4,a5,a6,a7⟩,a8⟩ ⟨b1,b2,⟨b3,b4,b5,b6,b7⟩,b8⟩=>by
  simp only[iX,mV,bL,GW,HO,QW,GX]
  congr 1
  rw[Bool.eq_iff_iff];simp[Prod.mk.injEq];omega
 dk:=P8
 dv:=PO c
abbrev kEs(c:Car):List Ky->List (AV×AV):=sZ mV (HE c)
def n6(c:Car)(hd:Int):Nat->Nat
 |0=>0
 |n+1=>if inHold c hd n=true then n6 c hd n|||2^n else n6 c hd n
def lU(c:Car)(hd:Int):Nat:=n6 c hd c.lots.length
theorem D6(c:Car)(hd:Int):∀ n,n6 c hd n<2^n
 |0=>by simp[n6]
 |n+1=>by
  have h:=D6 c hd n;have h1:2^n<2^(n+1):=Nat.pow_lt_pow_right (by omega) (by omega);simp only[n6];split
  ·exact Nat.or_lt_two_pow (by omega) h1
  ·omega
theorem FL(c:Car)(hd:Int)(i:Nat):∀ n,(n6 c hd n).testBit i=(decide (i<n)&&inHold c hd i)
 |0=>by simp[n6]
 |n+1=>by
  have h:=FL c hd i n;simp only[n6];by_cases e:i=n
  ·subst e;cases hi:inHold c hd i
   ·rw[if_neg (by simp),h,hi];simp
   ·rw[if_pos rfl,Nat.testBit_or,h,hi,Nat.testBit_two_pow_self];simp
  ·have h1:decide (i<n+1)=decide (i<n):=by
    rw[Bool.eq_iff_iff];simp;omega
   rw[h1];split
   ·rw[Nat.testBit_or,h,Nat.testBit_two_pow_of_ne (fun q=>e q.symm)];simp
   ·exact h
theorem GO(c:Car)(hd:Int)(i:Nat):(lU c hd).testBit i=inHold c hd i:=by
 rw[lU,FL];by_cases h:i<c.lots.length
 ·simp[h]
 ·simp[h,inHold,List.getElem?_eq_none (show c.lots.length<=i by omega)]
theorem K0{c:Car}(hv:Vd c)(hd:Int):lU c hd<16:=by
 have h1:=D6 c hd c.lots.length;have h2:2^c.lots.length<=2^4:=Nat.pow_le_pow_right (by omega) hv.nlt;simp only[lU];omega
def ptT(c:Car)(ls:Nat->Bool)(w:Int)(g:Nat->Int)(h k:Nat)(i:Nat):Int:=if i<k then eH c ls w g i (h+1) else eH c ls w g i h
def lfA(c:Car)(ls:Nat->Bool)(w:Int)(g:Nat->Int)(h:Nat)(i:Nat):Int:=if i<c.lots.length then leftTo c ls w g h i else g i
def lfT(c:Car)(ls:Nat->Bool)(w:Int)(g:Nat->Int)(h k:Nat)(i:Nat):Int:=if i<k then lfA c ls w g (h+1) i else lfA c ls w g h i
def gsT(c:Car)(ls:Nat->Bool)(w:Int)(g:Nat->Int)(h k:Nat):Int:=if (List.range k).any (turnAt c ls w g h)=true then c.gas else 0
section
variable {c:Car} {ls:Nat->Bool} {w:Int} {g:Nat->Int} {h k:Nat}
theorem aQ4:ptT c ls w g h 0=fun i=>eH c ls w g i h:=by funext i;simp[ptT]
theorem aH6:hrs (ptT c ls w g h c.lots.length)=hrs (fun i=>eH c ls w g i (h+1)):=zO fun i _=>by
 simp only[ptT];split
 ·rfl
 ·rename_i hi;have:turnAt c ls w g h i=false:=by simp[turnAt,isTurned,hi]
  simp[eH,this]
theorem aNK(hk:turnAt c ls w g h k=false):ptT c ls w g h (k+1)=ptT c ls w g h k:=by
 funext i;simp only[ptT];by_cases e:i=k
 ·subst e;simp[eH,hk]
 ·by_cases e2:i<k
  ·simp[e2,show i<k+1 by omega]
  ·simp[e2,show ¬i<k+1 by omega]
theorem aMD:ptT c ls w g h k k=eH c ls w g k h:=by simp[ptT]
theorem aJR(hk:turnAt c ls w g h k=true):nE (ptT c ls w g h k) k (min (eH c ls w g k h) h)=ptT c ls w g h (k+1):=by
 funext i;simp only[ptT,nE];by_cases e:i=k
 ·subst e;simp[eH,hk]
 ·by_cases e2:i<k
  ·simp[e,e2,show i<k+1 by omega]
  ·simp[e,e2,show ¬i<k+1 by omega]
theorem aTM:gsT c ls w g h 0=0:=by simp[gsT]
theorem aL3(hk:turnAt c ls w g h k=false):gsT c ls w g h (k+1)=gsT c ls w g h k:=by simp[gsT,List.range_succ,List.any_append,hk]
theorem aHM(hk:turnAt c ls w g h k=true):gsT c ls w g h (k+1)=c.gas:=by simp[gsT,List.range_succ,List.any_append,hk]
theorem aKD:gsT c ls w g h c.lots.length=gasAt c ls h (leftTo c ls w g h):=rfl
theorem aT9:hrs (lfA c ls w g 0)=hrs g:=zO fun i _=>by simp only[lfA,leftTo];split<;>rfl
theorem aTL:lfT c ls w g h 0=lfA c ls w g h:=by funext i;simp[lfT]
theorem aIK:lfT c ls w g h c.lots.length=lfA c ls w g (h+1):=by
 funext i;simp only[lfT,lfA];by_cases e:i<c.lots.length<;>simp[e]
theorem aNL:lfT c ls w g h k k=lfA c ls w g h k:=by simp[lfT]
theorem WT(hk:k<c.lots.length):lfA c ls w g h k=leftTo c ls w g h k:=by simp[lfA,hk]
theorem aNB(hk:k<c.lots.length)(hn:¬(lotFrm c k<=h/\0<leftTo c ls w g h k)):lfT c ls w g h (k+1)=lfT c ls w g h k:=by
 funext i;simp only[lfT];by_cases e:i=k
 ·subst e;simp[lfA,hk,leftTo,hn]
 ·by_cases e2:i<k
  ·simp[e2,show i<k+1 by omega]
  ·simp[e2,show ¬i<k+1 by omega]
theorem aIS(hk:k<c.lots.length)(hn:lotFrm c k<=h/\0<leftTo c ls w g h k):nE (lfT c ls w g h k) k (leftTo c ls w g h k-(heatAt c h+w+gasAt c ls h (leftTo c ls w g h)))=lfT c ls w g h (k+1):=by
 funext i;simp only[lfT,nE];by_cases e:i=k
 ·subst e;simp[lfA,hk,leftTo,hn]
 ·by_cases e2:i<k
  ·simp[e,e2,show i<k+1 by omega]
  ·simp[e,e2,show ¬i<k+1 by omega]
end
structure KyOk (w:Ky):Prop where
 warm:0<=w.2.1/\w.2.1<=6
 green:∀ i,0<=kG w i/\kG w i<=40
 there:w.2.2.2<32
end Go.Am.Room.Tu
namespace Go.Am.Room.Tu
def lI:=zz @gH (zz @fJ (zz @aK (zz @gJ (zz @fB (zz @fA (zz @List.length_append.{0} (zz @KP (zz @JX (zz @KK (zz @JR (zz @MB (zz @IX (zz @KY (zz @dA (zz @Nat.add_lt_add_iff_left (zz @Nat.lt_add_right_iff_pos (zz @Nat.mul_one (zz @Int.toNat_natCast (zz @pK (zz @mZ (zz @mU (zz @mY (@wB)))))))))))))))))))))))
theorem F4{S:List Ky->St}{c:Car}{p m N:Nat}(hR:MemAt S (tb c m) (kEs c) p m N)(hv:Vd c)(M:List Ky):gB T (.func 147 [] []) [.ptr p 0] (S M) (.int .i64 (never c)):=by
 refine dM (af:=ZP) rfl (by simp[ZP]) ?_;have h:=hv.nht;have hw:IntKind.i64.wrap ((c.heat.length:Int)+1)=(c.heat.length:Int)+1:=bD ⟨by omega,by omega⟩;try simp only[↓QA,QB,seval,lI,hR.len,hR.base,hR.base0,hR.bset,hR.bset0,hR.at1,hR.at0,ZP,hw]
 refine cY [] (by first|rfl|simp) ?_;try simp only[QS,QC,seval,lI,hR.len,hR.base,hR.base0,hR.bset,hR.bset0,hR.at1,hR.at0,never]
theorem aH2{S:List Ky->St}{c:Car}{p m N:Nat}(hR:MemAt S (tb c m) (kEs c) p m N)(hv:Vd c)(M:List Ky)(hd:Int):gB T (.func 277 [] []) [.ptr p 0,.int .i64 hd] (S M) (.int .i64 (lU c hd)):=by
 refine dM (af:=UE) rfl (by simp[UE]) ?_;have hnl:=hv.nlt;try simp only[↓QA,QB,seval,lI,hR.len,hR.base,hR.base0,hR.bset,hR.bset0,hR.at1,hR.at0,UE]
 refine dQ (S:=Nat) 0 (fun k=>k<=c.lots.length) (fun k=>c.lots.length-k)
  (fun k=>[(1,.int .i64 hd),(4,.int .i64 (n6 c hd k)),(11,.lit (c.lots.map iM) false none),(12,.int .i64 c.lots.length),(13,.int .i64 k)]) (fun _=>S M) (Nat.zero_le _) rfl ?_ fun k hk=>?_
 ·try simp only[aB,QE,seval,lI,hR.len,hR.base,hR.base0,hR.bset,hR.bset0,hR.at1,hR.at0]
  try simp[n6]
 try simp only[↓QA,QB,seval,lI,hR.len,hR.base,hR.base0,hR.bset,hR.bset0,hR.at1,hR.at0,UA]
 refine aJ (fun h=>?_) fun h=>?_
 ·have hk1:k<c.lots.length:=by simpa using h
  have hw:=dB hk1 (by omega);have hat:=G7 hk1 hd;have hsu:n6 c hd (k+1)=if inHold c hd k=true then n6 c hd k|||2^k else n6 c hd k:=rfl
  have hlt:=D6 c hd k;have hp:2^k<=2^3:=Nat.pow_le_pow_right (by omega) (by omega);have hsh:=C5 k (by omega);have hor:=aHI (n6 c hd k) (2^k) (by omega) (by omega);obtain⟨x,hx⟩:∃ x,c.lots[k]=x:=⟨_,rfl⟩;rw[hx] at hat
  rw[hat] at hsu;cases h1:(x.hold==hd)
  ·have h1':¬x.hold=hd:=by simpa using h1
   simp only[h1',decide_false,Bool.false_eq_true,if_false] at hsu;try simp only[↓QA,QB,seval,lI,hR.len,hR.base,hR.base0,hR.bset,hR.bset0,hR.at1,hR.at0,hk1,hx,h1]
   refine⟨k+1,by omega,by omega,?_⟩;try simp only[aB,QE,seval,lI,hR.len,hR.base,hR.base0,hR.bset,hR.bset0,hR.at1,hR.at0,hw,hsu]
   try simp[aU,okVs,okV]
   try omega
  ·have h1':x.hold=hd:=by simpa using h1
   simp only[h1',decide_true,if_true] at hsu;try simp only[↓QA,QB,seval,lI,hR.len,hR.base,hR.base0,hR.bset,hR.bset0,hR.at1,hR.at0,hk1,hx,h1,hsh,hor]
   refine⟨k+1,by omega,by omega,?_⟩;try simp only[aB,QE,seval,lI,hR.len,hR.base,hR.base0,hR.bset,hR.bset0,hR.at1,hR.at0,hw,hsu]
   try simp[aU,okVs,okV]
   try omega
 ·have hk1:k=c.lots.length:=by simp at h;omega
  try simp only[↓QA,QB,seval,lI,hR.len,hR.base,hR.base0,hR.bset,hR.bset0,hR.at1,hR.at0]
  refine cY [] (by first|rfl|simp) ?_;rw[hk1];try simp only[QS,QC,seval,lI,hR.len,hR.base,hR.base0,hR.bset,hR.bset0,hR.at1,hR.at0,lU]
end Go.Am.Room.Tu
namespace Go.Am.Room.Tu
def bV:=zz @gH (zz @fJ (zz @aK (zz @gJ (zz @fB (zz @fA (zz @List.length_append.{0} (zz @KP (zz @JX (zz @KK (zz @JR (zz @MB (zz @IX (zz @KY (zz @dA (zz @Nat.add_lt_add_iff_left (zz @Nat.lt_add_right_iff_pos (zz @Nat.mul_one (zz @Int.toNat_natCast (zz @pK (zz @mZ (zz @mU (zz @mY (@wB)))))))))))))))))))))))
theorem gZ(w:Ky):(bL w)[1]? = some (.int .i64 w.2.1):=rfl
theorem hJ(w:Ky):(bL w)[7]? = some (.int .i64 (w.2.2.2:Int)):=rfl
theorem cH(w:Ky):(bL w).length=8:=rfl
theorem bH(w:Ky):aZ (bL w)=true:=by simp[bL,aZ,AV.cell]
theorem dY(w:Ky):(bL w).take 8=bL w:=rfl
theorem dX(w:Ky):(bL w).drop 8=[]:=rfl
theorem iA(w:Ky):((bL w).drop 2).take 5=hrs (kG w):=by rw[aFZ];rfl
theorem iB(w:Ky)(σ:St)(m d:Nat):bT σ m d (bL w)=some (bL w):=gQ (aD (aM _ _) (aD (aM _ _) (aD (aM _ _) (aD (aM _ _) (aD (aM _ _) (aD (aM _ _) (aD (aM _ _) (aD (aM _ _) cM)))))))) σ m d
theorem y6(w:Ky)(k:Nat):okVs k (bL w):=by simp[bL,okVs,okV]
def H8(n:Int)(k i:Nat):Int:=if i<k then n else 0
theorem aNC(n:Int):H8 n 0=fun _=>0:=by funext i;simp[H8]
theorem aEJ(n:Int)(k:Nat):nE (H8 n k) k n=H8 n (k+1):=by
 funext i;simp only[nE,H8];by_cases e:i=k
 ·subst e;simp
 ·by_cases e2:i<k
  ·simp[e,e2,show i<k+1 by omega]
  ·simp[e,e2,show ¬i<k+1 by omega]
theorem aDI(c:Car)(ls:Nat->Bool)(w:Int)(g:Nat->Int):hrs (H8 (never c) 5)=hrs (fun i=>eH c ls w g i 0):=zO fun i hi=>by simp[H8,hi,eH]
set_option maxHeartbeats 4000000 in
theorem CO{S:List Ky->St}{c:Car}{p m N:Nat}(hR:MemAt S (tb c m) (kEs c) p m N)(hv:Vd c)(M:List Ky)(w:Ky)(hw:KyOk w):
  mH T (.func 273 [] []) [.ptr p 0,mV w] (S M) (HE c w) (S (bA M w)):=by
 have hnh:=hv.nht;have hnl:=hv.nlt;have hpl:=hR.pl;have hgas:=hv.gas;obtain⟨hwm,hgr,hth⟩:=hw;have hl1:=fun τ=>aB0 (IQ c) hR M τ w
 have hnev:=fun τ=>F4 (hR.app τ) hv M
 refine nO hR (af:=aBL) rfl (by simp[aBL]) ?_;simp only[qK,yI] at hl1 ⊢
 (repeat (first|simp only[↓QA,QB,reduceLT,reduceIte,reduceEqDiff,reduceAdd,reduceLeDiff,reduceMul,Nat.reduceBEq,bV,hR.len,hR.base,hR.base0,hR.bset,hR.bset0,hR.at1,hR.at0,gZ,hJ,cH,bH,dY,dX,iA,iB,aBL]|refine rd0 rfl ?_))
 refine uH [.cells (hrs fun _=>0)] rfl ?_;by_cases hm:w∈M
 ·have hst:bA M w=M:=by simp[bA,hm]
  rw[hst];simp only[hm,if_true] at hl1
  (repeat (first|simp only[↓QA,QB,reduceLT,reduceIte,reduceEqDiff,reduceAdd,reduceLeDiff,reduceMul,Nat.reduceBEq,bV,hR.len,hR.base,hR.base0,hR.bset,hR.bset0,hR.at1,hR.at0,gZ,hJ,cH,bH,dY,dX,iA,iB,hl1,B4,B7,<-z5]|refine rd0 rfl ?_))
  refine⟨_,_,rfl,rfl,?_⟩;try simp only[QS,QC,reduceLT,reduceIte,reduceEqDiff,reduceAdd,reduceLeDiff,reduceMul,Nat.reduceBEq,bV,hR.len,hR.base,hR.base0,hR.bset,hR.bset0,hR.at1,hR.at0,gZ,hJ,cH,bH,dY,dX,iA,iB,wB]
 have hst:bA M w=M++[w]:=by simp[bA,hm]
 have hput:=fun τ=>aIU (IQ c) hR M τ w hm
 simp only[qK,yI] at hput;rw[hst];simp only[hm,if_false] at hl1
 (repeat (first|simp only[↓QA,QB,reduceLT,reduceIte,reduceEqDiff,reduceAdd,reduceLeDiff,reduceMul,Nat.reduceBEq,bV,hR.len,hR.base,hR.base0,hR.bset,hR.bset0,hR.at1,hR.at0,gZ,hJ,cH,bH,dY,dX,iA,iB,hl1,B4,B7,<-z5]|refine rd0 rfl ?_))
 refine dQ (S:=Nat) 0 (fun k=>k<=5) (fun k=>5-k)
  (fun k=>[(0,.ptr p 0),(3,.ptr N 0),(4,.ptr (N+1) 0),(7,.ptr (N+3) 0),(27,.int .i64 k)])
  (fun k=>S M++[.cells (bL w),.cells (hrs fun _=>0),.cells (hrs fun _=>0),.cells (hrs (H8 (never c) k))]) (Nat.zero_le _) (by rw[aNC]) ?_ fun k hk=>?_
 ·try simp only[aB,QE,reduceLT,reduceIte,reduceEqDiff,reduceAdd,reduceLeDiff,reduceMul,Nat.reduceBEq,bV,hR.len,hR.base,hR.base0,hR.bset,hR.bset0,hR.at1,hR.at0,gZ,hJ,cH,bH,dY,dX,iA,iB]
  try simp
 (repeat (first|simp only[↓QA,QB,reduceLT,reduceIte,reduceEqDiff,reduceAdd,reduceLeDiff,reduceMul,Nat.reduceBEq,bV,hR.len,hR.base,hR.base0,hR.bset,hR.bset0,hR.at1,hR.at0,gZ,hJ,cH,bH,dY,dX,iA,iB,YU]|refine rd0 rfl ?_))
 refine aJ (fun hd=>?_) fun hd=>?_
 ·have hk1:k<5:=by simp at hd;omega
  have hwk:=dB hk1 (by omega);have ik:(0:Int)<=(k:Int)/\(k:Int)<((5:Nat):Int):=⟨by omega,by omega⟩;have c4:k<=4:=by omega
  have hs:=GY (H8 (never c) k) (never c) hk1;rw[aEJ] at hs
  (repeat (first|simp only[↓QA,QB,reduceLT,reduceIte,reduceEqDiff,reduceAdd,reduceLeDiff,reduceMul,Nat.reduceBEq,bV,hR.len,hR.base,hR.base0,hR.bset,hR.bset0,hR.at1,hR.at0,gZ,hJ,cH,bH,dY,dX,iA,iB]|refine rd0 rfl ?_))
  refine bJ (hnev _) ?_
  (repeat (first|simp only[↓QA,QB,reduceLT,reduceIte,reduceEqDiff,reduceAdd,reduceLeDiff,reduceMul,Nat.reduceBEq,bV,hR.len,hR.base,hR.base0,hR.bset,hR.bset0,hR.at1,hR.at0,gZ,hJ,cH,bH,dY,dX,iA,iB,ik,c4,hs]|refine rd0 rfl ?_))
  refine⟨k+1,by omega,by omega,?_⟩;try simp only[aB,QE,reduceLT,reduceIte,reduceEqDiff,reduceAdd,reduceLeDiff,reduceMul,Nat.reduceBEq,bV,hR.len,hR.base,hR.base0,hR.bset,hR.bset0,hR.at1,hR.at0,gZ,hJ,cH,bH,dY,dX,iA,iB,hwk]
  try simp[aU,okVs,okV,oO,y6]
  try omega
 have hk1:k=5:=by simp at hd;omega
 subst hk1;have hwh1:IntKind.i64.wrap ((c.heat.length:Int)+1)=((c.heat.length+1:Nat):Int):=by rw[Int.natCast_add];exact bD ⟨by omega,by omega⟩
 rw[aDI c (fun i=>w.2.2.2.testBit i) w.2.1 (kG w)];have hlb:=fun i n=>PQ hv (fun i=>w.2.2.2.testBit i) hwm hgr i n
 have hbt:∀ i,i<5->((w.2.2.2/2^i%2:Nat):Int)=if w.2.2.2.testBit i=true then 1 else 0:=fun i _=>by
  rw[nI];simp only[decide_eq_true_eq];split<;>omega
 have hval:kyT c w=fun i=>eH c (fun i=>w.2.2.2.testBit i) w.2.1 (kG w) i (c.heat.length+1):=rfl
 rw[hval] at hput ⊢;obtain⟨G,hG⟩:∃ G,kG w=G:=⟨_,rfl⟩;obtain⟨ls,hls⟩:∃ ls:Nat->Bool,(fun i=>w.2.2.2.testBit i)=ls:=⟨_,rfl⟩;have hls':∀ i,w.2.2.2.testBit i=ls i:=fun i=>by rw[<-hls]
 obtain⟨W,hW⟩:∃ W,w.2.1=W:=⟨_,rfl⟩;simp only[hls'] at hbt;simp only[hls,hG,hW] at hput hlb ⊢;rw[hW] at hwm
 (repeat (first|simp only[↓QA,QB,reduceLT,reduceIte,reduceEqDiff,reduceAdd,reduceLeDiff,reduceMul,Nat.reduceBEq,bV,hR.len,hR.base,hR.base0,hR.bset,hR.bset0,hR.at1,hR.at0,gZ,hJ,cH,bH,dY,dX,iA,iB,hwh1,hG]|refine rd0 rfl ?_))
 refine dQ (S:=Nat) 0 (fun h=>h<=c.heat.length) (fun h=>c.heat.length+1-h)
  (fun h=>[(0,.ptr p 0),(3,.ptr N 0),(4,.ptr (N+1) 0),(7,.ptr (N+3) 0),(9,.ptr (N+4) 0),(43,.int .i64 (c.heat.length+1:Nat)),(44,.int .i64 h)])
  (fun h=>S M++[.cells (bL w),.cells (hrs fun _=>0),.cells (hrs fun _=>0),.cells (hrs (fun i=>eH c ls W G i h)),.cells (hrs (lfA c ls W G h))]) (Nat.zero_le _) (by rw[aT9]) ?_ fun h hh=>?_
 ·try simp only[aB,QE,reduceLT,reduceIte,reduceEqDiff,reduceAdd,reduceLeDiff,reduceMul,Nat.reduceBEq,bV,hR.len,hR.base,hR.base0,hR.bset,hR.bset0,hR.at1,hR.at0,gZ,hJ,cH,bH,dY,dX,iA,iB]
  try simp
 have hwh2:=dB (k:=h) (n:=c.heat.length+1) (by omega) (by omega);have gb:∀ k,0<=gsT c ls W G h k/\gsT c ls W G h k<=3:=fun k=>by
  unfold gsT;split<;>omega
 (repeat (first|simp only[↓QA,QB,reduceLT,reduceIte,reduceEqDiff,reduceAdd,reduceLeDiff,reduceMul,Nat.reduceBEq,bV,hR.len,hR.base,hR.base0,hR.bset,hR.bset0,hR.at1,hR.at0,gZ,hJ,cH,bH,dY,dX,iA,iB,YB]|refine rd0 rfl ?_))
 refine aJ (fun hd=>?_) fun hd=>?_
 rotate_left
 ·exfalso;simp at hd;omega
 (repeat (first|simp only[↓QA,QB,reduceLT,reduceIte,reduceEqDiff,reduceAdd,reduceLeDiff,reduceMul,Nat.reduceBEq,bV,hR.len,hR.base,hR.base0,hR.bset,hR.bset0,hR.at1,hR.at0,gZ,hJ,cH,bH,dY,dX,iA,iB]|refine rd0 rfl ?_))
 refine dQ (S:=Nat) 0 (fun k=>k<=c.lots.length) (fun k=>c.lots.length-k)
  (fun k=>[(0,.ptr p 0),(3,.ptr N 0),(4,.ptr (N+1) 0),(7,.ptr (N+3) 0),(9,.ptr (N+4) 0),(10,.int .i64 h),(11,.int .i64 (gsT c ls W G h k)),(43,.int .i64 (c.heat.length+1:Nat)),(44,.int .i64 h),(51,.lit (c.lots.map iM) false none),(52,.int .i64 c.lots.length),(53,.int .i64 k)])
  (fun k=>S M++[.cells (bL w),.cells (hrs fun _=>0),.cells (hrs fun _=>0),.cells (hrs (ptT c ls W G h k)),.cells (hrs (lfA c ls W G h))]) (Nat.zero_le _) (by rw[aQ4]) ?_ fun k hk=>?_
 ·try simp only[aB,QE,reduceLT,reduceIte,reduceEqDiff,reduceAdd,reduceLeDiff,reduceMul,Nat.reduceBEq,bV,hR.len,hR.base,hR.base0,hR.bset,hR.bset0,hR.at1,hR.at0,gZ,hJ,cH,bH,dY,dX,iA,iB,aTM]
  try simp
 ·(repeat (first|simp only[↓QA,QB,reduceLT,reduceIte,reduceEqDiff,reduceAdd,reduceLeDiff,reduceMul,Nat.reduceBEq,bV,hR.len,hR.base,hR.base0,hR.bset,hR.bset0,hR.at1,hR.at0,gZ,hJ,cH,bH,dY,dX,iA,iB,VO]|refine rd0 rfl ?_))
  refine aJ (fun hd2=>?_) fun hd2=>?_
  ·have hk1:k<c.lots.length:=by simpa using hd2
   have hwk:=dB hk1 (by omega);have ik:(0:Int)<=(k:Int)/\(k:Int)<((5:Nat):Int):=⟨by omega,by omega⟩;have c4:k<=4:=by omega
   have hfa:=MV hk1;have hin:=WT (c:=c) (ls:=ls) (w:=W) (g:=G) (h:=h) hk1;have hgl:=y9 (lfA c ls W G h) (i:=k) (by omega);have hgp:=y9 (ptT c ls W G h k) (i:=k) (by omega);rw[hin] at hgl;rw[aMD] at hgp;have hta:turnAt c ls W G h k=(ls k&&decide (lotFrm c k<=h)&&decide (leftTo c ls W G h k<=0)):=by simp[turnAt,isTurned,hk1]
   obtain⟨x,hx⟩:∃ x,c.lots[k]=x:=⟨_,rfl⟩;rw[hx] at hfa;rw[hfa] at hta;obtain⟨V,hV⟩:∃ V,leftTo c ls W G h k=V:=⟨_,rfl⟩;obtain⟨U,hU⟩:∃ U,eH c ls W G k h=U:=⟨_,rfl⟩;rw[hV] at hgl hta;rw[hU] at hgp;have hno:=fun q=>aNK (c:=c) (ls:=ls) (w:=W) (g:=G) (h:=h) (k:=k) q
   have hyes:=fun q=>aJR (c:=c) (ls:=ls) (w:=W) (g:=G) (h:=h) (k:=k) q
   have gno:=fun q=>aL3 (c:=c) (ls:=ls) (w:=W) (g:=G) (h:=h) (k:=k) q
   have gyes:=fun q=>aHM (c:=c) (ls:=ls) (w:=W) (g:=G) (h:=h) (k:=k) q
   rw[hU] at hyes;have vs:=IY w.2.2.2 k (by omega);have va:=DJ (w.2.2.2/2^k) (Nat.lt_of_le_of_lt (Nat.div_le_self _ _) (by omega));have hbk:=hbt k (by omega);cases h1:ls k
   ·rw[h1] at hta hbk;have hf:turnAt c ls W G h k=false:=by rw[hta];simp
    have hb0:(((w.2.2.2/2^k%2:Nat):Int)==0)=true:=by rw[hbk];rfl
    (repeat (first|simp only[↓QA,QB,reduceLT,reduceIte,reduceEqDiff,reduceAdd,reduceLeDiff,reduceMul,Nat.reduceBEq,bV,hR.len,hR.base,hR.base0,hR.bset,hR.bset0,hR.at1,hR.at0,gZ,hJ,cH,bH,dY,dX,iA,iB,hk1,hx,vs,va,hb0]|refine rd0 rfl ?_))
    refine⟨k+1,by omega,by omega,?_⟩;rw[hno hf,gno hf];try simp only[aB,QE,reduceLT,reduceIte,reduceEqDiff,reduceAdd,reduceLeDiff,reduceMul,Nat.reduceBEq,bV,hR.len,hR.base,hR.base0,hR.bset,hR.bset0,hR.at1,hR.at0,gZ,hJ,cH,bH,dY,dX,iA,iB,hwk]
    try simp[aU,okVs,okV,oO,y6]
    try omega
   rw[h1] at hta hbk;have hb0:(((w.2.2.2/2^k%2:Nat):Int)==0)=false:=by rw[hbk];rfl
   cases h2:decide ((h:Int)<x.frm)
   case' true =>
    have h2':(h:Int)<x.frm:=by simpa using h2
    have hf:turnAt c ls W G h k=false:=by rw[hta];simp;omega
    (repeat (first|simp only[↓QA,QB,reduceLT,reduceIte,reduceEqDiff,reduceAdd,reduceLeDiff,reduceMul,Nat.reduceBEq,bV,hR.len,hR.base,hR.base0,hR.bset,hR.bset0,hR.at1,hR.at0,gZ,hJ,cH,bH,dY,dX,iA,iB,hk1,hx,vs,va,hb0,h2]|refine rd0 rfl ?_))
    refine⟨k+1,by omega,by omega,?_⟩;rw[hno hf,gno hf];try simp only[aB,QE,reduceLT,reduceIte,reduceEqDiff,reduceAdd,reduceLeDiff,reduceMul,Nat.reduceBEq,bV,hR.len,hR.base,hR.base0,hR.bset,hR.bset0,hR.at1,hR.at0,gZ,hJ,cH,bH,dY,dX,iA,iB,hwk]
    try simp[aU,okVs,okV,oO,y6]
    try omega
   have h2':¬(h:Int)<x.frm:=by simpa using h2
   cases h3:decide (0<V)
   case' true =>
    have h3':0<V:=by simpa using h3
    have hf:turnAt c ls W G h k=false:=by rw[hta];simp;omega
    (repeat (first|simp only[↓QA,QB,reduceLT,reduceIte,reduceEqDiff,reduceAdd,reduceLeDiff,reduceMul,Nat.reduceBEq,bV,hR.len,hR.base,hR.base0,hR.bset,hR.bset0,hR.at1,hR.at0,gZ,hJ,cH,bH,dY,dX,iA,iB,hk1,hx,vs,va,hb0,h2,ik,c4,hgl,h3]|refine rd0 rfl ?_))
    refine⟨k+1,by omega,by omega,?_⟩;rw[hno hf,gno hf];try simp only[aB,QE,reduceLT,reduceIte,reduceEqDiff,reduceAdd,reduceLeDiff,reduceMul,Nat.reduceBEq,bV,hR.len,hR.base,hR.base0,hR.bset,hR.bset0,hR.at1,hR.at0,gZ,hJ,cH,bH,dY,dX,iA,iB,hwk]
    try simp[aU,okVs,okV,oO,y6]
    try omega
   have h3':¬0<V:=by simpa using h3
   have ht:turnAt c ls W G h k=true:=by rw[hta];simp;omega
   have hs:=GY (ptT c ls W G h k) (min U h) (i:=k) (by omega);rw[hyes ht] at hs
   (repeat (first|simp only[↓QA,QB,reduceLT,reduceIte,reduceEqDiff,reduceAdd,reduceLeDiff,reduceMul,Nat.reduceBEq,bV,hR.len,hR.base,hR.base0,hR.bset,hR.bset0,hR.at1,hR.at0,gZ,hJ,cH,bH,dY,dX,iA,iB,hk1,hx,vs,va,hb0,h2,ik,c4,hgl,h3,hgp,hs]|refine rd0 rfl ?_))
   refine⟨k+1,by omega,by omega,?_⟩;rw[gyes ht];try simp only[aB,QE,reduceLT,reduceIte,reduceEqDiff,reduceAdd,reduceLeDiff,reduceMul,Nat.reduceBEq,bV,hR.len,hR.base,hR.base0,hR.bset,hR.bset0,hR.at1,hR.at0,gZ,hJ,cH,bH,dY,dX,iA,iB,hwk]
   try simp[aU,okVs,okV,oO,y6]
   try omega
  ·have hk1:k=c.lots.length:=by simp at hd2;omega
   subst hk1;have hg3:=gb c.lots.length;have hgA:gsT c ls W G h c.lots.length=gasAt c ls h (leftTo c ls W G h):=aKD;rw[aH6];obtain⟨g0,hg0⟩:∃ g0,gsT c ls W G h c.lots.length=g0:=⟨_,rfl⟩;rw[hg0] at hg3 hgA ⊢;cases h4:((h:Int)==(c.heat.length:Int))
   case' true =>
    have h4':h=c.heat.length:=by simp at h4;omega
    subst h4'
    (repeat (first|simp only[↓QA,QB,reduceLT,reduceIte,reduceEqDiff,reduceAdd,reduceLeDiff,reduceMul,Nat.reduceBEq,bV,hR.len,hR.base,hR.base0,hR.bset,hR.bset0,hR.at1,hR.at0,gZ,hJ,cH,bH,dY,dX,iA,iB,h4,hput]|refine rd0 rfl ?_))
    refine⟨_,_,rfl,rfl,?_⟩;try simp only[QS,QC,reduceLT,reduceIte,reduceEqDiff,reduceAdd,reduceLeDiff,reduceMul,Nat.reduceBEq,bV,hR.len,hR.base,hR.base0,hR.bset,hR.bset0,hR.at1,hR.at0,gZ,hJ,cH,bH,dY,dX,iA,iB,wB]
    simp only[hls',hG,hW]
   have h4':h<c.heat.length:=by simp at h4;omega
   have hhb:=QY hv h;have hha:=aE3 h4';obtain⟨y,hy⟩:∃ y,c.heat[h]=y:=⟨_,rfl⟩;rw[hy] at hha;rw[hha] at hhb
   (repeat (first|simp only[↓QA,QB,reduceLT,reduceIte,reduceEqDiff,reduceAdd,reduceLeDiff,reduceMul,Nat.reduceBEq,bV,hR.len,hR.base,hR.base0,hR.bset,hR.bset0,hR.at1,hR.at0,gZ,hJ,cH,bH,dY,dX,iA,iB,h4]|refine rd0 rfl ?_))
   refine dQ (S:=Nat) 0 (fun k=>k<=c.lots.length) (fun k=>c.lots.length-k)
    (fun k=>[(0,.ptr p 0),(3,.ptr N 0),(4,.ptr (N+1) 0),(7,.ptr (N+3) 0),(9,.ptr (N+4) 0),(10,.int .i64 h),(11,.int .i64 g0),(43,.int .i64 (c.heat.length+1:Nat)),(44,.int .i64 h),(101,.lit (c.lots.map iM) false none),(102,.int .i64 c.lots.length),(103,.int .i64 k)])
    (fun k=>S M++[.cells (bL w),.cells (hrs fun _=>0),.cells (hrs fun _=>0),.cells (hrs (fun i=>eH c ls W G i (h+1))),.cells (hrs (lfT c ls W G h k))]) (Nat.zero_le _) (by rw[aTL]) ?_ fun k hk=>?_
   ·try simp only[aB,QE,reduceLT,reduceIte,reduceEqDiff,reduceAdd,reduceLeDiff,reduceMul,Nat.reduceBEq,bV,hR.len,hR.base,hR.base0,hR.bset,hR.bset0,hR.at1,hR.at0,gZ,hJ,cH,bH,dY,dX,iA,iB]
    try simp
   (repeat (first|simp only[↓QA,QB,reduceLT,reduceIte,reduceEqDiff,reduceAdd,reduceLeDiff,reduceMul,Nat.reduceBEq,bV,hR.len,hR.base,hR.base0,hR.bset,hR.bset0,hR.at1,hR.at0,gZ,hJ,cH,bH,dY,dX,iA,iB,aA7]|refine rd0 rfl ?_))
   refine aJ (fun hd3=>?_) fun hd3=>?_
   ·have hk1:k<c.lots.length:=by simpa using hd3
    have hwk:=dB hk1 (by omega);have ik:(0:Int)<=(k:Int)/\(k:Int)<((5:Nat):Int):=⟨by omega,by omega⟩;have ih:(0:Int)<=(h:Int)/\(h:Int)<((c.heat.length:Nat):Int):=⟨by omega,by omega⟩;have c4:k<=4:=by omega
    have hfa:=MV hk1;have hin:=WT (c:=c) (ls:=ls) (w:=W) (g:=G) (h:=h) hk1;have hgl:=y9 (lfT c ls W G h k) (i:=k) (by omega);rw[aNL,hin] at hgl;have hno:=aNB (c:=c) (ls:=ls) (w:=W) (g:=G) (h:=h) hk1;have hyes:=aIS (c:=c) (ls:=ls) (w:=W) (g:=G) (h:=h) hk1;have hVb:=hlb k h;obtain⟨x,hx⟩:∃ x,c.lots[k]=x:=⟨_,rfl⟩;rw[hx] at hfa;rw[hfa] at hno hyes;rw[<-hgA,hha] at hyes;obtain⟨V,hV⟩:∃ V,leftTo c ls W G h k=V:=⟨_,rfl⟩;rw[hV] at hgl hno hyes hVb;cases h5:decide (x.frm<=(h:Int))
    ·have h5':¬x.frm<=(h:Int):=by simpa using h5
     (repeat (first|simp only[↓QA,QB,reduceLT,reduceIte,reduceEqDiff,reduceAdd,reduceLeDiff,reduceMul,Nat.reduceBEq,bV,hR.len,hR.base,hR.base0,hR.bset,hR.bset0,hR.at1,hR.at0,gZ,hJ,cH,bH,dY,dX,iA,iB,hk1,hx,h5]|refine rd0 rfl ?_))
     refine⟨k+1,by omega,by omega,?_⟩;rw[hno (by omega)];try simp only[aB,QE,reduceLT,reduceIte,reduceEqDiff,reduceAdd,reduceLeDiff,reduceMul,Nat.reduceBEq,bV,hR.len,hR.base,hR.base0,hR.bset,hR.bset0,hR.at1,hR.at0,gZ,hJ,cH,bH,dY,dX,iA,iB,hwk]
     try simp[aU,okVs,okV,oO,y6]
     try omega
    have h5':x.frm<=(h:Int):=by simpa using h5
    cases h6:decide (0<V)
    ·have h6':¬0<V:=by simpa using h6
     (repeat (first|simp only[↓QA,QB,reduceLT,reduceIte,reduceEqDiff,reduceAdd,reduceLeDiff,reduceMul,Nat.reduceBEq,bV,hR.len,hR.base,hR.base0,hR.bset,hR.bset0,hR.at1,hR.at0,gZ,hJ,cH,bH,dY,dX,iA,iB,hk1,hx,h5,ik,c4,hgl,h6]|refine rd0 rfl ?_))
     refine⟨k+1,by omega,by omega,?_⟩;rw[hno (by omega)];try simp only[aB,QE,reduceLT,reduceIte,reduceEqDiff,reduceAdd,reduceLeDiff,reduceMul,Nat.reduceBEq,bV,hR.len,hR.base,hR.base0,hR.bset,hR.bset0,hR.at1,hR.at0,gZ,hJ,cH,bH,dY,dX,iA,iB,hwk]
     try simp[aU,okVs,okV,oO,y6]
     try omega
    have h6':0<V:=by simpa using h6
    have w1:IntKind.i64.wrap (y+W)=y+W:=bD ⟨by omega,by omega⟩;have w2:IntKind.i64.wrap (y+W+g0)=y+W+g0:=bD ⟨by omega,by omega⟩;have w3:IntKind.i64.wrap (V-(y+W+g0))=V-(y+W+g0):=bD ⟨by omega,by omega⟩;have hs:=GY (lfT c ls W G h k) (V-(y+W+g0)) (i:=k) (by omega);rw[hyes ⟨h5',h6'⟩] at hs
    (repeat (first|simp only[↓QA,QB,reduceLT,reduceIte,reduceEqDiff,reduceAdd,reduceLeDiff,reduceMul,Nat.reduceBEq,bV,hR.len,hR.base,hR.base0,hR.bset,hR.bset0,hR.at1,hR.at0,gZ,hJ,cH,bH,dY,dX,iA,iB,hk1,hx,h5,ik,c4,hgl,h6,h4',hy,w1,w2,w3,hs,hW]|refine rd0 rfl ?_))
    refine⟨k+1,by omega,by omega,?_⟩;try simp only[aB,QE,reduceLT,reduceIte,reduceEqDiff,reduceAdd,reduceLeDiff,reduceMul,Nat.reduceBEq,bV,hR.len,hR.base,hR.base0,hR.bset,hR.bset0,hR.at1,hR.at0,gZ,hJ,cH,bH,dY,dX,iA,iB,hwk]
    try simp[aU,okVs,okV,oO,y6]
    try omega
   ·have hk1:k=c.lots.length:=by simp at hd3;omega
    rw[hk1,aIK]
    (repeat (first|simp only[↓QA,QB,reduceLT,reduceIte,reduceEqDiff,reduceAdd,reduceLeDiff,reduceMul,Nat.reduceBEq,bV,hR.len,hR.base,hR.base0,hR.bset,hR.bset0,hR.at1,hR.at0,gZ,hJ,cH,bH,dY,dX,iA,iB]|refine rd0 rfl ?_))
    refine⟨h+1,by omega,by omega,?_⟩;try simp only[aB,QE,reduceLT,reduceIte,reduceEqDiff,reduceAdd,reduceLeDiff,reduceMul,Nat.reduceBEq,bV,hR.len,hR.base,hR.base0,hR.bset,hR.bset0,hR.at1,hR.at0,gZ,hJ,cH,bH,dY,dX,iA,iB,hwh2]
    try simp[aU,okVs,okV,oO,y6]
    try omega
def lv:List (List Int)->List Int->List (List Int)
 |[],l=>[l]
 |xs::rs,l=>xs.flatMap fun n=>lv rs (l++[n])
def gis(c:Car)(hd:Int):List (List Int):=(List.range c.lots.length).map (greenIn c hd)
theorem BZ(c:Car)(hd:Int):(gis c hd).length=c.lots.length:=by simp[gis]
theorem LX{c:Car}{n:Nat}(hn:n<c.lots.length)(hd:Int):(gis c hd).drop n=greenIn c hd n::(gis c hd).drop (n+1):=by
 rw[List.drop_eq_getElem_cons (by rw[BZ];exact hn)];simp[gis]
theorem aF6(c:Car)(hd:Int):∀ k n,n+k=c.lots.length->(greensUp c hd n).flatMap (lv ((gis c hd).drop n))=kE c hd
 |0,n,h=>by
  have h1:(gis c hd).drop n=[]:=List.drop_eq_nil_of_le (by rw[BZ];omega);rw[h1,show n=c.lots.length by omega];show (kE c hd).flatMap (fun l=>[l])=kE c hd
  simp
 |k+1,n,h=>by
  rw[LX (show n<c.lots.length by omega),<-aF6 c hd k (n+1) (by omega)];simp only[greensUp,List.flatMap_assoc,List.flatMap_map];rfl
theorem aK4(c:Car)(hd:Int):lv (gis c hd) []=kE c hd:=by
 have:=aF6 c hd c.lots.length 0 (by omega);simpa[greensUp] using this
theorem pS:∀ (k:Nat) (n:Int),(aS n k).Nodup
 |0,n=>by simp[aS]
 |k+1,n=>by
  simp only[aS,List.nodup_cons];refine⟨fun h=>?_,pS k (n+1)⟩;rw[bP] at h;omega
theorem DZ{α β:Type}(f:α->β){l:List α}(h:l.Nodup)(hi:∀ a∈l,∀ b∈l,f a=f b->a=b):(l.map f).Nodup:=by
 unfold List.Nodup at h ⊢;rw[List.pairwise_map];exact h.imp_of_mem fun ha hb hne e=>hne (hi _ ha _ hb e)
theorem EY(c:Car)(hd:Int)(n:Nat):(greenIn c hd n).Nodup:=by
 unfold greenIn;split
 ·exact pS _ _
 ·simp
theorem uV{c:Car}(hv:Vd c)(hd:Int):∀ n,(greensUp c hd n).Nodup
 |0=>by simp[greensUp]
 |n+1=>by
  have ih:=uV hv hd n;have hin:=tO hv hd n;simp only[greensUp];unfold List.Nodup;rw[List.pairwise_flatMap];refine⟨fun p _=>DZ _ (EY c hd n) fun a _ b _ e=>?_,?_⟩
  ·simpa using e
  ·refine List.Pairwise.imp_of_mem ?_ ih;intro p q hp hq hne x hx y hy e;obtain⟨a,_,rfl⟩:=List.mem_map.1 hx;obtain⟨b,_,rfl⟩:=List.mem_map.1 hy;refine hne (List.append_inj_left e ?_);rw[(hin p hp).1,(hin q hq).1]
theorem SV{c:Car}(hv:Vd c)(hd:Nat):(allOf c hd).Nodup:=by
 have h1:(uM c hd).Nodup:=by
  unfold uM;split
  ·exact pS _ _
  ·simp
 unfold allOf List.Nodup;rw[List.pairwise_flatMap];refine⟨fun w _=>DZ _ (uV hv hd _) fun a _ b _ e=>?_,?_⟩
 ·injection e
 ·refine List.Pairwise.imp ?_ h1;intro a b hne x hx y hy e;obtain⟨p,_,rfl⟩:=List.mem_map.1 hx;obtain⟨q,_,rfl⟩:=List.mem_map.1 hy;injection e with e1 _
  exact hne e1
def kyW(c:Car)(hd:Int)(w:Way):Ky:=sC hd w.warm (gF w.greens) (lU c hd)
theorem QI{hd wm:Int}{l:List Int}{th:Nat}(h:l.length<=5):kG (sC hd wm (gF l) th)=gF l:=by
 funext i;by_cases hi:i<5
 ·exact aN7 _ _ _ _ hi
 ·have h1:l[i]? = none:=List.getElem?_eq_none (by omega);have h2:gF l i=0:=by simp[gF,h1]
  rw[h2];unfold kG gF;rw[List.getElem?_eq_none (by simp;omega)];rfl
theorem aBS{c:Car}{hd:Int}{a b:Way}(h1:a.greens.length<=5)(h2:b.greens.length=a.greens.length)(h:kyW c hd a=kyW c hd b):a=b:=by
 have e1:=congrArg kG h;have e2:a.warm=b.warm:=congrArg (fun x:Ky=>x.2.1) h;unfold kyW at e1;rw[QI h1,QI (by omega)] at e1;obtain⟨w,l⟩:=a;obtain⟨w',l'⟩:=b;simp only at e1 e2 h2 h1;have:l=l':=by
  refine List.ext_getElem h2.symm fun i hi hi2=>?_
  have:=congrFun e1 i;simpa[gF,hi,hi2] using this
 rw[e2,this]
theorem SE{c:Car}(hv:Vd c){hd:Nat}(hhd:hd<c.holds.length):((allOf c hd).map (kyW c hd)).Nodup:=by
 have hnl:=hv.nlt;refine DZ _ (SV hv hd) fun a ha b hb e=>?_
 have h1:=(WR hv hhd ha).len;have h2:=(WR hv hhd hb).len;exact aBS (by omega) (by omega) e
theorem PE{c:Car}{hd:Int}{w:Way}(h:w.greens.length<=5):kyT c (kyW c hd w)=wayTime c hd w:=by
 funext i;have e:(fun i=>(kyW c hd w).2.2.2.testBit i)=inHold c hd:=by
  funext j;exact GO c hd j
 unfold kyT wayTime;rw[e];unfold kyW;rw[QI h];rfl
theorem aAP{c:Car}(hv:Vd c){hd:Int}{w:Way}(h:WayOk c w):KyOk (kyW c hd w):=by
 have hnl:=hv.nlt;have hl:=h.len;refine⟨h.warm,fun i=>?_,?_⟩
 ·unfold kyW;rw[QI (by omega)];exact aLM h.green i
 ·have:=K0 hv hd;show lU c hd<32
  omega
def rD(c:Car)(hd:Int)(w:Way):Bool:=IK c hd (wayTime c hd w)
section
variable {Y:Type} (c:Car) (hd:Int) (f:Way->Y×List Ky->(Y×List Ky)×Bool)
def stepG(w:Way)(z:Y×List Ky):(Y×List Ky)×Bool:=if rD c hd w=true then f w (z.1,bA z.2 (kyW c hd w)) else ((z.1,bA z.2 (kyW c hd w)),true)
def stepF(w:Way)(x:Ky×(Y×List Ky)):(Ky×(Y×List Ky))×Bool :=
 if kyW c hd w=x.1 then (x,true) else if rD c hd w=true then ((kyW c hd w,(f w (x.2.1,bA x.2.2 (kyW c hd w))).1),(f w (x.2.1,bA x.2.2 (kyW c hd w))).2) else ((x.1,(x.2.1,bA x.2.2 (kyW c hd w))),true)
theorem wP:∀ (az:List Way) (la:Ky) (z:Y×List Ky),(az.map (kyW c hd)).Nodup->la∉az.map (kyW c hd)->(aV (stepF c hd f) az (la,z)).1.2=(aV (stepG c hd f) az z).1/\(aV (stepF c hd f) az (la,z)).2=(aV (stepG c hd f) az z).2
 |[],la,z,_,_=>⟨rfl,rfl⟩
 |a::az,la,z,hn,hl=>by
  simp only[List.map_cons,List.nodup_cons,List.mem_cons,not_or] at hn hl;have hne:¬kyW c hd a=la:=fun e=>hl.1 e.symm
  simp only[aV,stepF,stepG,hne,if_false];by_cases hs:rD c hd a=true
  ·simp only[hs,if_true];obtain⟨r,hr⟩:∃ r,f a (z.1,bA z.2 (kyW c hd a))=r:=⟨_,rfl⟩;rw[hr];cases h2:r.2
   ·simp
   ·simp only[if_true];exact wP az _ _ hn.2 hn.1
  ·simp only[hs,if_false,if_true];exact wP az la _ hn.2 hl.2
end
def ky0:Ky:=(-1,0,(0,0,0,0,0),0)
theorem aIQ(c:Car)(hd:Nat)(az:List Way):ky0∉az.map (kyW c hd):=by
 intro h;obtain⟨w,_,e⟩:=List.mem_map.1 h;have:((hd:Int)) = -1:=congrArg (fun x:Ky=>x.1) e;omega
end Go.Am.Room.Tu
namespace Go.Am.Room
def sF{X:Type}(Z ZD:X->St)(r:X×Bool):St:=if r.2=true then Z r.1 else ZD r.1
def yB{A X:Type}(Z ZD:X->St)(id:Nat)(args:A->List AV)(P:A->Prop)(f:A->X->X×Bool):Prop :=
 ∀ t,P t->∀ x τ,Run T (.callv (.yield id) (args t) (Z x++τ)) fun o=>o.v = .bool (f t x).2/\∃ τ',o.σ=sF Z ZD (f t x)++(τ++τ')
end Go.Am.Room
namespace Go.Am.Room.Tu
def lO:=zz @gH (zz @fJ (zz @aK (zz @gJ (zz @fB (zz @fA (zz @List.length_append.{0} (zz @KP (zz @JX (zz @KK (zz @JR (zz @MB (zz @IX (zz @KY (zz @dA (zz @Nat.add_lt_add_iff_left (zz @Nat.lt_add_right_iff_pos (zz @Nat.mul_one (zz @Int.toNat_natCast (zz @pK (zz @mZ (zz @mU (zz @mY (zz @wB (zz @gZ (zz @hJ (zz @cH (zz @bH (zz @dY (zz @dX (zz @iA (@iB)))))))))))))))))))))))))))))))
theorem aS9(k:Nat)(hk:k<60):dD .shr (.int .i64 0) (.int .i64 (k:Int))=some (.int .i64 0):=by
 have:=IY 0 k (by omega);simpa using this
theorem aBD:dD .and (.int .i64 0) (.int .i64 1)=some (.int .i64 0):=by
 have:=DJ 0 (by omega);simpa using this
theorem aDX{c:Car}{hd:Int}{t:Nat->Int}{k:Nat}(h:zL c hd t k=false):IK c hd t=false:=by
 rw[<-J6];cases e:zL c hd t c.seen.length
 ·rfl
 ·rw[<-h];symm;simp only[zL,List.all_eq_true] at e ⊢;exact fun x hx=>e x (by rw[List.take_length];exact List.mem_of_mem_take hx)
theorem ZN{S:List Ky->St}{c:Car}{p m N:Nat}(hR:MemAt S (tb c m) (kEs c) p m N)(hv:Vd c)(M:List Ky)(hd:Int)(t:Nat->Int):gB T (.func 407 [.ptr p 0] []) [.int .i64 hd,.agg (hrs t)] (S M) (.bool (IK c hd t)):=by
 refine dM (af:=YH) rfl (by simp[YH]) ?_;have hns:=hv.nsn;have hnl:=hv.nlt;have hpl:=hR.pl;obtain⟨R,hRe⟩:∃ R,IK c hd t=R:=⟨_,rfl⟩;rw[hRe]
 (repeat (first|simp only[↓QA,QB,reduceLT,reduceIte,reduceEqDiff,reduceAdd,reduceLeDiff,reduceMul,Nat.reduceBEq,lO,hR.len,hR.base,hR.base0,hR.bset,hR.bset0,hR.at1,hR.at0,YH]|refine rd0 rfl ?_))
 refine dQ (S:=Nat) 0 (fun k=>k<=c.seen.length/\zL c hd t k=true) (fun k=>c.seen.length-k)
  (fun k=>[(0,.ptr p 0),(1,.int .i64 hd),(5,.ptr N 0),(13,.lit (c.seen.map gL) false none),(14,.int .i64 c.seen.length),(15,.int .i64 k)]) (fun _=>S M++[.cells (hrs t)]) ⟨Nat.zero_le _,by simp[zL]⟩ rfl ?_ fun k hk=>?_
 ·try simp only[aB,QE,reduceLT,reduceIte,reduceEqDiff,reduceAdd,reduceLeDiff,reduceMul,Nat.reduceBEq,lO,hR.len,hR.base,hR.base0,hR.bset,hR.bset0,hR.at1,hR.at0]
  try simp
 obtain⟨hk,hso⟩:=hk
 (repeat (first|simp only[↓QA,QB,reduceLT,reduceIte,reduceEqDiff,reduceAdd,reduceLeDiff,reduceMul,Nat.reduceBEq,lO,hR.len,hR.base,hR.base0,hR.bset,hR.bset0,hR.at1,hR.at0,UM]|refine rd0 rfl ?_))
 refine aJ (fun h=>?_) fun h=>?_
 ·have hk1:k<c.seen.length:=by simpa using h
  have hw:=dB hk1 (by omega);have hsu:=R1 hk1 hd t;rw[hso,Bool.true_and] at hsu;have hsx:=hv.sn _ (List.getElem_mem hk1);obtain⟨x,hx⟩:∃ x,c.seen[k]=x:=⟨_,rfl⟩;rw[hx] at hsu hsx;obtain⟨l,hl⟩:∃ l:Nat,x.lot=l:=⟨x.lot.toNat,by omega⟩;have hlc:l<c.lots.length:=by omega
  have il:(0:Int)<=(l:Int)/\(l:Int)<((5:Nat):Int):=⟨by omega,by omega⟩;have c4:l<=4:=by omega
  have hgl:=y9 t (i:=l) (by omega);have hat:=G7 hlc hd;obtain⟨y,hy⟩:∃ y,c.lots[l]=y:=⟨_,rfl⟩;rw[hy] at hat
  obtain⟨z,hz⟩:∃ z,t l=z:=⟨_,rfl⟩;rw[hz] at hgl;have hlo:DY c hd t x=(!decide (y.hold=hd)||(decide (z<=x.hour)==x.turned)):=by
   simp only[DY,hl,Int.toNat_natCast,hat,hz]
  rw[hlo] at hsu;have vs:=aS9 k (by omega);cases h1:(y.hold==hd)
  ·have h1':¬y.hold=hd:=by simpa using h1
   have hs2:zL c hd t (k+1)=true:=by rw[hsu];simp[h1']
   (repeat (first|simp only[↓QA,QB,reduceLT,reduceIte,reduceEqDiff,reduceAdd,reduceLeDiff,reduceMul,Nat.reduceBEq,lO,hR.len,hR.base,hR.base0,hR.bset,hR.bset0,hR.at1,hR.at0,hk1,hx,vs,aBD,hl,hlc,hy,h1]|refine rd0 rfl ?_))
   refine⟨k+1,⟨by omega,hs2⟩,by omega,?_⟩;try simp only[aB,QE,reduceLT,reduceIte,reduceEqDiff,reduceAdd,reduceLeDiff,reduceMul,Nat.reduceBEq,lO,hR.len,hR.base,hR.base0,hR.bset,hR.bset0,hR.at1,hR.at0,hw]
   try simp[aU,okVs,okV,oO]
   try omega
  ·have h1':y.hold=hd:=by simpa using h1
   have hs2:zL c hd t (k+1)=(decide (z<=x.hour)==x.turned):=by rw[hsu];simp[h1']
   obtain⟨b,hb⟩:∃ b,decide (z<=x.hour)=b:=⟨_,rfl⟩;obtain⟨u,hu⟩:∃ u,x.turned=u:=⟨_,rfl⟩;rw[hb,hu] at hs2;cases hbu:(b==u)
   ·rw[hbu] at hs2;have hfin:R=false:=by rw[<-hRe];exact aDX hs2
    subst hfin
    (repeat (first|simp only[↓QA,QB,reduceLT,reduceIte,reduceEqDiff,reduceAdd,reduceLeDiff,reduceMul,Nat.reduceBEq,lO,hR.len,hR.base,hR.base0,hR.bset,hR.bset0,hR.at1,hR.at0,hk1,hx,vs,aBD,hl,hlc,hy,h1,il,c4,hgl,hb,hu,hbu]|refine rd0 rfl ?_))
    refine cY _ rfl ?_;try simp only[QS,QC,reduceLT,reduceIte,reduceEqDiff,reduceAdd,reduceLeDiff,reduceMul,Nat.reduceBEq,lO,hR.len,hR.base,hR.base0,hR.bset,hR.bset0,hR.at1,hR.at0]
   ·rw[hbu] at hs2
    (repeat (first|simp only[↓QA,QB,reduceLT,reduceIte,reduceEqDiff,reduceAdd,reduceLeDiff,reduceMul,Nat.reduceBEq,lO,hR.len,hR.base,hR.base0,hR.bset,hR.bset0,hR.at1,hR.at0,hk1,hx,vs,aBD,hl,hlc,hy,h1,il,c4,hgl,hb,hu,hbu]|refine rd0 rfl ?_))
    refine⟨k+1,⟨by omega,hs2⟩,by omega,?_⟩;try simp only[aB,QE,reduceLT,reduceIte,reduceEqDiff,reduceAdd,reduceLeDiff,reduceMul,Nat.reduceBEq,lO,hR.len,hR.base,hR.base0,hR.bset,hR.bset0,hR.at1,hR.at0,hw]
    try simp[aU,okVs,okV,oO]
    try omega
 ·have hk1:k=c.seen.length:=by simp at h;omega
  have hfin:R=true:=by rw[<-hRe,<-J6,<-hk1,hso]
  subst hfin
  (repeat (first|simp only[↓QA,QB,reduceLT,reduceIte,reduceEqDiff,reduceAdd,reduceLeDiff,reduceMul,Nat.reduceBEq,lO,hR.len,hR.base,hR.base0,hR.bset,hR.bset0,hR.at1,hR.at0]|refine rd0 rfl ?_))
  refine cY _ rfl ?_;try simp only[QS,QC,reduceLT,reduceIte,reduceEqDiff,reduceAdd,reduceLeDiff,reduceMul,Nat.reduceBEq,lO,hR.len,hR.base,hR.base0,hR.bset,hR.bset0,hR.at1,hR.at0]
end Go.Am.Room.Tu
