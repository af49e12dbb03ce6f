/- A part of the proof of TopCutHands: an abstract machine, or what functions come to on it. -/
import Derived.Test.YtckllniniolhcaaGreatTopCutHandsQ2
import Derived.ChangeArms
import Derived.SizedLaws
import Derived.ChangeBears
import Derived.ChangeShapes
import Derived.WideShapes
import Derived.ProofKit
import Derived.OpenShut
import Derived.Lib.Strings
import Derived.Laws.RangeAny
open Nat (reduceLT reduceEqDiff reduceAdd reduceLeDiff reduceMul)
set_option linter.unusedVariables false
set_option linter.unusedSimpArgs false
set_option linter.defProp false
namespace Go.Am
open Go.ChangeShapes Go.WideShapes Go.ChangeAt Go.RowKit
variable {P:Program} {hh:String->Bool} {H:Type} {enc:TypeId×Value->H} {w:World} {sp:Nat->Bool} {held:Bool}
def mkV(P:Program)(t:TypeId)(cs:List AV):AV:=match P.underlying t with
 |some (.struct _)=>.agg cs
 |some (.array _ _)=>.agg cs
 |_=>cs.headD .undef
def Typ(P:Program):Nat->TypeId->List AV->Prop
 |0,_,_=>False
 |n+1,t,cs =>
  match P.underlying t with
  |some .bool=>∃ b,cs=[.bool b]
  |some (.int k)=>∃ m,cs=[.int k m]/\(Lit.int k m).wf=true
  |some .string=>∃ s:ByteArray,cs=[.str s]/\s.size<=maxLen
  |some (.slice e)=>∃ ys:List (List AV),cs=[.lit (ys.map (mkV P e)) false none]/\(ys.length<=maxLen/\ys.length*P.bytesOf e<=reachBytes)/\∀ y∈ys,Typ P n e y
  |some (.struct fs)=>∃ parts:List (List AV),cs=parts.flatten/\parts.length=fs.toList.length/\∀ (i:Nat) f p,fs.toList[i]? = some f->parts[i]? = some p->Typ P n f.type p
  |some (.array k e)=>∃ parts:List (List AV),cs=parts.flatten/\parts.length=k/\∀ p∈parts,Typ P n e p
  |_=>False
def M2(P:Program):Nat->TypeId->Bool
 |0,_=>false
 |n+1,t =>
  match P.underlying t with
  |some .bool|some (.int _)|some .string=>true
  |some (.slice e)=>decide (0<P.cellsOf e)&&M2 P n e
  |some (.struct fs)=>fs.toList.all fun f=>M2 P n f.type
  |some (.array _ e)=>M2 P n e
  |_=>false
def WY(w:World)(b:Nat):Option Nat:=match w.heap[b]? with
 |some (.cells vs _ _)=>some vs.size
 |_=>none
noncomputable def B2(w:World):Gh:=(Gh.start w).fresh0 w (WY w) fun b=>∃ L,WY w b=some L
theorem TP(w:World):RelS P hh (B2 w) w []:=vQ fun b L e=>by
 refine⟨⟨L,e⟩,?_⟩;unfold WY at e;split at e
 ·rename_i vs T fr h;simp only[Option.some.injEq] at e;exact⟨vs,T,fr,h,by omega⟩
 ·cases e
def xJ(G:Gh)(w:World)(az:List AV)(cs:List Value):Prop:=az.length=cs.length/\∀ (i:Nat) a v,az[i]? = some a->cs[i]? = some v->RelV G w a v
theorem xJ.nil{G:Gh}:xJ G w [] []:=⟨rfl,by simp⟩
theorem xJ.app{G:Gh}{az bs:List AV}{cs ds:List Value}(h:xJ G w az cs)(k:xJ G w bs ds):xJ G w (az++bs) (cs++ds):=by
 refine⟨by simp[h.1,k.1],fun i a v e1 e2=>?_⟩;by_cases hi:i<az.length
 ·rw[List.getElem?_append_left hi] at e1;rw[List.getElem?_append_left (by rw[<-h.1];exact hi)] at e2;exact h.2 i a v e1 e2
 ·rw[List.getElem?_append_right (by omega)] at e1;rw[List.getElem?_append_right (by rw[<-h.1];omega),<-h.1] at e2;exact k.2 _ a v e1 e2
theorem xJ.one{G:Gh}{a:AV}{v:Value}(h:RelV G w a v):xJ G w [a] [v]:=⟨rfl,fun i x u e1 e2=>by
 cases i with
 |zero=>simp at e1 e2;subst e1;subst e2;exact h
 |succ i=>simp at e1⟩
theorem PV{n:Nat}{t:TypeId}{cs:List AV}(h:Typ P n t cs):(mkV P t cs).cells=cs:=by
 cases n with
 |zero=>exact h.elim
 |succ n =>
  simp only[Typ] at h;unfold mkV;split at h
  ·rename_i hu;rw[hu];obtain⟨b,rfl⟩:=h;rfl
  ·rename_i hu;rw[hu];obtain⟨b,rfl,_⟩:=h;rfl
  ·rename_i hu;rw[hu];obtain⟨b,rfl,_⟩:=h;rfl
  ·rename_i hu;rw[hu];obtain⟨b,rfl,_⟩:=h;rfl
  ·rename_i hu;rw[hu];rfl
  ·rename_i hu;rw[hu];rfl
  ·exact h.elim
theorem YK{a:Addr}{v:Value}(h:w.cell? a=some v)(n:Nat):a.add n=⟨a.block,a.off+n,none⟩:=by
 have hs:a.spot=none:=by
  unfold World.cell? at h;split at h
  ·split at h
   ·cases h
   ·rename_i hs;simpa using hs
  ·cases h
 obtain⟨b,o,s⟩:=a;simp only at hs;subst hs;unfold Addr.add;split
 ·rename_i h0;simp[h0]
 ·rfl
theorem aCE{b o:Nat}{v:Value}(h:w.cell? ⟨b,o,none⟩=some v):∃ L,WY w b=some L/\o<L:=by
 unfold World.cell? at h;split at h
 ·rename_i c T fr hb;refine⟨c.size,by simp only at hb;simp[WY,hb],?_⟩;simp at h;exact (Array.getElem?_eq_some_iff.1 h).1
 ·cases h
theorem X5{G:Gh}{n:Nat}{cs:List Value}:∀ (fl:List Field) (o:Nat),(∀ (j:Nat) f,fl[j]? = some f->f.offset=o+((fl.take j).map fun f=>P.cellsOf f.type).sum)->cs.length=o+(fl.map fun f=>P.cellsOf f.type).sum ->
  (∀ f∈fl,∃ az,Typ P n f.type az/\xJ G w az ((cs.drop f.offset).take (P.cellsOf f.type))) ->
  ∃ parts:List (List AV),parts.length=fl.length/\(∀ (i:Nat) f p,fl[i]? = some f->parts[i]? = some p->Typ P n f.type p)/\xJ G w parts.flatten (cs.drop o)
 |[],o,_,hl,_=>⟨[],rfl,by simp,by
   have:cs.drop o=[]:=List.drop_of_length_le (by simp at hl;omega)
   rw[this];exact .nil⟩
 |f::fl,o,ho,hl,ht=>by
  have h0:=ho 0 f rfl;simp only[List.take_zero,List.map_nil,List.sum_nil,Nat.add_zero] at h0;simp only[List.map_cons,List.sum_cons] at hl;obtain⟨az,h1,h2⟩:=ht f (by simp)
  obtain⟨parts,q1,q2,q3⟩:=X5 fl (o+P.cellsOf f.type) (fun j g hj=>by
   have:=ho (j+1) g (by simpa using hj);simp only[List.take_succ_cons,List.map_cons,List.sum_cons] at this
   omega) (by omega) fun g hg=>ht g (List.mem_cons_of_mem _ hg)
  refine⟨az::parts,by simp[q1],fun i g p e1 e2=>?_,?_⟩
  ·cases i with
   |zero=>simp at e1 e2;subst e1;subst e2;exact h1
   |succ i=>exact q2 i g p (by simpa using e1) (by simpa using e2)
  ·rw[List.flatten_cons];have e:cs.drop o=(cs.drop o).take (P.cellsOf f.type)++cs.drop (o+P.cellsOf f.type):=by
    rw[<-List.drop_drop,List.take_append_drop]
   rw[e];rw[h0] at h2;exact h2.app q3
theorem aD8{G:Gh}{m:Nat}{e:TypeId}{cs:List Value}:∀ (n o:Nat),cs.length=o+n*P.cellsOf e ->
  (∀ i,i<n->∃ az,Typ P m e az/\xJ G w az ((cs.drop (o+i*P.cellsOf e)).take (P.cellsOf e)))->∃ parts:List (List AV),parts.length=n/\(∀ p∈parts,Typ P m e p)/\xJ G w parts.flatten (cs.drop o)
 |0,o,hl,_=>⟨[],rfl,by simp,by
   have:cs.drop o=[]:=List.drop_of_length_le (by simp at hl;omega)
   rw[this];exact .nil⟩
 |n+1,o,hl,ht=>by
  obtain⟨az,h1,h2⟩:=ht 0 (by omega);rw[Nat.zero_mul,Nat.add_zero] at h2;rw[Nat.add_mul,Nat.one_mul] at hl;obtain⟨parts,q1,q2,q3⟩:=aD8 (e:=e) (cs:=cs) (m:=m) n (o+P.cellsOf e) (by omega) fun i hi=>by
   obtain⟨az,k1,k2⟩:=ht (i+1) (by omega);rw[Nat.add_mul,Nat.one_mul,Nat.add_comm (i*_),<-Nat.add_assoc] at k2;exact⟨az,k1,k2⟩
  refine⟨az::parts,by simp[q1],fun p hp=>?_,?_⟩
  ·rcases List.mem_cons.1 hp with rfl|hp
   ·exact h1
   ·exact q2 p hp
  ·rw[List.flatten_cons];have e1:cs.drop o=(cs.drop o).take (P.cellsOf e)++cs.drop (o+P.cellsOf e):=by
    rw[<-List.drop_drop,List.take_append_drop]
   rw[e1];exact h2.app q3
theorem zS{α:Type}{Q:Nat->α->Prop}:∀ n,(∀ i,i<n->∃ x,Q i x)->∃ l:List α,l.length=n/\∀ (i:Nat) x,l[i]? = some x->Q i x
 |0,_=>⟨[],rfl,by simp⟩
 |n+1,h=>by
  obtain⟨l,h1,h2⟩:=zS n fun i hi=>h i (by omega)
  obtain⟨x,hx⟩:=h n (by omega);refine⟨l++[x],by simp[h1],fun i y e=>?_⟩;by_cases hi:i<l.length
  ·rw[List.getElem?_append_left hi] at e;exact h2 i y e
  ·rw[List.getElem?_append_right (by omega)] at e;have:i-l.length=0:=by
    by_cases h0:i-l.length=0
    ·exact h0
    ·rw[List.getElem?_eq_none (by simp;omega)] at e;cases e
   rw[this] at e;simp at e;subst e;rw[show i=n by omega];exact hx
theorem nX(hl:laidOutB P=true):∀ (n m:Nat) (t:TypeId) (cs:List Value) (x:DataW H×List MemPlace),t<P.types.size->M2 P n t=true->DataW.trod enc P w 0 sp held m t cs=some x->(∀ k∈x.1.weights P t,k<=reachBytes) ->
  ∃ az,Typ P n t az/\xJ (B2 w) w az cs
 |0,m,t,cs,x,_,ho,_,_=>by simp[M2] at ho
 |n+1,m,t,cs,x,ht,ho,h,hwt=>by
  simp only[M2] at ho;split at ho
  ·rename_i hu;obtain⟨b,rfl,_⟩:=DataW.trod_bool hu h;exact⟨[.bool b],by simp only[Typ,hu];exact⟨b,rfl⟩,.one (.bool b)⟩
  ·rename_i k hu;obtain⟨b,rfl,_,hw⟩:=DataW.trod_int hu h;exact⟨[.int k b],by simp only[Typ,hu];exact⟨b,rfl,hw⟩,.one (.int k b)⟩
  ·rename_i hu;obtain⟨s,rfl,_,hs⟩:=DataW.trod_string hu h;exact⟨[.str s],by simp only[Typ,hu];exact⟨s,rfl,hs⟩,.one (.str s)⟩
  ·rename_i e hu;simp only[Bool.and_eq_true,decide_eq_true_eq] at ho;rcases DataW.trod_slice hu h with⟨rfl,_⟩|⟨a,len,cap,elems,rest,m',_,rfl,hxe,_,hlc,hcm,hel,hei,_,_⟩
   ·refine⟨[.lit [] false none],by simp only[Typ,hu];exact⟨[],rfl,⟨by simp,by simp⟩,by simp⟩,.one (.nil ⟨Nat.le_refl _,(fun e=>by cases e),(fun t e=>by cases e)⟩ fun _=>rfl)⟩
   ·
    have hws:∀ k∈x.1.weights P t,k<=reachBytes:=hwt;rw[hxe] at hws;simp only[DataW.weights,hu,List.mem_cons,List.mem_append,List.length_map] at hws;have hwl:len*P.bytesOf e<=reachBytes:=by
     have h1:=hws _ (.inl rfl);rw[hel] at h1;exact Nat.le_trans (Nat.mul_le_mul_right _ (Nat.le_add_right _ _)) h1
    have hwe:∀ (d:DataW H),d∈elems.map (·.1)->∀ k∈d.weights P e,k<=reachBytes:=by
     have key:∀ (l:List (DataW H)) (d:DataW H),d∈l->∀ k∈d.weights P e,k∈DataW.weightsAll P e l:=by
      intro l
      induction l with
      |nil=>intro d hd;cases hd
      |cons a l ih =>
       intro d hd k hk;simp only[DataW.weightsAll,List.mem_append];rcases List.mem_cons.1 hd with rfl|hd
       ·exact .inl hk
       ·exact .inr (ih d hd k hk)
     exact fun d hd k hk=>hws k (.inr (.inl (key _ d hd k hk)))
    have hel2:∀ i,i<len->∃ y,Typ P n e y/\∃ vs,w.cells? 0 (a.add (i*P.cellsOf e)) (P.cellsOf e)=some vs/\xJ (B2 w) w y vs:=by
     intro i hi;have h1:=hei i hi;rw[List.getElem?_eq_getElem (by omega),Option.bind_eq_some_iff] at h1;obtain⟨vs,q1,q2⟩:=h1;obtain⟨y,q3,q4⟩:=nX hl n m' e vs _ (kid_slice hl ht hu) ho.2 q2 (hwe _ (List.mem_map.2 ⟨_,List.getElem_mem (by omega),rfl⟩));exact⟨y,q3,vs,q1,q4⟩
    obtain⟨ys,hyl,hys⟩:=zS len hel2
    refine⟨[.lit (ys.map (mkV P e)) false none],by
     simp only[Typ,hu];refine⟨ys,rfl,⟨by omega,by rw[hyl];exact hwl⟩,fun y hy=>?_⟩;obtain⟨i,hi⟩:=List.getElem?_of_mem hy
     exact (hys i y hi).1,.one ?_⟩
    by_cases h0:len=0
    ·subst h0;obtain rfl:ys=[]:=List.eq_nil_of_length_eq_zero hyl;exact .nil ⟨Nat.zero_le _,(fun e=>by cases e),(fun t e=>by cases e)⟩ fun e=>by cases e
    ·
     have hcell:∀ i j,i<len->j<P.cellsOf e->∃ v,w.cell? ((a.add (i*P.cellsOf e)).add j)=some v:=by
      intro i j hi hj;obtain⟨y,_,vs,q1,_⟩:=hel2 i hi;simp only[World.cells?,Nat.zero_le,if_true] at q1;have hlen:=mapM_some_length q1;have:=mapM_some_get q1 j j (by simp[hj]);rw[List.length_range] at hlen;rw[List.getElem?_eq_getElem (by omega)] at this;exact⟨_,this⟩
     obtain⟨v0,hv0⟩:=hcell 0 0 (by omega) ho.1;rw[Nat.zero_mul] at hv0;have ha0:a.add 0=a:=by simp[Addr.add]
     rw[ha0,ha0] at hv0;have hplain:∀ i,a.add i=⟨a.block,a.off+i,none⟩:=YK hv0;have hae:a=⟨a.block,a.off,none⟩:=by have:=hplain 0;rw[ha0] at this;simpa using this
     have hplain2:∀ i j,(a.add i).add j=⟨a.block,a.off+(i+j),none⟩:=by
      intro i j;rw[hplain];unfold Addr.add;split
      ·rename_i h;simp[h]
      ·simp[Nat.add_assoc]
     have hcell2:∀ i j,i<len->j<P.cellsOf e->∃ v,w.cell? ⟨a.block,a.off+(i*P.cellsOf e+j),none⟩=some v:=by
      intro i j hi hj;have:=hcell i j hi hj;rw[hplain2] at this;exact this
     rw[hae,show len=(ys.map (mkV P e)).length by simp[hyl]];have hsz:∀ (i:Nat) (x:AV),(ys.map (mkV P e))[i]? = some x->∃ y,ys[i]? = some y/\x=mkV P e y/\x.cells=y:=by
      intro i x hx;rw[List.getElem?_map] at hx;cases hy:ys[i]? with
      |none=>rw[hy] at hx;cases hx
      |some y =>
       rw[hy] at hx;simp at hx;exact⟨y,rfl,hx.symm,by rw[<-hx,PV (hys i y hy).1]⟩
     have hvl:∀ (i:Nat) y,ys[i]? = some y->y.length=P.cellsOf e:=by
      intro i y hy;obtain⟨_,vs,q1,q2⟩:=hys i y hy;rw[q2.1];simp only[World.cells?,Nat.zero_le,if_true] at q1;rw[mapM_some_length q1,List.length_range]
     refine .lit (sz:=P.cellsOf e) ⟨by simp;omega,(fun e=>by cases e),(fun t e=>by cases e)⟩ ⟨?_,(fun t e=>by cases e),fun i x hx=>?_,fun k hk=>?_⟩ fun i x j c u hx hc hu2=>?_
     ·obtain⟨v,hv⟩:=hcell2 (len-1) (P.cellsOf e-1) (by omega) (by omega);obtain⟨L,q1,q2⟩:=aCE hv;refine⟨L,q1,?_⟩;rw[List.length_map,hyl];have:(len-1)*P.cellsOf e+P.cellsOf e=len*P.cellsOf e:=by
       rw[<-Nat.succ_mul];congr 1;omega
      omega
     ·obtain⟨y,q1,q2,q3⟩:=hsz i x hx;rw[q3];exact hvl i y q1
     ·rw[List.length_map,hyl] at hk;have hd:k/P.cellsOf e<len:=Nat.div_lt_of_lt_mul (by rw[Nat.mul_comm];exact hk);have hm:k%P.cellsOf e<P.cellsOf e:=Nat.mod_lt _ ho.1;obtain⟨v,hv⟩:=hcell2 _ _ hd hm;have:k/P.cellsOf e*P.cellsOf e+k%P.cellsOf e=k:=by rw[Nat.mul_comm];exact Nat.div_add_mod _ _
      rw[this] at hv;rw[hv];rfl
     ·obtain⟨y,q1,q2,q3⟩:=hsz i x hx;rw[q3] at hc;obtain⟨_,vs,p1,p2⟩:=hys i y q1;have hjl:j<P.cellsOf e:=by
       rw[<-hvl i y q1];exact (List.getElem?_eq_some_iff.1 hc).1
      simp only[World.cells?,Nat.zero_le,if_true] at p1;have hg:=mapM_some_get p1 j j (by simp[hjl]);rw[hplain2] at hg;rw[hu2] at hg;exact p2.2 j c u hc hg.symm
  ·rename_i fs hu;rw[List.all_eq_true] at ho;obtain⟨xs,m',_,hxe,hcl,hxl,hf⟩:=DataW.trod_struct hu h;obtain⟨k1,k2,k3⟩:=kid_struct hl ht hu;obtain⟨parts,q1,q2,q3⟩:=X5 (P:=P) (G:=B2 w) (w:=w) (n:=n) (cs:=cs) fs.toList 0 (fun j f hj=>by rw[k3 j f hj];omega) (by rw[hcl,k2];omega) fun f hfm=>by
    obtain⟨i,hi⟩:=List.getElem?_of_mem hfm;have h1:=hf i f (by simpa using hi);have hil:i<xs.length:=by rw[hxl];have:=(List.getElem?_eq_some_iff.1 hi).1;simpa using this
    rw[List.getElem?_eq_getElem hil] at h1;have hd:(xs.map (·.1))[i]? = some xs[i].1:=by rw[List.getElem?_map,List.getElem?_eq_getElem hil];rfl
    have hty:(fs.toList.map (·.type))[i]? = some f.type:=by rw[List.getElem?_map,hi];rfl
    refine nX hl n m' f.type _ _ (k1 f hfm) (ho f hfm) h1 fun k hk=>hwt k ?_
    rw[hxe];simp only[DataW.weights,hu];exact DataW.weights_mem_each hty hd k hk
   rw[List.drop_zero] at q3;exact⟨parts.flatten,by simp only[Typ,hu];exact⟨parts,rfl,q1,q2⟩,q3⟩
  ·rename_i k e hu;obtain⟨xs,m',_,hxe,hcl,hxl,hf⟩:=DataW.trod_array hu h;obtain⟨k1,k2⟩:=kid_array hl ht hu;have hwe:∀ (d:DataW H),d∈xs.map (·.1)->∀ q∈d.weights P e,q<=reachBytes:=by
    have key:∀ (l:List (DataW H)) (d:DataW H),d∈l->∀ q∈d.weights P e,q∈DataW.weightsAll P e l:=by
     intro l
     induction l with
     |nil=>intro d hd;cases hd
     |cons a l ih =>
      intro d hd q hq;simp only[DataW.weightsAll,List.mem_append];rcases List.mem_cons.1 hd with rfl|hd
      ·exact .inl hq
      ·exact .inr (ih d hd q hq)
    intro d hd q hq;refine hwt q ?_;rw[hxe];simp only[DataW.weights,hu];exact key _ d hd q hq
   obtain⟨parts,q1,q2,q3⟩:=aD8 (P:=P) (G:=B2 w) (w:=w) (m:=n) (e:=e) (cs:=cs) k 0 (by rw[hcl,k2];omega) fun i hi=>by
    have h1:=hf i hi;have hil:i<xs.length:=by omega
    rw[List.getElem?_eq_getElem hil] at h1;rw[Nat.zero_add];exact nX hl n m' e _ _ k1 ho h1 (hwe _ (List.mem_map.2 ⟨_,List.getElem_mem hil,rfl⟩))
   rw[List.drop_zero] at q3;exact⟨parts.flatten,by simp only[Typ,hu];exact⟨parts,rfl,q1,q2⟩,q3⟩
  ·cases ho
theorem sA(hl:laidOutB P=true)(n:Nat){t:TypeId}{v:Value}{d:DataW H}{ps:List MemPlace}(ht:t<P.types.size)(ho:M2 P n t=true)(hv:Value.okWide P w .any 0 t v)(h:DataW.Trod enc P w 0 sp held t v d ps)(hwt:∀ k∈d.weights P t,k<=reachBytes):
  ∃ az,Typ P n t az/\RelV (B2 w) w (mkV P t az) v:=by
 obtain⟨m,hm⟩:=h;obtain⟨az,h1,h2⟩:=nX hl n m t _ _ ht ho hm hwt;refine⟨az,h1,?_⟩;have hone:∀ {a:AV},az=[a]->(∀ cs,v≠.agg cs)->RelV (B2 w) w a v:=by
  rintro a rfl hx;have hc:v.cells.toList=[v]:=by cases v<;>first|rfl|exact absurd rfl (hx _)
  rw[hc] at h2;exact h2.2 0 a v rfl rfl
 cases n with
 |zero=>exact h1.elim
 |succ n =>
  unfold mkV;simp only[Typ] at h1;split at h1<;>rename_i hu
  ·obtain⟨b,rfl⟩:=h1;rw[hu];obtain⟨c,hc⟩:=okWide_bool hu hv;exact hone rfl (by rw[hc];intro cs e;cases e)
  ·obtain⟨b,rfl,_⟩:=h1;rw[hu];obtain⟨c,hc⟩:=okWide_int hu hv;exact hone rfl (by rw[hc];intro cs e;cases e)
  ·obtain⟨b,rfl,_⟩:=h1;rw[hu];obtain⟨c,hc⟩:=okWide_string hu hv;exact hone rfl (by rw[hc];intro cs e;cases e)
  ·obtain⟨b,rfl,_⟩:=h1;rw[hu];obtain⟨_,_,_,hc⟩:=okWide_slice hu hv;exact hone rfl (by rw[hc];intro cs e;cases e)
  ·rw[hu];unfold Value.okWide at hv;rw[hu] at hv;obtain⟨cs,rfl,_,_⟩:=hv;refine .agg ?_ fun i a u e1 e2=>?_
   ·have:=h2.1;simpa[Value.cells] using this.symm
   ·exact h2.2 i a u e1 (by simpa[Value.cells] using e2)
  ·rw[hu];unfold Value.okWide at hv;rw[hu] at hv;obtain⟨cs,rfl,_,_⟩:=hv;refine .agg ?_ fun i a u e1 e2=>?_
   ·have:=h2.1;simpa[Value.cells] using this.symm
   ·exact h2.2 i a u e1 (by simpa[Value.cells] using e2)
  ·exact h1.elim
theorem DS{T:FuncId->Option AFunc}(hT:∀ f af,T f=some af->∃ fn,P.funcs[f]? = some fn/\aC P hh fn=some af){f:FuncId}{az:List AV}{vs:Array Value}{w:World}(ha:fA (B2 w) w az vs)(h:Run T (.call f az []) fun o=>o.v = .bool true):
  Calls P f vs w fun e w'=>e = .returned (.bool true)/\RowKit.Below w.heap.size w w':=by
 have hs:=aM4 hT h;refine (callsIn_wide.1 (hs.2 (G:=B2 w) (w:=w) (vs:=vs) ha (TP w))).mono fun e w' hr=>?_
 obtain⟨r,G',u,rfl,q1,q2,q3,q4⟩:=hr;rw[q1] at q2;cases q2;refine⟨rfl,q4.os,q4.tape,q4.output,q4.size,fun k hk=>?_⟩;have hB:G'.B0=w.heap.size:=q4.B0;have hh0:G'.h0=(B2 w).h0:=q4.h0;rw[q3.base k (by rw[hB];exact hk),hh0];simp only[B2,Gh.fresh0];rw[Array.getElem?_append_left hk]
theorem KH{G:Gh}:fA G w [] #[]:=⟨rfl,by simp⟩
theorem qY{G:Gh}{a:AV}{v:Value}{az:List AV}{vs:List Value}(h:RelV G w a v)(hs:fA G w az vs.toArray):fA G w (a::az) (v::vs).toArray:=by
 refine⟨by have:=hs.1;simp at this;simp[this],fun i x u e1 e2=>?_⟩;cases i with
 |zero=>simp at e1 e2;subst e1;subst e2;exact h
 |succ i=>exact hs.2 i x u (by simpa using e1) (by simpa using e2)
def OH(P:Program)(n:Nat):List TypeId->List AV->Prop
 |[],cs=>cs=[]
 |t::ts,cs=>∃ a b,cs=a++b/\Typ P n t a/\OH P n ts b
theorem KB{n:Nat}:∀ (fl:List Field) (parts:List (List AV)),parts.length=fl.length->(∀ (i:Nat) f p,fl[i]? = some f->parts[i]? = some p->Typ P n f.type p)->OH P n (fl.map Field.type) parts.flatten
 |[],parts,hl,_=>by rw[List.length_eq_zero_iff.1 hl];rfl
 |f::fl,[],hl,_=>by simp at hl
 |f::fl,p::parts,hl,h=>⟨p,parts.flatten,rfl,h 0 f p rfl rfl,KB fl parts (by simpa using hl) fun i g q e1 e2=>h (i+1) g q (by simpa using e1) (by simpa using e2)⟩
theorem NS{n:Nat}{t:TypeId}{fs:Array Field}{cs:List AV}(hu:P.underlying t=some (.struct fs))(h:Typ P (n+1) t cs):OH P n (fs.toList.map Field.type) cs:=by
 simp only[Typ,hu] at h;obtain⟨parts,rfl,h1,h2⟩:=h;exact KB fs.toList parts h1 h2
theorem fX{n:Nat}{t:TypeId}{k:IntKind}{cs:List AV}(hu:P.underlying t=some (.int k))(h:Typ P (n+1) t cs):∃ m,cs=[.int k m]/\(Lit.int k m).wf=true:=by
 simp only[Typ,hu] at h;exact h
theorem PG{n:Nat}{t:TypeId}{cs:List AV}(hu:P.underlying t=some .string)(h:Typ P (n+1) t cs):∃ s:ByteArray,cs=[.str s]/\s.size<=maxLen:=by
 simp only[Typ,hu] at h;exact h
theorem mU{n:Nat}{t e:TypeId}{cs:List AV}{α:Type}{f:α->AV}{Q:α->Prop}(hu:P.underlying t=some (.slice e))(h:Typ P (n+1) t cs)(hq:∀ y,Typ P n e y->∃ x,mkV P e y=f x/\Q x):∃ l:List α,cs=[.lit (l.map f) false none]/\(l.length<9223372036854775808/\l.length*P.bytesOf e<=reachBytes)/\∀ x∈l,Q x:=by
 simp only[Typ,hu] at h;obtain⟨ys,rfl,⟨h1,h1b⟩,h2⟩:=h;have key:∀ ys:List (List AV),(∀ y∈ys,Typ P n e y)->∃ l:List α,ys.map (mkV P e)=l.map f/\l.length=ys.length/\∀ x∈l,Q x:=by
  intro ys
  induction ys with
  |nil=>intro _;exact⟨[],rfl,rfl,by simp⟩
  |cons y ys ih =>
   intro hy;obtain⟨x,q1,q2⟩:=hq y (hy y (by simp));obtain⟨l,q3,q4,q5⟩:=ih fun z hz=>hy z (List.mem_cons_of_mem _ hz)
   exact⟨x::l,by simp[q1,q3],by simp[q4],fun z hz=>by
    rcases List.mem_cons.1 hz with rfl|hz
    ·exact q2
    ·exact q5 z hz⟩
 obtain⟨l,q1,q2,q3⟩:=key ys h2;exact⟨l,by rw[q1],⟨by simp only[maxLen] at h1;omega,by rw[q2];exact h1b⟩,q3⟩
theorem L9{t:TypeId}{fs:Array Field}{cs:List AV}(hu:P.underlying t=some (.struct fs)):mkV P t cs = .agg cs:=by simp[mkV,hu]
theorem aMJ{m:Int}(h:(Lit.int .u8 m).wf=true):0<=m/\m<256:=by
 simp[Lit.wf,IntKind.min,IntKind.max,IntKind.signed,IntKind.bits] at h;omega
end Go.Am
namespace Go.Am
variable {T:FuncId->Option AFunc}
def mB(r:Option (AV×St))(K:AV->St->Prop):Prop :=
 match r with
 |some (v,σ)=>K v σ
 |none=>False
@[congr] theorem aC5{r r':Option (AV×St)}{K:AV->St->Prop}(h:r=r'):mB r K=mB r' K:=by rw[h]
@[simp] theorem aID(v:AV)(σ:St)(K:AV->St->Prop):mB (some (v,σ)) K=K v σ:=rfl
@[simp] theorem aGM(K:AV->St->Prop):mB none K=False:=rfl
@[simp] theorem aIU(c:Prop)[Decidable c](r q:Option (AV×St))(K:AV->St->Prop):mB (if c then r else q) K=if c then mB r K else mB q K:=by split<;>rfl
def CI(v:AV)(A B:Unit->Prop):Prop :=
 match v with
 |.bool true=>A ()
 |.bool false=>B ()
 |_=>False
@[congr] theorem aEE{v v':AV}{A B:Unit->Prop}(h:v=v'):CI v A B=CI v' A B:=by rw[h]
@[simp] theorem aG0(b:Bool)(A B:Unit->Prop):CI (.bool b) A B=if b=true then A () else B ():=by cases b<;>rfl
def mV(v:AV)(want:Bool)(A B:Unit->Prop):Prop :=
 match v with
 |.bool b=>if b=want then A () else B ()
 |.tuple []=>B ()
 |_=>False
@[congr] theorem aD6{v v':AV}{want:Bool}{A B:Unit->Prop}(h:v=v'):mV v want A B=mV v' want A B:=by rw[h]
@[simp] theorem aF6(b want:Bool)(A B:Unit->Prop):mV (.bool b) want A B=if b=want then A () else B ():=rfl
@[simp] theorem aIT(want:Bool)(A B:Unit->Prop):mV (.tuple []) want A B=B ():=rfl
def OK(T:FuncId->Option AFunc)(f:AV)(args:List AV)(σ:St)(K:AV->St->Prop):Prop:=Run T (.callv f args σ) fun r=>K r.v r.σ
@[congr] theorem aCN{f f':AV}{args args':List AV}{σ σ':St}{K:AV->St->Prop}(h1:f=f')(h2:args=args')(h3:σ=σ'):OK T f args σ K=OK T f' args' σ' K:=by rw[h1,h2,h3]
def fR(T:FuncId->Option AFunc)(q:AOp)(e:Env)(σ:St)(K:AV->St->Prop):Prop :=
 match q with
 |.call f args=>OK T (f.ev e) (args.map (·.ev e)) σ K
 |q=>mB (aop q e σ) K
@[congr] theorem aG9{q:AOp}{e e':Env}{σ σ':St}{K:AV->St->Prop}(h2:e=e')(h3:σ=σ'):fR T q e σ K=fR T q e' σ' K:=by rw[h2,h3]
def aL(T:FuncId->Option AFunc):List AOper->Env->St->(Env->St->Prop)->Prop
 |[],e,σ,K=>K e σ
 |⟨dst,q,none⟩::os,e,σ,K=>fR T q e σ fun v σ'=>aL T os (Env.put e dst v) σ' K
 |⟨dst,q,some (t,want)⟩::os,e,σ,K =>
  mV (Env.get e t) want (fun _=>fR T q e σ fun v σ'=>aL T os (Env.put e dst v) σ' K) (fun _=>aL T os (Env.put e dst (.tuple [])) σ K)
@[congr] theorem aCY{os:List AOper}{e e':Env}{σ σ':St}{K:Env->St->Prop}(h2:e=e')(h3:σ=σ'):aL T os e σ K=aL T os e' σ' K:=by rw[h2,h3]
theorem pK{Q:Out->Prop}:∀ {os:List AOper} {e:Env} {σ:St} {K:Env->St->Prop},aL T os e σ K->(∀ e σ,K e σ->Q ⟨none,e,σ,.undef⟩)->Run T (.ops os e σ) Q
 |[],e,σ,K,h,hq=>.nil (hq _ _ h)
 |o::os,e,σ,K,h,hq=>by
  have key:o.wanted e=some true->fR T o.op e σ (fun v σ'=>aL T os (Env.put e o.dst v) σ' K)->Run T (.ops (o::os) e σ) Q:=by
   intro hw h;by_cases hc:∃ f args,o.op = .call f args
   ·obtain⟨f,args,ho⟩:=hc;rw[ho] at h;exact .stepc hw ho h fun r hr=>pK hr hq
   ·have:∃ v σ',aop o.op e σ=some (v,σ')/\aL T os (Env.put e o.dst v) σ' K:=by
     unfold fR at h;split at h
     ·rename_i f args ho;exact absurd ⟨f,args,ho⟩ hc
     ·unfold mB at h;split at h
      ·rename_i v σ' hv;exact⟨v,σ',hv,h⟩
      ·exact h.elim
    obtain⟨v,σ',h1,h2⟩:=this;exact .step hw h1 (pK h2 hq)
  obtain⟨dst,q,g⟩:=o;cases g with
  |none=>exact key rfl h
  |some g =>
   obtain⟨t,want⟩:=g;simp only[aL,mV] at h;split at h
   ·rename_i b h1;split at h
    ·rename_i hb;exact key (by simp[AOper.wanted,h1,hb]) h
    ·rename_i hb;exact .off (by simp[AOper.wanted,h1];simpa using hb) (pK h hq)
   ·rename_i h1;exact .off (by simp[AOper.wanted,h1]) (pK h hq)
   ·exact h.elim
abbrev KJ:=Option AJump->Env->St->Prop
def rC(A K:KJ):KJ:=fun j e σ=>match j with|none=>A none e σ|some j=>K (some j) e σ
@[simp] theorem aHV(A K:KJ)(e:Env)(σ:St):rC A K none e σ=A none e σ:=rfl
@[simp] theorem aFX(A K:KJ)(j:AJump)(e:Env)(σ:St):rC A K (some j) e σ=K (some j) e σ:=rfl
def kB(id:Nat)(K:KJ):KJ:=fun j e σ=>match j with|some (.exit i)=>if i=id then K none e σ else K (some (.exit i)) e σ|j=>K j e σ
@[simp] theorem aCU(id:Nat)(K:KJ)(e:Env)(σ:St):kB id K none e σ=K none e σ:=rfl
@[simp] theorem aHS(id:Nat)(K:KJ)(e:Env)(σ:St):kB id K (some .ret) e σ=K (some .ret) e σ:=rfl
@[simp] theorem aDQ(id i:Nat)(K:KJ)(e:Env)(σ:St):kB id K (some (.exit i)) e σ=if i=id then K none e σ else K (some (.exit i)) e σ:=rfl
def LN(T:FuncId->Option AFunc)(c:ACode)(e:Env)(σ:St)(K:KJ):Prop:=Run T (.code c e σ) fun o=>K o.j o.env o.σ
@[congr] theorem aGT{c:ACode}{e e':Env}{σ σ':St}{K:KJ}(h2:e=e')(h3:σ=σ'):LN T c e σ K=LN T c e' σ' K:=by rw[h2,h3]
def wp(T:FuncId->Option AFunc):ACode->Env->St->KJ->Prop
 |.skip,e,σ,K=>K none e σ
 |.reg os,e,σ,K=>aL T os e σ fun e σ=>K none e σ
 |.seq a b,e,σ,K=>wp T a e σ (rC (fun _ e σ=>wp T b e σ K) K)
 |.cond c a b,e,σ,K=>CI (c.ev e) (fun _=>wp T a e σ K) (fun _=>wp T b e σ K)
 |.block id b,e,σ,K=>wp T b e σ (kB id K)
 |.jump j,e,σ,K=>K (some j) e σ
 |.scope b,e,σ,K=>wp T b e σ K
 |c,e,σ,K=>LN T c e σ K
@[congr] theorem aL6{c:ACode}{e e':Env}{σ σ':St}{K:KJ}(h2:e=e')(h3:σ=σ'):wp T c e σ K=wp T c e' σ' K:=by rw[h2,h3]
theorem eP{Q:Out->Prop}:∀ {c:ACode} {e:Env} {σ:St} {K:KJ},wp T c e σ K->(∀ o,K o.j o.env o.σ->Q o)->Run T (.code c e σ) Q:=by
 intro c
 induction c generalizing Q with
 |skip=>intro e σ K h hq;exact .skip (hq ⟨none,e,σ,.undef⟩ h)
 |reg os=>intro e σ K h hq;exact .reg (pK h fun e σ hk=>hq ⟨none,e,σ,.undef⟩ hk)
 |dreg ds=>intro e σ K h hq;exact .mono h hq
 |seq a b iha ihb =>
  intro e σ K h hq;refine .seq (iha h fun o ho=>ho) (fun o ho hj=>?_) fun o ho hj=>?_
  ·simp only[hj,rC] at ho;exact ihb ho hq
  ·refine hq o ?_;cases hj':o.j with
   |none=>exact absurd hj' hj
   |some j=>simp only[hj',rC] at ho;exact ho
 |cond c a b iha ihb =>
  intro e σ K h hq;simp only[wp,CI] at h;split at h
  ·rename_i h1;exact .cond true h1 (iha h hq)
  ·rename_i h1;exact .cond false h1 (ihb h hq)
  ·exact h.elim
 |block id b ih =>
  intro e σ K h hq;refine .block (ih h fun o ho=>ho) fun o ho=>hq _ ?_
  unfold kB at ho;split at ho
  ·rename_i i hj;split at ho
   ·rename_i hi;subst hi;rw[if_pos hj];exact ho
   ·rename_i hi;rw[if_neg (by rw[hj];simpa using hi),hj];exact ho
  ·rename_i hj;rw[if_neg (fun e=>hj _ e)];exact ho
 |loop b ih=>intro e σ K h hq;exact .mono h hq
 |rangeFunc f ps a b _ _=>intro e σ K h hq;exact .mono h hq
 |jump j=>intro e σ K h hq;exact .jump (hq ⟨some j,e,σ,.undef⟩ h)
 |scope b ih=>intro e σ K h hq;exact .scope (ih h hq)
def cE(T:FuncId->Option AFunc)(f:FuncId)(args:List AV)(v:AV):Prop:=∀ σ,Run T (.call f args σ) fun o=>o.v=v/\o.σ=σ
theorem sO(σ τ:St)(k:Nat):(σ++τ)[σ.length+k]? = τ[k]?:=by rw[List.getElem?_append_right (by omega)];congr 1;omega
theorem pA(σ τ:St)(k:Nat)(x:ABlk):(σ++τ).set (σ.length+k) x=σ++τ.set k x:=by rw[List.set_append_right _ _ (by omega)];congr 2;omega
theorem aBT(σ τ:St)(x:ABlk):(σ++τ).set σ.length x=σ++τ.set 0 x:=pA σ τ 0 x
end Go.Am
namespace Go.Am
variable {T:FuncId->Option AFunc}
theorem aKR(e:Env)(d:Nat)(v:AV):Env.put e (some d) v=(d,v)::e:=by simp only[Env.put]
theorem aEG(e:Env)(v:AV):Env.put e none v=e:=by simp only[Env.put]
theorem S5(k:Nat)(v:AV)(e:Env)(t:Nat):Env.get ((k,v)::e) t=if k=t then v else Env.get e t:=by simp only[Env.get]
theorem O7(e:Env)(t:Nat):AOpd.ev e (.t t)=Env.get e t:=by simp only[AOpd.ev]
theorem aJJ(e:Env)(v:AV):AOpd.ev e (.c v)=v:=by simp only[AOpd.ev]
theorem aK6(os:List AOper)(e:Env)(σ:St)(K:KJ):wp T (.reg os) e σ K=aL T os e σ fun e σ=>K none e σ:=by simp only[wp]
theorem aLO(a b:ACode)(e:Env)(σ:St)(K:KJ):wp T (.seq a b) e σ K=wp T a e σ (rC (fun _ e σ=>wp T b e σ K) K):=by simp only[wp]
theorem aF7(j:AJump)(e:Env)(σ:St)(K:KJ):wp T (.jump j) e σ K=K (some j) e σ:=by simp only[wp]
theorem aH3(A K:KJ)(e:Env)(σ:St):rC A K none e σ=A none e σ:=by simp only[rC]
theorem aLW(e:Env)(σ:St)(K:Env->St->Prop):aL T [] e σ K=K e σ:=by simp only[aL]
def aLK(r:Option AV)(σ:St)(K:AV->St->Prop):Prop:=match r with|some v=>K v σ|none=>False
@[congr] theorem aIP{r r':Option AV}{σ σ':St}{K:AV->St->Prop}(h:r=r')(h2:σ=σ'):aLK r σ K=aLK r' σ' K:=by rw[h,h2]
def aJ0(r:Option (List AV))(σ:St)(K:AV->St->Prop):Prop:=match r with|some cs=>K (.agg cs) σ|none=>False
@[congr] theorem aHR{r r':Option (List AV)}{σ σ':St}{K:AV->St->Prop}(h:r=r')(h2:σ=σ'):aJ0 r σ K=aJ0 r' σ' K:=by rw[h,h2]
def aI6(r:Option St)(K:AV->St->Prop):Prop:=match r with|some σ=>K (.tuple []) σ|none=>False
@[congr] theorem aGG{r r':Option St}{K:AV->St->Prop}(h:r=r'):aI6 r K=aI6 r' K:=by rw[h]
def kG(n:Nat)(v:AV):Option (List AV):=if (v.cells.length==n&&v.cells.all (·.cell))=true then some v.cells else none
def yB(off:Nat):AV->Option AV
 |.ptr id o=>some (.ptr id (o+off))
 |.lptr xs i o t=>some (.lptr xs i (o+off) t)
 |_=>none
theorem X9(off id o:Nat):yB off (.ptr id o)=some (.ptr id (o+off)):=by simp[yB]
theorem ST(off:Nat)(xs:List AV)(i o:Nat)(t:Option Nat):yB off (.lptr xs i o t)=some (.lptr xs i (o+off) t):=by simp[yB]
def aJ9(r:Option (List AV))(σ:St)(K:AV->St->Prop):Prop:=match r with|some cs=>K (.ptr σ.length 0) (σ++[.cells cs])|none=>False
@[congr] theorem aFZ{r r':Option (List AV)}{σ σ':St}{K:AV->St->Prop}(h:r=r')(h2:σ=σ'):aJ9 r σ K=aJ9 r' σ' K:=by rw[h,h2]
def aCH(i:Nat):AV->Option AV
 |.tuple vs=>vs[i]?
 |_=>none
theorem aFO(i:Nat)(vs:List AV):aCH i (.tuple vs)=vs[i]?:=by simp[aCH]
def aAF:AV->Option AV
 |.bool b=>some (.bool !b)
 |_=>none
theorem aF9(b:Bool):aAF (.bool b)=some (.bool !b):=by simp[aAF]
def D1(sh:EqTy)(neg:Bool)(x y:AV):Option AV:=(iG sh x y).map fun b=>.bool (if neg then !b else b)
theorem aH0(e:Env)(σ:St)(K:KJ):wp T .skip e σ K=K none e σ:=by simp only[wp]
theorem YS(id:Nat)(b:ACode)(e:Env)(σ:St)(K:KJ):wp T (.block id b) e σ K=wp T b e σ (kB id K):=by simp only[wp]
theorem Y1(b:ACode)(e:Env)(σ:St)(K:KJ):wp T (.scope b) e σ K=wp T b e σ K:=by simp only[wp]
theorem ZC(A K:KJ)(j:AJump)(e:Env)(σ:St):rC A K (some j) e σ=K (some j) e σ:=by simp only[rC]
theorem aG3(k:Nat):dW k []=[]:=by simp only[dW]
theorem aKX(k:Nat)(v:AV)(vs:List AV):dW k (v::vs)=(k,v)::dW (k+1) vs:=by simp only[dW]
theorem aI3(e:Env)(cs:List AV)(off n:Nat)(x:AOpd)(rest:List (Nat×Nat×AOpd)):
  cJ e cs ((off,n,x)::rest)=((kG n (x.ev e)).bind fun us=>eG cs off us).bind fun cs=>cJ e cs rest:=by
 simp only[cJ,kG];split
 ·simp only[Option.bind_some];cases eG cs off (x.ev e).cells<;>simp
 ·simp
end Go.Am
namespace Go.Am
variable {T:FuncId->Option AFunc}
def J2(I:Nat->Env->St->Prop)(k:Nat)(K:KJ):KJ:=fun j e σ=>match j with|none=>∃ k',k'<k/\I k' e σ|some j=>K (some j) e σ
theorem kY(I:Nat->Env->St->Prop)(k:Nat)(K:KJ)(e:Env)(σ:St):J2 I k K none e σ = ∃ k',k'<k/\I k' e σ:=by simp only[J2]
theorem kQ(I:Nat->Env->St->Prop)(k:Nat)(K:KJ)(j:AJump)(e:Env)(σ:St):J2 I k K (some j) e σ=K (some j) e σ:=by simp only[J2]
theorem XC{b:ACode}{K:KJ}(I:Nat->Env->St->Prop)(step:∀ k e σ,I k e σ->wp T b e σ (J2 I k K)):∀ n e σ,I n e σ->LN T (.loop b) e σ K:=by
 intro n
 induction n using Nat.strongRecOn with
 |_ n ih =>
  intro e σ h;refine .loop (eP (step n e σ h) fun o ho=>ho) (fun o ho hj=>?_) fun o ho hj=>?_
  ·simp only[hj,kY] at ho;obtain⟨k',hk,hI⟩:=ho;exact ih k' hk o.env o.σ hI
  ·cases hj':o.j with
   |none=>exact absurd hj' hj
   |some j=>simp only[hj',kQ] at ho;exact ho
end Go.Am
namespace Go.Am
variable {T:FuncId->Option AFunc}
def EW(r:ARead):List St->Nat->Prop
 |[],_=>True
 |s::ss,j=>(if r.lo<=j/\j<=r.hi then aop r.op r.env s=some (r.v,s) else True)/\EW r ss (j+1)
theorem KN{r:ARead}:∀ {hist:List St} {k:Nat},EW r hist k->∀ j s,r.lo<=k+j->k+j<=r.hi->hist[j]? = some s->aop r.op r.env s=some (r.v,s)
 |[],k,_,j,s,_,_,h=>by simp at h
 |t::ss,k,h,j,s,h1,h2,h3=>by
  obtain⟨q1,q2⟩:=h;cases j with
  |zero=>simp at h3;subst h3;rw[if_pos ⟨by omega,by omega⟩] at q1;exact q1
  |succ j=>exact KN q2 j s (by omega) (by omega) (by simpa using h3)
def qG:List ARead->List St->Prop
 |[],_=>True
 |r::rs,hist=>EW r hist 0/\qG rs hist
theorem FL:∀ {rs:List ARead} {hist:List St},qG rs hist->∀ r∈rs,ARead.ok r hist
 |[],_,_,r,h=>by cases h
 |r::rs,hist,h,q,hq=>by
  rcases List.mem_cons.1 hq with rfl|hq
  ·intro j s h1 h2 h3;exact KN h.1 j s (by omega) (by omega) h3
  ·exact FL h.2 q hq
def EX(T:FuncId->Option AFunc)(f:AV)(args:List AV)(σ:St)(K:AV->St->Prop):Prop:=∃ v σ',Run T (.callv f args σ) (fun r=>r.v=v/\r.σ=σ')/\K v σ'
@[congr] theorem aDB{f f':AV}{args args':List AV}{σ σ':St}{K:AV->St->Prop}(h1:f=f')(h2:args=args')(h3:σ=σ'):EX T f args σ K=EX T f' args' σ' K:=by rw[h1,h2,h3]
def wpD(T:FuncId->Option AFunc):List ADOper->Env->St->Nat->List St->List ARead->(Env->St->Prop)->Prop
 |[],e,σ,_,hist,reads,K=>qG reads hist/\K e σ
 |⟨⟨dst,.call f args,none⟩,_,_⟩::ds,e,σ,next,hist,reads,K=>EX T (f.ev e) (args.map (·.ev e)) σ fun v σ'=>wpD T ds (Env.put e dst v) σ' next (hist++[σ']) reads K
 |⟨⟨dst,.alloc _,none⟩,_,_⟩::ds,e,σ,next,hist,reads,K=>wpD T ds (Env.put e dst (.ptr next 0)) σ (next+1) hist reads K
 |⟨⟨dst,q,none⟩,lo,hi⟩::ds,e,σ,next,hist,reads,K =>
  mB (aop q e σ) fun v σ' =>
   if q.acts=true then wpD T ds (Env.put e dst v) σ' next (hist++[σ']) reads K
   else σ'=σ/\if q.reads=true then wpD T ds (Env.put e dst v) σ next hist (⟨lo,hi,q,e,v⟩::reads) K else wpD T ds (Env.put e dst v) σ next hist reads K
 |⟨⟨dst,.call f args,some (t,want)⟩,_,_⟩::ds,e,σ,next,hist,reads,K =>
  mV (Env.get e t) want (fun _=>EX T (f.ev e) (args.map (·.ev e)) σ fun v σ'=>wpD T ds (Env.put e dst v) σ' next (hist++[σ']) reads K)
   (fun _=>wpD T ds (Env.put e dst (.tuple [])) σ next (hist++[σ]) reads K)
 |⟨⟨dst,q,some (t,want)⟩,lo,hi⟩::ds,e,σ,next,hist,reads,K =>
  mV (Env.get e t) want
   (fun _=>q.allocs=false/\mB (aop q e σ) fun v σ' =>
    if q.acts=true then wpD T ds (Env.put e dst v) σ' next (hist++[σ']) reads K
    else σ'=σ/\if q.reads=true then wpD T ds (Env.put e dst v) σ next hist (⟨lo,hi,q,e,v⟩::reads) K else wpD T ds (Env.put e dst v) σ next hist reads K)
   (fun _=>wpD T ds (Env.put e dst (.tuple [])) σ (if q.allocs then next+1 else next) (if q.acts then hist++[σ] else hist) reads K)
theorem jY{Q:Out->Prop}:∀ {ds:List ADOper} {e:Env} {σ:St} {next:Nat} {hist:List St} {reads:List ARead} {K:Env->St->Prop},wpD T ds e σ next hist reads K ->
  (∀ e σ,K e σ->Q ⟨none,e,σ,.undef⟩)->Run T (.dops ds e σ next hist reads) Q
 |[],e,σ,next,hist,reads,K,h,hq=>.dnil (FL h.1) (hq _ _ h.2)
 |⟨⟨dst,q,g⟩,lo,hi⟩::ds,e,σ,next,hist,reads,K,h,hq=>by
  -- an operation that is neither a call nor a new variable
  have key:AOper.wanted ⟨dst,q,g⟩ e=some true->q.allocs=false->(mB (aop q e σ) fun v σ' =>
    if q.acts=true then wpD T ds (Env.put e dst v) σ' next (hist++[σ']) reads K
    else σ'=σ/\if q.reads=true then wpD T ds (Env.put e dst v) σ next hist (⟨lo,hi,q,e,v⟩::reads) K else wpD T ds (Env.put e dst v) σ next hist reads K) ->
    Run T (.dops (⟨⟨dst,q,g⟩,lo,hi⟩::ds) e σ next hist reads) Q:=by
   intro hw hal h;unfold mB at h;split at h
   ·rename_i v σ' hv;split at h
    ·rename_i ha;exact .dact hw ha hv (jY h hq)
    ·rename_i ha;obtain⟨rfl,h⟩:=h;split at h
     ·rename_i hr;exact .dread hw hr hv (jY h hq)
     ·rename_i hr;exact .dpure hw (by simp[hal];exact⟨by simpa using ha,by simpa using hr⟩) hv (jY h hq)
   ·exact h.elim
  by_cases hc:∃ f args,q = .call f args
  ·obtain⟨f,args,rfl⟩:=hc;cases g with
   |none =>
    simp only[wpD,EX] at h;obtain⟨v,σ',h1,h2⟩:=h;exact .dcall rfl rfl h1 (jY h2 hq)
   |some g =>
    obtain⟨t,want⟩:=g;simp only[wpD,mV] at h;split at h
    ·rename_i b h1;split at h
     ·rename_i hb;obtain⟨v,σ',h3,h4⟩:=h;exact .dcall (by simp[AOper.wanted,h1,hb]) rfl h3 (jY h4 hq)
     ·rename_i hb;exact .doff (by simp[AOper.wanted,h1];simpa using hb) (by simpa[AOp.allocs,AOp.acts] using jY h hq)
    ·rename_i h1;exact .doff (by simp[AOper.wanted,h1]) (by simpa[AOp.allocs,AOp.acts] using jY h hq)
    ·exact h.elim
  ·cases g with
   |none =>
    by_cases hal:∃ z,q = .alloc z
    ·obtain⟨z,rfl⟩:=hal;simp only[wpD] at h;exact .dalloc rfl rfl (jY h hq)
    ·refine key rfl ?_ ?_
     ·cases q<;>first|rfl|exact absurd ⟨_,rfl⟩ hal
     ·cases q<;>first|exact h|exact absurd ⟨_,_,rfl⟩ hc|exact absurd ⟨_,rfl⟩ hal
   |some g =>
    obtain⟨t,want⟩:=g
    have h:mV (Env.get e t) want (fun _=>q.allocs=false/\mB (aop q e σ) fun v σ' =>
      if q.acts=true then wpD T ds (Env.put e dst v) σ' next (hist++[σ']) reads K
      else σ'=σ/\if q.reads=true then wpD T ds (Env.put e dst v) σ next hist (⟨lo,hi,q,e,v⟩::reads) K else wpD T ds (Env.put e dst v) σ next hist reads K)
      (fun _=>wpD T ds (Env.put e dst (.tuple [])) σ (if q.allocs then next+1 else next) (if q.acts then hist++[σ] else hist) reads K):=by
     cases q<;>first|exact h|exact absurd ⟨_,_,rfl⟩ hc
    simp only[mV] at h;split at h
    ·rename_i b h1;split at h
     ·rename_i hb;exact key (by simp[AOper.wanted,h1,hb]) h.1 h.2
     ·rename_i hb;exact .doff (by simp[AOper.wanted,h1];simpa using hb) (jY h hq)
    ·rename_i h1;exact .doff (by simp[AOper.wanted,h1]) (jY h hq)
    ·exact h.elim
end Go.Am
namespace Go.Am
variable {T:FuncId->Option AFunc}
class HP (α:Type) where
 out:α
def bO(r:Option (AV×St))[K:HP (AV->St->Prop)]:Prop:=mB r K.out
theorem aFT(v:AV)(σ:St)(K:AV->St->Prop):bO (K:=⟨K⟩) (some (v,σ))=K v σ:=by simp only[bO,mB]
def cK(T:FuncId->Option AFunc)(f:AV)(args:List AV)(σ:St)[K:HP (AV->St->Prop)]:Prop:=OK T f args σ K.out
def cD(T:FuncId->Option AFunc)(f:AV)(args:List AV)(σ:St)[K:HP (AV->St->Prop)]:Prop:=EX T f args σ K.out
def rK(T:FuncId->Option AFunc)(c:ACode)(e:Env)(σ:St)[K:HP KJ]:Prop:=LN T c e σ K.out
def AG(b:Bool)[A:HP Prop][B:HP Prop]:Prop:=if b=true then A.out else B.out
theorem EZ(A:Prop)(B:HP Prop):AG (A:=⟨A⟩) true=A:=by simp[AG]
theorem MC(A:HP Prop)(B:Prop):AG (B:=⟨B⟩) false=B:=by simp[AG]
theorem aF{b:Bool}{A B:Prop}(h1:b=true->A)(h2:b=false->B):AG (A:=⟨A⟩) (B:=⟨B⟩) b:=by cases b<;>simp[AG]<;>first|exact h1 rfl|exact h2 rfl
def bB(v:AV)[A:HP Prop][B:HP Prop]:Prop:=CI v (fun _=>A.out) (fun _=>B.out)
def bG(v:AV)(want:Bool)[A:HP Prop][B:HP Prop]:Prop:=mV v want (fun _=>A.out) (fun _=>B.out)
theorem aHO(b:ACode)(e:Env)(σ:St)(K:KJ):wp T (.loop b) e σ K=rK (K:=⟨K⟩) T (.loop b) e σ:=by simp only[wp,rK]
theorem aAR(f:AOpd)(ps:List Nat)(a b:ACode)(e:Env)(σ:St)(K:KJ):wp T (.rangeFunc f ps a b) e σ K=rK (K:=⟨K⟩) T (.rangeFunc f ps a b) e σ:=by simp only[wp,rK]
theorem aEU(c:AOpd)(a b:ACode)(e:Env)(σ:St)(K:KJ):wp T (.cond c a b) e σ K=bB (A:=⟨wp T a e σ K⟩) (B:=⟨wp T b e σ K⟩) (c.ev e):=by simp only[wp,bB]
def evs(e:Env):List AOpd->List AV
 |[]=>[]
 |x::xs=>x.ev e::evs e xs
theorem mD(e:Env):∀ xs:List AOpd,xs.map (·.ev e)=evs e xs
 |[]=>rfl
 |x::xs=>by simp[evs,mD e xs]
def ovs(e:Env):Option AOpd->Option AV
 |none=>none
 |some x=>some (x.ev e)
def E6:AV->AV->AV->Option AV
 |.bool true,x,_=>some x
 |.bool false,_,y=>some y
 |_,_,_=>none
def yL(n:Nat)(xs:List AV):Option AV:=if aI n xs=true then some (.lit xs true none) else none
def KR:AV->Option AV
 |.ptr i o=>some (.ptr i o)
 |.lptr xs i o t=>some (.lptr xs i o t)
 |.func f a b=>some (.func f a b)
 |.yield i=>some (.yield i)
 |_=>none
def ZL:AV->Option AV
 |.int k n=>some (.int k (k.wrap (0-n)))
 |_=>none
def PL(k:IntKind):AV->Option AV
 |.int _ n=>some (.int k (k.wrap n))
 |_=>none
def aCG:AV->Option ByteArray
 |.str s=>some s
 |_=>none
def y7(σ:St):AV->Option (AV×St)
 |.ptr id 0 =>
  match σ[id]? with
  |some (.siter s pos) =>
   if pos<s.size then some (.tuple [.bool true,.int .i64 pos,.int .i32 (Utf8.decode s pos).1],σ.set id (.siter s (pos+(Utf8.decode s pos).2)))
   else some (.tuple [.bool false],σ)
  |_=>none
 |_=>none
def v4(bytes:Nat)(l c:AV):Option Nat :=
 match l,c with
 |.int _ n,.int _ m=>if 0<=n/\n=m/\n*bytes<=room/\n<=room then some n.toNat else none
 |_,_=>none
def m4(d:Nat):Option AV->Option Int
 |none=>some d
 |some x=>eQ x
def AM(sz:Nat)(σ:St)(x:AV)(lo hi mx:Option AV):Option AV :=
 match gO 1 σ x with
 |none=>none
 |some n =>
  match m4 0 lo,m4 n hi,mx.map eQ with
  |some l,some h,none=>mH sz x l h false
  |some l,some h,some (some m)=>if m=h/\hi.isSome=true then mH sz x l h true else none
  |_,_,_=>none
def A1(n sz:Nat)(x:AV)(lo hi:Option AV):Option AV :=
 match x,m4 0 lo,m4 n hi with
 |.ptr id off,some l,some h=>if 0<=l/\l<=h/\h<=n then some (.ref id (off+l.toNat*sz) (h.toNat-l.toNat) sz) else none
 |_,_,_=>none
def FZ(off:Nat)(sh:Option Nat):AV->Option AV
 |.agg cs=>dQ sh cs off
 |_=>none
def oT(arr:Option Nat)(sz:Nat)(x i:AV):Option AV :=
 match eQ i,arr,x with
 |some j,some n,.ptr id off=>if 0<=j/\j<n then some (.ptr id (off+j.toNat*sz)) else none
 |some j,some n,.lptr xs q off t=>if 0<=j/\j<n then some (.lptr xs q (off+j.toNat*sz) t) else none
 |some j,none,.lit xs _ t =>
  match xs[j.toNat]? with
  |some y=>if 0<=j/\y.cells.length=sz then some (.lptr xs j.toNat 0 t) else none
  |none=>none
 |some j,none,.ref id off len sz'=>if 0<=j/\j<len/\sz'=sz then some (.ptr id (off+j.toNat*sz)) else none
 |_,_,_=>none
def GJ(n sz:Nat)(sh:Option Nat)(x i:AV):Option AV :=
 match eQ i,x with
 |some j,.agg cs=>if 0<=j/\j<n then dQ sh cs (j.toNat*sz) else none
 |_,_=>none
def A5(x i:AV):Option AV :=
 match eQ i,x with
 |some j,.str s=>if 0<=j then (s[j.toNat]?).map fun b=>.int .u8 b.toNat else none
 |_,_=>none
def OQ(ok:Bool)(zero:AV):Option (Option AV)->Option AV
 |some (some v)=>some (if ok then .tuple [v,.bool true] else v)
 |some none=>some (if ok then .tuple [zero,.bool false] else zero)
 |none=>none
def qE(sh:EqTy)(σ:St)(m k v:AV):Option St :=
 match m with
 |.map id =>
  if (iG sh k k).isSome=false then none else
  match σ[id]? with
  |some (.map es)=>(kW sh k v es).map fun es'=>σ.set id (.map es')
  |_=>none
 |_=>none
theorem aMM(x:AOpd)(e:Env)(σ:St):aop (.mov x) e σ=some (x.ev e,σ):=by
 simp only[aop]
theorem aA3(z:List AV)(e:Env)(σ:St):aop (.alloc z) e σ=some (.ptr σ.length 0,σ++[.cells z]):=by
 simp only[aop]
theorem aEZ(c x y:AOpd)(e:Env)(σ:St):aop (.pick c x y) e σ=(E6 (c.ev e) (x.ev e) (y.ev e)).map (·,σ):=by
 simp only[aop,E6];repeat' split
 all_goals simp_all
theorem aJ1(n:Nat)(x:AOpd)(e:Env)(σ:St):aop (.box n x) e σ=(kG n (x.ev e)).map fun cs=>(.ptr σ.length 0,σ++[.cells cs]):=by
 simp only[aop,kG];split<;>simp_all
theorem Y2(z:List AV)(ps:List (Nat×Nat×AOpd))(e:Env)(σ:St):aop (.build z ps) e σ=(cJ e z ps).map fun cs=>(.agg cs,σ):=by
 simp only[aop];cases cJ e z ps<;>simp
theorem aAM(n:Nat)(xs:List AOpd)(e:Env)(σ:St):aop (.mklit n xs) e σ=(yL n (evs e xs)).map (·,σ):=by
 simp only[aop,yL,mD];split<;>simp_all
theorem aAD(n:Nat)(xs:List AOpd)(e:Env)(σ:St):aop (.mkref n xs) e σ=(yL n (evs e xs)).map fun _=>(.ref σ.length 0 (evs e xs).length n,σ++[.cells ((evs e xs).flatMap AV.cells)]):=by
 simp only[aop,yL,mD];have:=congrArg List.length (mD e xs);split<;>simp_all
theorem aEO(sh:Option Nat)(x:AOpd)(e:Env)(σ:St):aop (.load sh x) e σ=(jC sh σ (x.ev e)).map (·,σ):=by
 simp only[aop];cases jC sh σ (x.ev e)<;>simp
theorem aA5(n:Nat)(x y:AOpd)(e:Env)(σ:St):aop (.store n x y) e σ=(j7 n σ (x.ev e) (y.ev e)).map (.tuple [],·):=by
 simp only[aop];cases j7 n σ (x.ev e) (y.ev e)<;>simp
theorem NQ(x:AOpd)(e:Env)(σ:St):aop (.nilCheck x) e σ=(KR (x.ev e)).map (·,σ):=by
 simp only[aop,KR];cases x.ev e<;>simp
theorem aKV(op:BinOp)(x y:AOpd)(e:Env)(σ:St):aop (.bin op x y) e σ=(cY op (x.ev e) (y.ev e)).map (·,σ):=by
 simp only[aop];cases cY op (x.ev e) (y.ev e)<;>simp
theorem aK9(sh:EqTy)(n:Bool)(x y:AOpd)(e:Env)(σ:St):aop (.eql sh n x y) e σ=(D1 sh n (x.ev e) (y.ev e)).map (·,σ):=by
 simp only[aop,D1];cases iG sh (x.ev e) (y.ev e)<;>simp
theorem aJ3(x:AOpd)(e:Env)(σ:St):aop (.not x) e σ=(aAF (x.ev e)).map (·,σ):=by
 simp only[aop,aAF];cases x.ev e<;>simp
theorem aLC(x:AOpd)(e:Env)(σ:St):aop (.neg x) e σ=(ZL (x.ev e)).map (·,σ):=by
 simp only[aop,ZL];cases x.ev e<;>simp
theorem aGR(k:IntKind)(x:AOpd)(e:Env)(σ:St):aop (.conv k x) e σ=(PL k (x.ev e)).map (·,σ):=by
 simp only[aop,PL];cases x.ev e<;>simp
theorem aBM(f:FuncId)(xs ys:List AOpd)(e:Env)(σ:St):aop (.mkfun f xs ys) e σ=some (.func f (evs e xs) (evs e ys),σ):=by
 simp only[aop,mD]
theorem aBY(e:Env)(σ:St):aop (.mkmap) e σ=some (.map σ.length,σ++[.map []]):=by
 simp only[aop]
theorem QU(z:List AV)(b:Nat)(x y:AOpd)(e:Env)(σ:St):aop (.mkslice z b x y) e σ=(v4 b (x.ev e) (y.ev e)).map fun n=>(.ref σ.length 0 n z.length,σ++[.cells (List.replicate n z).flatten]):=by
 simp only[aop,v4];generalize x.ev e=u;generalize y.ev e=v;cases u<;>cases v<;>first|rfl|(dsimp only;split<;>first|rfl|simp_all|(split<;>simp_all))
theorem TG(n:Nat)(x:AOpd)(lo hi mx:Option AOpd)(e:Env)(σ:St):aop (.slicev n x lo hi mx) e σ=(AM n σ (x.ev e) (ovs e lo) (ovs e hi) (ovs e mx)).map (·,σ):=by
 simp only[aop,AM];cases gO 1 σ (x.ev e)<;>cases lo<;>cases hi<;>cases mx<;>simp only[bT,m4,ovs,Option.map_none,Option.map_some]<;>repeat' split
 all_goals simp_all
theorem XL(n s:Nat)(x:AOpd)(lo hi:Option AOpd)(e:Env)(σ:St):aop (.slicea n s x lo hi) e σ=(A1 n s (x.ev e) (ovs e lo) (ovs e hi)).map (·,σ):=by
 simp only[aop,A1];generalize x.ev e=u;cases lo with
 |none=>cases hi with
  |none=>simp only[bT,m4,ovs];cases u<;>first|rfl|(dsimp only;split<;>first|rfl|simp_all|(split<;>simp_all))
  |some h=>simp only[bT,m4,ovs];generalize eQ (h.ev e)=p;cases u<;>cases p<;>first|rfl|(dsimp only;split<;>first|rfl|simp_all|(split<;>simp_all))
 |some l=>cases hi with
  |none=>simp only[bT,m4,ovs];generalize eQ (l.ev e)=p;cases u<;>cases p<;>first|rfl|(dsimp only;split<;>first|rfl|simp_all|(split<;>simp_all))
  |some h=>simp only[bT,m4,ovs];generalize eQ (l.ev e)=p;generalize eQ (h.ev e)=q;cases u<;>cases p<;>cases q<;>first|rfl|(dsimp only;split<;>first|rfl|simp_all|(split<;>simp_all))
theorem aCB(x:AOpd)(o:Nat)(e:Env)(σ:St):aop (.faddr x o) e σ=(yB o (x.ev e)).map (·,σ):=by
 simp only[aop,yB];cases x.ev e<;>simp
theorem ZT(x:AOpd)(o:Nat)(sh:Option Nat)(e:Env)(σ:St):aop (.field x o sh) e σ=(FZ o sh (x.ev e)).map (·,σ):=by
 simp only[aop,FZ];cases x.ev e<;>simp<;>(rename_i cs;cases dQ sh cs o<;>simp)
theorem YV(a:Option Nat)(s:Nat)(x i:AOpd)(e:Env)(σ:St):aop (.iaddr a s x i) e σ=(oT a s (x.ev e) (i.ev e)).map (·,σ):=by
 simp only[aop,oT];generalize eQ (i.ev e)=q;generalize x.ev e=u;cases q<;>cases a<;>cases u<;>first|rfl|(dsimp only;split<;>first|rfl|simp_all|(split<;>simp_all))
theorem ZM(n s:Nat)(sh:Option Nat)(x i:AOpd)(e:Env)(σ:St):aop (.index n s sh x i) e σ=(GJ n s sh (x.ev e) (i.ev e)).map (·,σ):=by
 simp only[aop,GJ];generalize eQ (i.ev e)=q;generalize x.ev e=u;cases q<;>cases u<;>first|rfl|(dsimp only;split<;>first|rfl|simp_all|(split<;>simp_all))
theorem S1(x i:AOpd)(e:Env)(σ:St):aop (.sindex x i) e σ=(A5 (x.ev e) (i.ev e)).map (·,σ):=by
 simp only[aop,A5];generalize eQ (i.ev e)=q;generalize x.ev e=u;cases q<;>cases u<;>first|rfl|(dsimp only;split<;>first|rfl|(rename_i k b h;cases b[k.toNat]?<;>rfl))
theorem SY(sh:EqTy)(ok:Bool)(z:AV)(m k:AOpd)(e:Env)(σ:St):aop (.lookup sh ok z m k) e σ=(OQ ok z (vW sh σ (m.ev e) (k.ev e))).map (·,σ):=by
 simp only[aop,OQ];cases vW sh σ (m.ev e) (k.ev e) with
 |none=>rfl
 |some o=>cases o<;>rfl
theorem V2(sh:EqTy)(m k v:AOpd)(e:Env)(σ:St):aop (.mapset sh m k v) e σ=(qE sh σ (m.ev e) (k.ev e) (v.ev e)).map (.tuple [],·):=by
 simp only[aop,qE];repeat' split
 all_goals simp_all
theorem aLG(x:AOpd)(i:Nat)(e:Env)(σ:St):aop (.ext x i) e σ=(aCH i (x.ev e)).map (·,σ):=by
 simp only[aop,aCH];cases x.ev e<;>simp<;>(rename_i vs;cases vs[i]?<;>simp)
theorem aK7(k:Nat)(x:AOpd)(e:Env)(σ:St):aop (.len k x) e σ=(gO k σ (x.ev e)).map fun n=>(.int .i64 n,σ):=by
 simp only[aop];cases gO k σ (x.ev e)<;>simp
theorem V1(n b:Nat)(x y:AOpd)(e:Env)(σ:St):aop (.append n b x y) e σ=bW n b σ (x.ev e) (y.ev e):=by
 simp only[aop]
theorem aA1(n b:Nat)(x y:AOpd)(e:Env)(σ:St):aop (.apref n b x y) e σ=j8 n b σ (x.ev e) (y.ev e):=by
 simp only[aop]
theorem aHF(n:Nat)(x y:AOpd)(e:Env)(σ:St):aop (.copy n x y) e σ=qP n σ (x.ev e) (y.ev e):=by
 simp only[aop]
theorem aJC(xs:List AOpd)(e:Env)(σ:St):aop (.min xs) e σ=(zH (evs e xs)).map (·,σ):=by
 simp only[aop,mD];cases zH (evs e xs)<;>simp
theorem aLM(xs:List AOpd)(e:Env)(σ:St):aop (.max xs) e σ=(zE (evs e xs)).map (·,σ):=by
 simp only[aop,mD];cases zE (evs e xs)<;>simp
theorem WR(x:AOpd)(e:Env)(σ:St):aop (.srange x) e σ=(aCG (x.ev e)).map fun s=>(.ptr σ.length 0,σ++[.siter s 0]):=by
 simp only[aop,aCG];cases x.ev e<;>simp
theorem ZS(x:AOpd)(e:Env)(σ:St):aop (.snext x) e σ=y7 σ (x.ev e):=by
 simp only[aop,y7];cases x.ev e<;>rfl
theorem aKK(x:AOpd)(d:Option Nat)(os:List AOper)(e:Env)(σ:St)(K:Env->St->Prop):aL T (⟨d,.mov x,none⟩::os) e σ K=bO (K:=⟨fun v σ'=>aL T os (Env.put e d v) σ' K⟩) (aop (.mov x) e σ):=by simp only[aL,fR,bO]
theorem aAA(z:List AV)(d:Option Nat)(os:List AOper)(e:Env)(σ:St)(K:Env->St->Prop):aL T (⟨d,.alloc z,none⟩::os) e σ K=bO (K:=⟨fun v σ'=>aL T os (Env.put e d v) σ' K⟩) (aop (.alloc z) e σ):=by simp only[aL,fR,bO]
theorem aHH(c x y:AOpd)(d:Option Nat)(os:List AOper)(e:Env)(σ:St)(K:Env->St->Prop):aL T (⟨d,.pick c x y,none⟩::os) e σ K=bO (K:=⟨fun v σ'=>aL T os (Env.put e d v) σ' K⟩) (aop (.pick c x y) e σ):=by simp only[aL,fR,bO]
theorem aMR(n:Nat)(x:AOpd)(d:Option Nat)(os:List AOper)(e:Env)(σ:St)(K:Env->St->Prop):aL T (⟨d,.box n x,none⟩::os) e σ K=bO (K:=⟨fun v σ'=>aL T os (Env.put e d v) σ' K⟩) (aop (.box n x) e σ):=by simp only[aL,fR,bO]
theorem aB1(z:List AV)(ps:List (Nat×Nat×AOpd))(d:Option Nat)(os:List AOper)(e:Env)(σ:St)(K:Env->St->Prop):aL T (⟨d,.build z ps,none⟩::os) e σ K=bO (K:=⟨fun v σ'=>aL T os (Env.put e d v) σ' K⟩) (aop (.build z ps) e σ):=by simp only[aL,fR,bO]
theorem ZQ(n:Nat)(xs:List AOpd)(d:Option Nat)(os:List AOper)(e:Env)(σ:St)(K:Env->St->Prop):aL T (⟨d,.mklit n xs,none⟩::os) e σ K=bO (K:=⟨fun v σ'=>aL T os (Env.put e d v) σ' K⟩) (aop (.mklit n xs) e σ):=by simp only[aL,fR,bO]
theorem YZ(n:Nat)(xs:List AOpd)(d:Option Nat)(os:List AOper)(e:Env)(σ:St)(K:Env->St->Prop):aL T (⟨d,.mkref n xs,none⟩::os) e σ K=bO (K:=⟨fun v σ'=>aL T os (Env.put e d v) σ' K⟩) (aop (.mkref n xs) e σ):=by simp only[aL,fR,bO]
theorem aHP(sh:Option Nat)(x:AOpd)(d:Option Nat)(os:List AOper)(e:Env)(σ:St)(K:Env->St->Prop):aL T (⟨d,.load sh x,none⟩::os) e σ K=bO (K:=⟨fun v σ'=>aL T os (Env.put e d v) σ' K⟩) (aop (.load sh x) e σ):=by simp only[aL,fR,bO]
theorem aAP(n:Nat)(x y:AOpd)(d:Option Nat)(os:List AOper)(e:Env)(σ:St)(K:Env->St->Prop):aL T (⟨d,.store n x y,none⟩::os) e σ K=bO (K:=⟨fun v σ'=>aL T os (Env.put e d v) σ' K⟩) (aop (.store n x y) e σ):=by simp only[aL,fR,bO]
theorem M9(x:AOpd)(d:Option Nat)(os:List AOper)(e:Env)(σ:St)(K:Env->St->Prop):aL T (⟨d,.nilCheck x,none⟩::os) e σ K=bO (K:=⟨fun v σ'=>aL T os (Env.put e d v) σ' K⟩) (aop (.nilCheck x) e σ):=by simp only[aL,fR,bO]
theorem aLA(op:BinOp)(x y:AOpd)(d:Option Nat)(os:List AOper)(e:Env)(σ:St)(K:Env->St->Prop):aL T (⟨d,.bin op x y,none⟩::os) e σ K=bO (K:=⟨fun v σ'=>aL T os (Env.put e d v) σ' K⟩) (aop (.bin op x y) e σ):=by simp only[aL,fR,bO]
theorem aMN(sh:EqTy)(n:Bool)(x y:AOpd)(d:Option Nat)(os:List AOper)(e:Env)(σ:St)(K:Env->St->Prop):aL T (⟨d,.eql sh n x y,none⟩::os) e σ K=bO (K:=⟨fun v σ'=>aL T os (Env.put e d v) σ' K⟩) (aop (.eql sh n x y) e σ):=by simp only[aL,fR,bO]
theorem aKG(x:AOpd)(d:Option Nat)(os:List AOper)(e:Env)(σ:St)(K:Env->St->Prop):aL T (⟨d,.not x,none⟩::os) e σ K=bO (K:=⟨fun v σ'=>aL T os (Env.put e d v) σ' K⟩) (aop (.not x) e σ):=by simp only[aL,fR,bO]
theorem aM3(x:AOpd)(d:Option Nat)(os:List AOper)(e:Env)(σ:St)(K:Env->St->Prop):aL T (⟨d,.neg x,none⟩::os) e σ K=bO (K:=⟨fun v σ'=>aL T os (Env.put e d v) σ' K⟩) (aop (.neg x) e σ):=by simp only[aL,fR,bO]
theorem aGX(k:IntKind)(x:AOpd)(d:Option Nat)(os:List AOper)(e:Env)(σ:St)(K:Env->St->Prop):aL T (⟨d,.conv k x,none⟩::os) e σ K=bO (K:=⟨fun v σ'=>aL T os (Env.put e d v) σ' K⟩) (aop (.conv k x) e σ):=by simp only[aL,fR,bO]
theorem aAT(f:FuncId)(xs ys:List AOpd)(d:Option Nat)(os:List AOper)(e:Env)(σ:St)(K:Env->St->Prop):aL T (⟨d,.mkfun f xs ys,none⟩::os) e σ K=bO (K:=⟨fun v σ'=>aL T os (Env.put e d v) σ' K⟩) (aop (.mkfun f xs ys) e σ):=by simp only[aL,fR,bO]
theorem aB4(d:Option Nat)(os:List AOper)(e:Env)(σ:St)(K:Env->St->Prop):aL T (⟨d,.mkmap,none⟩::os) e σ K=bO (K:=⟨fun v σ'=>aL T os (Env.put e d v) σ' K⟩) (aop (.mkmap) e σ):=by simp only[aL,fR,bO]
theorem SJ(z:List AV)(b:Nat)(x y:AOpd)(d:Option Nat)(os:List AOper)(e:Env)(σ:St)(K:Env->St->Prop):aL T (⟨d,.mkslice z b x y,none⟩::os) e σ K=bO (K:=⟨fun v σ'=>aL T os (Env.put e d v) σ' K⟩) (aop (.mkslice z b x y) e σ):=by simp only[aL,fR,bO]
theorem T6(n:Nat)(x:AOpd)(lo hi mx:Option AOpd)(d:Option Nat)(os:List AOper)(e:Env)(σ:St)(K:Env->St->Prop):aL T (⟨d,.slicev n x lo hi mx,none⟩::os) e σ K=bO (K:=⟨fun v σ'=>aL T os (Env.put e d v) σ' K⟩) (aop (.slicev n x lo hi mx) e σ):=by simp only[aL,fR,bO]
theorem UR(n s:Nat)(x:AOpd)(lo hi:Option AOpd)(d:Option Nat)(os:List AOper)(e:Env)(σ:St)(K:Env->St->Prop):aL T (⟨d,.slicea n s x lo hi,none⟩::os) e σ K=bO (K:=⟨fun v σ'=>aL T os (Env.put e d v) σ' K⟩) (aop (.slicea n s x lo hi) e σ):=by simp only[aL,fR,bO]
theorem Z2(x:AOpd)(o:Nat)(d:Option Nat)(os:List AOper)(e:Env)(σ:St)(K:Env->St->Prop):aL T (⟨d,.faddr x o,none⟩::os) e σ K=bO (K:=⟨fun v σ'=>aL T os (Env.put e d v) σ' K⟩) (aop (.faddr x o) e σ):=by simp only[aL,fR,bO]
theorem ZN(x:AOpd)(o:Nat)(sh:Option Nat)(d:Option Nat)(os:List AOper)(e:Env)(σ:St)(K:Env->St->Prop):aL T (⟨d,.field x o sh,none⟩::os) e σ K=bO (K:=⟨fun v σ'=>aL T os (Env.put e d v) σ' K⟩) (aop (.field x o sh) e σ):=by simp only[aL,fR,bO]
theorem aBJ(a:Option Nat)(s:Nat)(x i:AOpd)(d:Option Nat)(os:List AOper)(e:Env)(σ:St)(K:Env->St->Prop):aL T (⟨d,.iaddr a s x i,none⟩::os) e σ K=bO (K:=⟨fun v σ'=>aL T os (Env.put e d v) σ' K⟩) (aop (.iaddr a s x i) e σ):=by simp only[aL,fR,bO]
theorem ZV(n s:Nat)(sh:Option Nat)(x i:AOpd)(d:Option Nat)(os:List AOper)(e:Env)(σ:St)(K:Env->St->Prop):aL T (⟨d,.index n s sh x i,none⟩::os) e σ K=bO (K:=⟨fun v σ'=>aL T os (Env.put e d v) σ' K⟩) (aop (.index n s sh x i) e σ):=by simp only[aL,fR,bO]
theorem V4(x i:AOpd)(d:Option Nat)(os:List AOper)(e:Env)(σ:St)(K:Env->St->Prop):aL T (⟨d,.sindex x i,none⟩::os) e σ K=bO (K:=⟨fun v σ'=>aL T os (Env.put e d v) σ' K⟩) (aop (.sindex x i) e σ):=by simp only[aL,fR,bO]
theorem U1(sh:EqTy)(ok:Bool)(z:AV)(m k:AOpd)(d:Option Nat)(os:List AOper)(e:Env)(σ:St)(K:Env->St->Prop):aL T (⟨d,.lookup sh ok z m k,none⟩::os) e σ K=bO (K:=⟨fun v σ'=>aL T os (Env.put e d v) σ' K⟩) (aop (.lookup sh ok z m k) e σ):=by simp only[aL,fR,bO]
theorem XQ(sh:EqTy)(m k v:AOpd)(d:Option Nat)(os:List AOper)(e:Env)(σ:St)(K:Env->St->Prop):aL T (⟨d,.mapset sh m k v,none⟩::os) e σ K=bO (K:=⟨fun v σ'=>aL T os (Env.put e d v) σ' K⟩) (aop (.mapset sh m k v) e σ):=by simp only[aL,fR,bO]
theorem aJD(x:AOpd)(i:Nat)(d:Option Nat)(os:List AOper)(e:Env)(σ:St)(K:Env->St->Prop):aL T (⟨d,.ext x i,none⟩::os) e σ K=bO (K:=⟨fun v σ'=>aL T os (Env.put e d v) σ' K⟩) (aop (.ext x i) e σ):=by simp only[aL,fR,bO]
theorem aJB(k:Nat)(x:AOpd)(d:Option Nat)(os:List AOper)(e:Env)(σ:St)(K:Env->St->Prop):aL T (⟨d,.len k x,none⟩::os) e σ K=bO (K:=⟨fun v σ'=>aL T os (Env.put e d v) σ' K⟩) (aop (.len k x) e σ):=by simp only[aL,fR,bO]
theorem UL(n b:Nat)(x y:AOpd)(d:Option Nat)(os:List AOper)(e:Env)(σ:St)(K:Env->St->Prop):aL T (⟨d,.append n b x y,none⟩::os) e σ K=bO (K:=⟨fun v σ'=>aL T os (Env.put e d v) σ' K⟩) (aop (.append n b x y) e σ):=by simp only[aL,fR,bO]
theorem ZB(n b:Nat)(x y:AOpd)(d:Option Nat)(os:List AOper)(e:Env)(σ:St)(K:Env->St->Prop):aL T (⟨d,.apref n b x y,none⟩::os) e σ K=bO (K:=⟨fun v σ'=>aL T os (Env.put e d v) σ' K⟩) (aop (.apref n b x y) e σ):=by simp only[aL,fR,bO]
theorem aHJ(n:Nat)(x y:AOpd)(d:Option Nat)(os:List AOper)(e:Env)(σ:St)(K:Env->St->Prop):aL T (⟨d,.copy n x y,none⟩::os) e σ K=bO (K:=⟨fun v σ'=>aL T os (Env.put e d v) σ' K⟩) (aop (.copy n x y) e σ):=by simp only[aL,fR,bO]
theorem aKF(xs:List AOpd)(d:Option Nat)(os:List AOper)(e:Env)(σ:St)(K:Env->St->Prop):aL T (⟨d,.min xs,none⟩::os) e σ K=bO (K:=⟨fun v σ'=>aL T os (Env.put e d v) σ' K⟩) (aop (.min xs) e σ):=by simp only[aL,fR,bO]
theorem aJF(xs:List AOpd)(d:Option Nat)(os:List AOper)(e:Env)(σ:St)(K:Env->St->Prop):aL T (⟨d,.max xs,none⟩::os) e σ K=bO (K:=⟨fun v σ'=>aL T os (Env.put e d v) σ' K⟩) (aop (.max xs) e σ):=by simp only[aL,fR,bO]
theorem UE(x:AOpd)(d:Option Nat)(os:List AOper)(e:Env)(σ:St)(K:Env->St->Prop):aL T (⟨d,.srange x,none⟩::os) e σ K=bO (K:=⟨fun v σ'=>aL T os (Env.put e d v) σ' K⟩) (aop (.srange x) e σ):=by simp only[aL,fR,bO]
theorem ZR(x:AOpd)(d:Option Nat)(os:List AOper)(e:Env)(σ:St)(K:Env->St->Prop):aL T (⟨d,.snext x,none⟩::os) e σ K=bO (K:=⟨fun v σ'=>aL T os (Env.put e d v) σ' K⟩) (aop (.snext x) e σ):=by simp only[aL,fR,bO]
theorem aH1(f:AOpd)(xs:List AOpd)(d:Option Nat)(os:List AOper)(e:Env)(σ:St)(K:Env->St->Prop):aL T (⟨d,.call f xs,none⟩::os) e σ K=cK (K:=⟨fun v σ'=>aL T os (Env.put e d v) σ' K⟩) T (f.ev e) (evs e xs) σ:=by simp only[aL,fR,mD,cK]
theorem ZJ(b:Bool)(A B:HP Prop):bB (.bool b) (A:=A) (B:=B)=AG (A:=A) (B:=B) b:=by cases b<;>simp[bB,CI,AG]
theorem SQ(b:Bool)(A B:HP Prop):bG (.bool b) true (A:=A) (B:=B)=AG (A:=A) (B:=B) b:=by cases b<;>simp[bG,mV,AG]
theorem UW(b:Bool)(A B:HP Prop):bG (.bool b) false (A:=A) (B:=B)=AG (A:=B) (B:=A) b:=by cases b<;>simp[bG,mV,AG]
theorem W9(w:Bool)(A:HP Prop)(B:Prop):bG (.tuple []) w (A:=A) (B:=⟨B⟩)=B:=by simp[bG,mV]
theorem ZY(d:Option Nat)(q:AOp)(t:Nat)(want:Bool)(os:List AOper)(e:Env)(σ:St)(K:Env->St->Prop):aL T (⟨d,q,some (t,want)⟩::os) e σ K =
  bG (A:=⟨aL T (⟨d,q,none⟩::os) e σ K⟩) (B:=⟨aL T os (Env.put e d (.tuple [])) σ K⟩) (Env.get e t) want:=by simp only[aL,bG]
theorem aLB(ds:List ADOper)(e:Env)(σ:St)(K:KJ):wp T (.dreg ds) e σ K=rK (K:=⟨K⟩) T (.dreg ds) e σ:=by simp only[wp,rK]
theorem OV{ds:List ADOper}{e:Env}{σ:St}{K:KJ}(h:wpD T ds e (σ++dB ds) σ.length [σ++dB ds] [] fun e σ=>K none e σ):rK (K:=⟨K⟩) T (.dreg ds) e σ:=.dreg (jY h fun e σ hk=>hk)
theorem aL4(e:Env)(σ:St)(next:Nat)(hist:List St)(reads:List ARead)(K:Env->St->Prop):wpD T [] e σ next hist reads K=(qG reads hist/\K e σ):=by simp only[wpD]
theorem aFL(f:AOpd)(xs:List AOpd)(d:Option Nat)(lo hi:Nat)(ds:List ADOper)(e:Env)(σ:St)(next:Nat)(hist:List St)(reads:List ARead)(K:Env->St->Prop):
  wpD T (⟨⟨d,.call f xs,none⟩,lo,hi⟩::ds) e σ next hist reads K=cD (K:=⟨fun v σ'=>wpD T ds (Env.put e d v) σ' next (hist++[σ']) reads K⟩) T (f.ev e) (evs e xs) σ:=by simp only[wpD,mD,cD]
theorem ZA(z:List AV)(d:Option Nat)(lo hi:Nat)(ds:List ADOper)(e:Env)(σ:St)(next:Nat)(hist:List St)(reads:List ARead)(K:Env->St->Prop):
  wpD T (⟨⟨d,.alloc z,none⟩,lo,hi⟩::ds) e σ next hist reads K=wpD T ds (Env.put e d (.ptr next 0)) σ (next+1) hist reads K:=by simp only[wpD]
def uR(lo hi:Nat)(q:AOp)(e:Env)(v:AV):List St->Nat->Prop
 |[],_=>True
 |s::ss,j=>(if lo<=j/\j<=hi then aop q e s=some (v,s) else True)/\uR lo hi q e v ss (j+1)
theorem I0q(r:ARead):∀ (ss:List St) (j:Nat),uR r.lo r.hi r.op r.env r.v ss j=EW r ss j
 |[],j=>by simp only[uR,EW]
 |s::ss,j=>by simp only[uR,EW,I0q r ss (j+1)]
theorem S7(hist:List St):qG [] hist=True:=by simp only[qG]
theorem UU(lo hi:Nat)(q:AOp)(e:Env)(v:AV)(rs:List ARead)(hist:List St):qG (⟨lo,hi,q,e,v⟩::rs) hist=(uR lo hi q e v hist 0/\qG rs hist):=by
 simp only[qG];rw[<-I0q]
theorem Y4(lo hi:Nat)(q:AOp)(e:Env)(v:AV)(j:Nat):uR lo hi q e v [] j=True:=by simp only[uR]
theorem aA0(lo hi:Nat)(q:AOp)(e:Env)(v:AV)(s:St)(ss:List St)(j:Nat):uR lo hi q e v (s::ss) j=((if lo<=j/\j<=hi then aop q e s=some (v,s) else True)/\uR lo hi q e v ss (j+1)):=by simp only[uR]
theorem aJH(x:AOpd)(d:Option Nat)(wl wh:Nat)(ds:List ADOper)(e:Env)(σ:St)(next:Nat)(hist:List St)(reads:List ARead)(K:Env->St->Prop):wpD T (⟨⟨d,.mov x,none⟩,wl,wh⟩::ds) e σ next hist reads K=bO (K:=⟨fun v σ'=>σ'=σ/\wpD T ds (Env.put e d v) σ next hist reads K⟩) (aop (.mov x) e σ):=by
 simp only[wpD,bO,AOp.acts,AOp.reads,if_true,Bool.false_eq_true,if_false]
theorem aGE(c x y:AOpd)(d:Option Nat)(wl wh:Nat)(ds:List ADOper)(e:Env)(σ:St)(next:Nat)(hist:List St)(reads:List ARead)(K:Env->St->Prop):wpD T (⟨⟨d,.pick c x y,none⟩,wl,wh⟩::ds) e σ next hist reads K=bO (K:=⟨fun v σ'=>σ'=σ/\wpD T ds (Env.put e d v) σ next hist reads K⟩) (aop (.pick c x y) e σ):=by
 simp only[wpD,bO,AOp.acts,AOp.reads,if_true,Bool.false_eq_true,if_false]
theorem aL1(n:Nat)(x:AOpd)(d:Option Nat)(wl wh:Nat)(ds:List ADOper)(e:Env)(σ:St)(next:Nat)(hist:List St)(reads:List ARead)(K:Env->St->Prop):wpD T (⟨⟨d,.box n x,none⟩,wl,wh⟩::ds) e σ next hist reads K=bO (K:=⟨fun v σ'=>wpD T ds (Env.put e d v) σ' next (hist++[σ']) reads K⟩) (aop (.box n x) e σ):=by
 simp only[wpD,bO,AOp.acts,AOp.reads,if_true,Bool.false_eq_true,if_false]
theorem ZH(z:List AV)(ps:List (Nat×Nat×AOpd))(d:Option Nat)(wl wh:Nat)(ds:List ADOper)(e:Env)(σ:St)(next:Nat)(hist:List St)(reads:List ARead)(K:Env->St->Prop):wpD T (⟨⟨d,.build z ps,none⟩,wl,wh⟩::ds) e σ next hist reads K=bO (K:=⟨fun v σ'=>σ'=σ/\wpD T ds (Env.put e d v) σ next hist reads K⟩) (aop (.build z ps) e σ):=by
 simp only[wpD,bO,AOp.acts,AOp.reads,if_true,Bool.false_eq_true,if_false]
theorem Z1(n:Nat)(xs:List AOpd)(d:Option Nat)(wl wh:Nat)(ds:List ADOper)(e:Env)(σ:St)(next:Nat)(hist:List St)(reads:List ARead)(K:Env->St->Prop):wpD T (⟨⟨d,.mklit n xs,none⟩,wl,wh⟩::ds) e σ next hist reads K=bO (K:=⟨fun v σ'=>σ'=σ/\wpD T ds (Env.put e d v) σ next hist reads K⟩) (aop (.mklit n xs) e σ):=by
 simp only[wpD,bO,AOp.acts,AOp.reads,if_true,Bool.false_eq_true,if_false]
theorem aB0(n:Nat)(xs:List AOpd)(d:Option Nat)(wl wh:Nat)(ds:List ADOper)(e:Env)(σ:St)(next:Nat)(hist:List St)(reads:List ARead)(K:Env->St->Prop):wpD T (⟨⟨d,.mkref n xs,none⟩,wl,wh⟩::ds) e σ next hist reads K=bO (K:=⟨fun v σ'=>wpD T ds (Env.put e d v) σ' next (hist++[σ']) reads K⟩) (aop (.mkref n xs) e σ):=by
 simp only[wpD,bO,AOp.acts,AOp.reads,if_true,Bool.false_eq_true,if_false]
theorem aE0(sh:Option Nat)(x:AOpd)(d:Option Nat)(wl wh:Nat)(ds:List ADOper)(e:Env)(σ:St)(next:Nat)(hist:List St)(reads:List ARead)(K:Env->St->Prop):wpD T (⟨⟨d,.load sh x,none⟩,wl,wh⟩::ds) e σ next hist reads K=bO (K:=⟨fun v σ'=>σ'=σ/\wpD T ds (Env.put e d v) σ next hist (⟨wl,wh,.load sh x,e,v⟩::reads) K⟩) (aop (.load sh x) e σ):=by
 simp only[wpD,bO,AOp.acts,AOp.reads,if_true,Bool.false_eq_true,if_false]
theorem YT(n:Nat)(x y:AOpd)(d:Option Nat)(wl wh:Nat)(ds:List ADOper)(e:Env)(σ:St)(next:Nat)(hist:List St)(reads:List ARead)(K:Env->St->Prop):wpD T (⟨⟨d,.store n x y,none⟩,wl,wh⟩::ds) e σ next hist reads K=bO (K:=⟨fun v σ'=>wpD T ds (Env.put e d v) σ' next (hist++[σ']) reads K⟩) (aop (.store n x y) e σ):=by
 simp only[wpD,bO,AOp.acts,AOp.reads,if_true,Bool.false_eq_true,if_false]
theorem L7(x:AOpd)(d:Option Nat)(wl wh:Nat)(ds:List ADOper)(e:Env)(σ:St)(next:Nat)(hist:List St)(reads:List ARead)(K:Env->St->Prop):wpD T (⟨⟨d,.nilCheck x,none⟩,wl,wh⟩::ds) e σ next hist reads K=bO (K:=⟨fun v σ'=>σ'=σ/\wpD T ds (Env.put e d v) σ next hist reads K⟩) (aop (.nilCheck x) e σ):=by
 simp only[wpD,bO,AOp.acts,AOp.reads,if_true,Bool.false_eq_true,if_false]
theorem aLF(op:BinOp)(x y:AOpd)(d:Option Nat)(wl wh:Nat)(ds:List ADOper)(e:Env)(σ:St)(next:Nat)(hist:List St)(reads:List ARead)(K:Env->St->Prop):wpD T (⟨⟨d,.bin op x y,none⟩,wl,wh⟩::ds) e σ next hist reads K=bO (K:=⟨fun v σ'=>σ'=σ/\wpD T ds (Env.put e d v) σ next hist reads K⟩) (aop (.bin op x y) e σ):=by
 simp only[wpD,bO,AOp.acts,AOp.reads,if_true,Bool.false_eq_true,if_false]
theorem aJM(sh:EqTy)(n:Bool)(x y:AOpd)(d:Option Nat)(wl wh:Nat)(ds:List ADOper)(e:Env)(σ:St)(next:Nat)(hist:List St)(reads:List ARead)(K:Env->St->Prop):wpD T (⟨⟨d,.eql sh n x y,none⟩,wl,wh⟩::ds) e σ next hist reads K=bO (K:=⟨fun v σ'=>σ'=σ/\wpD T ds (Env.put e d v) σ next hist reads K⟩) (aop (.eql sh n x y) e σ):=by
 simp only[wpD,bO,AOp.acts,AOp.reads,if_true,Bool.false_eq_true,if_false]
theorem aI2(x:AOpd)(d:Option Nat)(wl wh:Nat)(ds:List ADOper)(e:Env)(σ:St)(next:Nat)(hist:List St)(reads:List ARead)(K:Env->St->Prop):wpD T (⟨⟨d,.not x,none⟩,wl,wh⟩::ds) e σ next hist reads K=bO (K:=⟨fun v σ'=>σ'=σ/\wpD T ds (Env.put e d v) σ next hist reads K⟩) (aop (.not x) e σ):=by
 simp only[wpD,bO,AOp.acts,AOp.reads,if_true,Bool.false_eq_true,if_false]
theorem aLS(x:AOpd)(d:Option Nat)(wl wh:Nat)(ds:List ADOper)(e:Env)(σ:St)(next:Nat)(hist:List St)(reads:List ARead)(K:Env->St->Prop):wpD T (⟨⟨d,.neg x,none⟩,wl,wh⟩::ds) e σ next hist reads K=bO (K:=⟨fun v σ'=>σ'=σ/\wpD T ds (Env.put e d v) σ next hist reads K⟩) (aop (.neg x) e σ):=by
 simp only[wpD,bO,AOp.acts,AOp.reads,if_true,Bool.false_eq_true,if_false]
theorem aG8(k:IntKind)(x:AOpd)(d:Option Nat)(wl wh:Nat)(ds:List ADOper)(e:Env)(σ:St)(next:Nat)(hist:List St)(reads:List ARead)(K:Env->St->Prop):wpD T (⟨⟨d,.conv k x,none⟩,wl,wh⟩::ds) e σ next hist reads K=bO (K:=⟨fun v σ'=>σ'=σ/\wpD T ds (Env.put e d v) σ next hist reads K⟩) (aop (.conv k x) e σ):=by
 simp only[wpD,bO,AOp.acts,AOp.reads,if_true,Bool.false_eq_true,if_false]
theorem ZZ(f:FuncId)(xs ys:List AOpd)(d:Option Nat)(wl wh:Nat)(ds:List ADOper)(e:Env)(σ:St)(next:Nat)(hist:List St)(reads:List ARead)(K:Env->St->Prop):wpD T (⟨⟨d,.mkfun f xs ys,none⟩,wl,wh⟩::ds) e σ next hist reads K=bO (K:=⟨fun v σ'=>σ'=σ/\wpD T ds (Env.put e d v) σ next hist reads K⟩) (aop (.mkfun f xs ys) e σ):=by
 simp only[wpD,bO,AOp.acts,AOp.reads,if_true,Bool.false_eq_true,if_false]
theorem ZX(d:Option Nat)(wl wh:Nat)(ds:List ADOper)(e:Env)(σ:St)(next:Nat)(hist:List St)(reads:List ARead)(K:Env->St->Prop):wpD T (⟨⟨d,.mkmap,none⟩,wl,wh⟩::ds) e σ next hist reads K=bO (K:=⟨fun v σ'=>wpD T ds (Env.put e d v) σ' next (hist++[σ']) reads K⟩) (aop (.mkmap) e σ):=by
 simp only[wpD,bO,AOp.acts,AOp.reads,if_true,Bool.false_eq_true,if_false]
theorem SB(z:List AV)(b:Nat)(x y:AOpd)(d:Option Nat)(wl wh:Nat)(ds:List ADOper)(e:Env)(σ:St)(next:Nat)(hist:List St)(reads:List ARead)(K:Env->St->Prop):wpD T (⟨⟨d,.mkslice z b x y,none⟩,wl,wh⟩::ds) e σ next hist reads K=bO (K:=⟨fun v σ'=>wpD T ds (Env.put e d v) σ' next (hist++[σ']) reads K⟩) (aop (.mkslice z b x y) e σ):=by
 simp only[wpD,bO,AOp.acts,AOp.reads,if_true,Bool.false_eq_true,if_false]
theorem XU(n:Nat)(x:AOpd)(lo hi mx:Option AOpd)(d:Option Nat)(wl wh:Nat)(ds:List ADOper)(e:Env)(σ:St)(next:Nat)(hist:List St)(reads:List ARead)(K:Env->St->Prop):wpD T (⟨⟨d,.slicev n x lo hi mx,none⟩,wl,wh⟩::ds) e σ next hist reads K=bO (K:=⟨fun v σ'=>σ'=σ/\wpD T ds (Env.put e d v) σ next hist (⟨wl,wh,.slicev n x lo hi mx,e,v⟩::reads) K⟩) (aop (.slicev n x lo hi mx) e σ):=by
 simp only[wpD,bO,AOp.acts,AOp.reads,if_true,Bool.false_eq_true,if_false]
theorem U4(n s:Nat)(x:AOpd)(lo hi:Option AOpd)(d:Option Nat)(wl wh:Nat)(ds:List ADOper)(e:Env)(σ:St)(next:Nat)(hist:List St)(reads:List ARead)(K:Env->St->Prop):wpD T (⟨⟨d,.slicea n s x lo hi,none⟩,wl,wh⟩::ds) e σ next hist reads K=bO (K:=⟨fun v σ'=>σ'=σ/\wpD T ds (Env.put e d v) σ next hist reads K⟩) (aop (.slicea n s x lo hi) e σ):=by
 simp only[wpD,bO,AOp.acts,AOp.reads,if_true,Bool.false_eq_true,if_false]
theorem aBK(x:AOpd)(o:Nat)(d:Option Nat)(wl wh:Nat)(ds:List ADOper)(e:Env)(σ:St)(next:Nat)(hist:List St)(reads:List ARead)(K:Env->St->Prop):wpD T (⟨⟨d,.faddr x o,none⟩,wl,wh⟩::ds) e σ next hist reads K=bO (K:=⟨fun v σ'=>σ'=σ/\wpD T ds (Env.put e d v) σ next hist reads K⟩) (aop (.faddr x o) e σ):=by
 simp only[wpD,bO,AOp.acts,AOp.reads,if_true,Bool.false_eq_true,if_false]
theorem YU(x:AOpd)(o:Nat)(sh:Option Nat)(d:Option Nat)(wl wh:Nat)(ds:List ADOper)(e:Env)(σ:St)(next:Nat)(hist:List St)(reads:List ARead)(K:Env->St->Prop):wpD T (⟨⟨d,.field x o sh,none⟩,wl,wh⟩::ds) e σ next hist reads K=bO (K:=⟨fun v σ'=>σ'=σ/\wpD T ds (Env.put e d v) σ next hist reads K⟩) (aop (.field x o sh) e σ):=by
 simp only[wpD,bO,AOp.acts,AOp.reads,if_true,Bool.false_eq_true,if_false]
theorem aA4(a:Option Nat)(s:Nat)(x i:AOpd)(d:Option Nat)(wl wh:Nat)(ds:List ADOper)(e:Env)(σ:St)(next:Nat)(hist:List St)(reads:List ARead)(K:Env->St->Prop):wpD T (⟨⟨d,.iaddr a s x i,none⟩,wl,wh⟩::ds) e σ next hist reads K=bO (K:=⟨fun v σ'=>σ'=σ/\wpD T ds (Env.put e d v) σ next hist reads K⟩) (aop (.iaddr a s x i) e σ):=by
 simp only[wpD,bO,AOp.acts,AOp.reads,if_true,Bool.false_eq_true,if_false]
theorem aBS(n s:Nat)(sh:Option Nat)(x i:AOpd)(d:Option Nat)(wl wh:Nat)(ds:List ADOper)(e:Env)(σ:St)(next:Nat)(hist:List St)(reads:List ARead)(K:Env->St->Prop):wpD T (⟨⟨d,.index n s sh x i,none⟩,wl,wh⟩::ds) e σ next hist reads K=bO (K:=⟨fun v σ'=>σ'=σ/\wpD T ds (Env.put e d v) σ next hist reads K⟩) (aop (.index n s sh x i) e σ):=by
 simp only[wpD,bO,AOp.acts,AOp.reads,if_true,Bool.false_eq_true,if_false]
theorem TM(x i:AOpd)(d:Option Nat)(wl wh:Nat)(ds:List ADOper)(e:Env)(σ:St)(next:Nat)(hist:List St)(reads:List ARead)(K:Env->St->Prop):wpD T (⟨⟨d,.sindex x i,none⟩,wl,wh⟩::ds) e σ next hist reads K=bO (K:=⟨fun v σ'=>σ'=σ/\wpD T ds (Env.put e d v) σ next hist reads K⟩) (aop (.sindex x i) e σ):=by
 simp only[wpD,bO,AOp.acts,AOp.reads,if_true,Bool.false_eq_true,if_false]
theorem VO(sh:EqTy)(ok:Bool)(z:AV)(m k:AOpd)(d:Option Nat)(wl wh:Nat)(ds:List ADOper)(e:Env)(σ:St)(next:Nat)(hist:List St)(reads:List ARead)(K:Env->St->Prop):wpD T (⟨⟨d,.lookup sh ok z m k,none⟩,wl,wh⟩::ds) e σ next hist reads K=bO (K:=⟨fun v σ'=>σ'=σ/\wpD T ds (Env.put e d v) σ next hist (⟨wl,wh,.lookup sh ok z m k,e,v⟩::reads) K⟩) (aop (.lookup sh ok z m k) e σ):=by
 simp only[wpD,bO,AOp.acts,AOp.reads,if_true,Bool.false_eq_true,if_false]
theorem S8(sh:EqTy)(m k v:AOpd)(d:Option Nat)(wl wh:Nat)(ds:List ADOper)(e:Env)(σ:St)(next:Nat)(hist:List St)(reads:List ARead)(K:Env->St->Prop):wpD T (⟨⟨d,.mapset sh m k v,none⟩,wl,wh⟩::ds) e σ next hist reads K=bO (K:=⟨fun v σ'=>wpD T ds (Env.put e d v) σ' next (hist++[σ']) reads K⟩) (aop (.mapset sh m k v) e σ):=by
 simp only[wpD,bO,AOp.acts,AOp.reads,if_true,Bool.false_eq_true,if_false]
theorem aMA(x:AOpd)(i:Nat)(d:Option Nat)(wl wh:Nat)(ds:List ADOper)(e:Env)(σ:St)(next:Nat)(hist:List St)(reads:List ARead)(K:Env->St->Prop):wpD T (⟨⟨d,.ext x i,none⟩,wl,wh⟩::ds) e σ next hist reads K=bO (K:=⟨fun v σ'=>σ'=σ/\wpD T ds (Env.put e d v) σ next hist reads K⟩) (aop (.ext x i) e σ):=by
 simp only[wpD,bO,AOp.acts,AOp.reads,if_true,Bool.false_eq_true,if_false]
theorem aL0(k:Nat)(x:AOpd)(d:Option Nat)(wl wh:Nat)(ds:List ADOper)(e:Env)(σ:St)(next:Nat)(hist:List St)(reads:List ARead)(K:Env->St->Prop):wpD T (⟨⟨d,.len k x,none⟩,wl,wh⟩::ds) e σ next hist reads K=bO (K:=⟨fun v σ'=>σ'=σ/\wpD T ds (Env.put e d v) σ next hist (⟨wl,wh,.len k x,e,v⟩::reads) K⟩) (aop (.len k x) e σ):=by
 simp only[wpD,bO,AOp.acts,AOp.reads,if_true,Bool.false_eq_true,if_false]
theorem VK(n b:Nat)(x y:AOpd)(d:Option Nat)(wl wh:Nat)(ds:List ADOper)(e:Env)(σ:St)(next:Nat)(hist:List St)(reads:List ARead)(K:Env->St->Prop):wpD T (⟨⟨d,.append n b x y,none⟩,wl,wh⟩::ds) e σ next hist reads K=bO (K:=⟨fun v σ'=>wpD T ds (Env.put e d v) σ' next (hist++[σ']) reads K⟩) (aop (.append n b x y) e σ):=by
 simp only[wpD,bO,AOp.acts,AOp.reads,if_true,Bool.false_eq_true,if_false]
theorem Y9(n b:Nat)(x y:AOpd)(d:Option Nat)(wl wh:Nat)(ds:List ADOper)(e:Env)(σ:St)(next:Nat)(hist:List St)(reads:List ARead)(K:Env->St->Prop):wpD T (⟨⟨d,.apref n b x y,none⟩,wl,wh⟩::ds) e σ next hist reads K=bO (K:=⟨fun v σ'=>wpD T ds (Env.put e d v) σ' next (hist++[σ']) reads K⟩) (aop (.apref n b x y) e σ):=by
 simp only[wpD,bO,AOp.acts,AOp.reads,if_true,Bool.false_eq_true,if_false]
theorem aH9(n:Nat)(x y:AOpd)(d:Option Nat)(wl wh:Nat)(ds:List ADOper)(e:Env)(σ:St)(next:Nat)(hist:List St)(reads:List ARead)(K:Env->St->Prop):wpD T (⟨⟨d,.copy n x y,none⟩,wl,wh⟩::ds) e σ next hist reads K=bO (K:=⟨fun v σ'=>wpD T ds (Env.put e d v) σ' next (hist++[σ']) reads K⟩) (aop (.copy n x y) e σ):=by
 simp only[wpD,bO,AOp.acts,AOp.reads,if_true,Bool.false_eq_true,if_false]
theorem aMZ(xs:List AOpd)(d:Option Nat)(wl wh:Nat)(ds:List ADOper)(e:Env)(σ:St)(next:Nat)(hist:List St)(reads:List ARead)(K:Env->St->Prop):wpD T (⟨⟨d,.min xs,none⟩,wl,wh⟩::ds) e σ next hist reads K=bO (K:=⟨fun v σ'=>σ'=σ/\wpD T ds (Env.put e d v) σ next hist reads K⟩) (aop (.min xs) e σ):=by
 simp only[wpD,bO,AOp.acts,AOp.reads,if_true,Bool.false_eq_true,if_false]
theorem aJP(xs:List AOpd)(d:Option Nat)(wl wh:Nat)(ds:List ADOper)(e:Env)(σ:St)(next:Nat)(hist:List St)(reads:List ARead)(K:Env->St->Prop):wpD T (⟨⟨d,.max xs,none⟩,wl,wh⟩::ds) e σ next hist reads K=bO (K:=⟨fun v σ'=>σ'=σ/\wpD T ds (Env.put e d v) σ next hist reads K⟩) (aop (.max xs) e σ):=by
 simp only[wpD,bO,AOp.acts,AOp.reads,if_true,Bool.false_eq_true,if_false]
theorem VP(x:AOpd)(d:Option Nat)(wl wh:Nat)(ds:List ADOper)(e:Env)(σ:St)(next:Nat)(hist:List St)(reads:List ARead)(K:Env->St->Prop):wpD T (⟨⟨d,.srange x,none⟩,wl,wh⟩::ds) e σ next hist reads K=bO (K:=⟨fun v σ'=>wpD T ds (Env.put e d v) σ' next (hist++[σ']) reads K⟩) (aop (.srange x) e σ):=by
 simp only[wpD,bO,AOp.acts,AOp.reads,if_true,Bool.false_eq_true,if_false]
theorem aAL(x:AOpd)(d:Option Nat)(wl wh:Nat)(ds:List ADOper)(e:Env)(σ:St)(next:Nat)(hist:List St)(reads:List ARead)(K:Env->St->Prop):wpD T (⟨⟨d,.snext x,none⟩,wl,wh⟩::ds) e σ next hist reads K=bO (K:=⟨fun v σ'=>wpD T ds (Env.put e d v) σ' next (hist++[σ']) reads K⟩) (aop (.snext x) e σ):=by
 simp only[wpD,bO,AOp.acts,AOp.reads,if_true,Bool.false_eq_true,if_false]
theorem W8(f:AOpd)(xs:List AOpd)(t:Nat)(want:Bool)(d:Option Nat)(wl wh:Nat)(ds:List ADOper)(e:Env)(σ:St)(next:Nat)(hist:List St)(reads:List ARead)(K:Env->St->Prop):wpD T (⟨⟨d,.call f xs,some (t,want)⟩,wl,wh⟩::ds) e σ next hist reads K =
  bG (A:=⟨wpD T (⟨⟨d,.call f xs,none⟩,wl,wh⟩::ds) e σ next hist reads K⟩) (B:=⟨wpD T ds (Env.put e d (.tuple [])) σ next (hist++[σ]) reads K⟩) (Env.get e t) want:=by simp only[wpD,bG]
theorem aI9(x:AOpd)(t:Nat)(want:Bool)(d:Option Nat)(wl wh:Nat)(ds:List ADOper)(e:Env)(σ:St)(next:Nat)(hist:List St)(reads:List ARead)(K:Env->St->Prop):wpD T (⟨⟨d,.mov x,some (t,want)⟩,wl,wh⟩::ds) e σ next hist reads K =
  bG (A:=⟨wpD T (⟨⟨d,.mov x,none⟩,wl,wh⟩::ds) e σ next hist reads K⟩) (B:=⟨wpD T ds (Env.put e d (.tuple [])) σ next hist reads K⟩) (Env.get e t) want:=by
 simp only[wpD,bG,AOp.allocs,AOp.acts,true_and,if_true,Bool.false_eq_true,if_false]
theorem aFM(c x y:AOpd)(t:Nat)(want:Bool)(d:Option Nat)(wl wh:Nat)(ds:List ADOper)(e:Env)(σ:St)(next:Nat)(hist:List St)(reads:List ARead)(K:Env->St->Prop):wpD T (⟨⟨d,.pick c x y,some (t,want)⟩,wl,wh⟩::ds) e σ next hist reads K =
  bG (A:=⟨wpD T (⟨⟨d,.pick c x y,none⟩,wl,wh⟩::ds) e σ next hist reads K⟩) (B:=⟨wpD T ds (Env.put e d (.tuple [])) σ next hist reads K⟩) (Env.get e t) want:=by
 simp only[wpD,bG,AOp.allocs,AOp.acts,true_and,if_true,Bool.false_eq_true,if_false]
theorem aKZ(n:Nat)(x:AOpd)(t:Nat)(want:Bool)(d:Option Nat)(wl wh:Nat)(ds:List ADOper)(e:Env)(σ:St)(next:Nat)(hist:List St)(reads:List ARead)(K:Env->St->Prop):wpD T (⟨⟨d,.box n x,some (t,want)⟩,wl,wh⟩::ds) e σ next hist reads K =
  bG (A:=⟨wpD T (⟨⟨d,.box n x,none⟩,wl,wh⟩::ds) e σ next hist reads K⟩) (B:=⟨wpD T ds (Env.put e d (.tuple [])) σ next (hist++[σ]) reads K⟩) (Env.get e t) want:=by
 simp only[wpD,bG,AOp.allocs,AOp.acts,true_and,if_true,Bool.false_eq_true,if_false]
theorem aBI(z:List AV)(ps:List (Nat×Nat×AOpd))(t:Nat)(want:Bool)(d:Option Nat)(wl wh:Nat)(ds:List ADOper)(e:Env)(σ:St)(next:Nat)(hist:List St)(reads:List ARead)(K:Env->St->Prop):wpD T (⟨⟨d,.build z ps,some (t,want)⟩,wl,wh⟩::ds) e σ next hist reads K =
  bG (A:=⟨wpD T (⟨⟨d,.build z ps,none⟩,wl,wh⟩::ds) e σ next hist reads K⟩) (B:=⟨wpD T ds (Env.put e d (.tuple [])) σ next hist reads K⟩) (Env.get e t) want:=by
 simp only[wpD,bG,AOp.allocs,AOp.acts,true_and,if_true,Bool.false_eq_true,if_false]
theorem ZI(n:Nat)(xs:List AOpd)(t:Nat)(want:Bool)(d:Option Nat)(wl wh:Nat)(ds:List ADOper)(e:Env)(σ:St)(next:Nat)(hist:List St)(reads:List ARead)(K:Env->St->Prop):wpD T (⟨⟨d,.mklit n xs,some (t,want)⟩,wl,wh⟩::ds) e σ next hist reads K =
  bG (A:=⟨wpD T (⟨⟨d,.mklit n xs,none⟩,wl,wh⟩::ds) e σ next hist reads K⟩) (B:=⟨wpD T ds (Env.put e d (.tuple [])) σ next hist reads K⟩) (Env.get e t) want:=by
 simp only[wpD,bG,AOp.allocs,AOp.acts,true_and,if_true,Bool.false_eq_true,if_false]
theorem Z5(n:Nat)(xs:List AOpd)(t:Nat)(want:Bool)(d:Option Nat)(wl wh:Nat)(ds:List ADOper)(e:Env)(σ:St)(next:Nat)(hist:List St)(reads:List ARead)(K:Env->St->Prop):wpD T (⟨⟨d,.mkref n xs,some (t,want)⟩,wl,wh⟩::ds) e σ next hist reads K =
  bG (A:=⟨wpD T (⟨⟨d,.mkref n xs,none⟩,wl,wh⟩::ds) e σ next hist reads K⟩) (B:=⟨wpD T ds (Env.put e d (.tuple [])) σ next (hist++[σ]) reads K⟩) (Env.get e t) want:=by
 simp only[wpD,bG,AOp.allocs,AOp.acts,true_and,if_true,Bool.false_eq_true,if_false]
theorem aGL(sh:Option Nat)(x:AOpd)(t:Nat)(want:Bool)(d:Option Nat)(wl wh:Nat)(ds:List ADOper)(e:Env)(σ:St)(next:Nat)(hist:List St)(reads:List ARead)(K:Env->St->Prop):wpD T (⟨⟨d,.load sh x,some (t,want)⟩,wl,wh⟩::ds) e σ next hist reads K =
  bG (A:=⟨wpD T (⟨⟨d,.load sh x,none⟩,wl,wh⟩::ds) e σ next hist reads K⟩) (B:=⟨wpD T ds (Env.put e d (.tuple [])) σ next hist reads K⟩) (Env.get e t) want:=by
 simp only[wpD,bG,AOp.allocs,AOp.acts,true_and,if_true,Bool.false_eq_true,if_false]
theorem ZW(n:Nat)(x y:AOpd)(t:Nat)(want:Bool)(d:Option Nat)(wl wh:Nat)(ds:List ADOper)(e:Env)(σ:St)(next:Nat)(hist:List St)(reads:List ARead)(K:Env->St->Prop):wpD T (⟨⟨d,.store n x y,some (t,want)⟩,wl,wh⟩::ds) e σ next hist reads K =
  bG (A:=⟨wpD T (⟨⟨d,.store n x y,none⟩,wl,wh⟩::ds) e σ next hist reads K⟩) (B:=⟨wpD T ds (Env.put e d (.tuple [])) σ next (hist++[σ]) reads K⟩) (Env.get e t) want:=by
 simp only[wpD,bG,AOp.allocs,AOp.acts,true_and,if_true,Bool.false_eq_true,if_false]
theorem ME(x:AOpd)(t:Nat)(want:Bool)(d:Option Nat)(wl wh:Nat)(ds:List ADOper)(e:Env)(σ:St)(next:Nat)(hist:List St)(reads:List ARead)(K:Env->St->Prop):wpD T (⟨⟨d,.nilCheck x,some (t,want)⟩,wl,wh⟩::ds) e σ next hist reads K =
  bG (A:=⟨wpD T (⟨⟨d,.nilCheck x,none⟩,wl,wh⟩::ds) e σ next hist reads K⟩) (B:=⟨wpD T ds (Env.put e d (.tuple [])) σ next hist reads K⟩) (Env.get e t) want:=by
 simp only[wpD,bG,AOp.allocs,AOp.acts,true_and,if_true,Bool.false_eq_true,if_false]
theorem aKI(op:BinOp)(x y:AOpd)(t:Nat)(want:Bool)(d:Option Nat)(wl wh:Nat)(ds:List ADOper)(e:Env)(σ:St)(next:Nat)(hist:List St)(reads:List ARead)(K:Env->St->Prop):wpD T (⟨⟨d,.bin op x y,some (t,want)⟩,wl,wh⟩::ds) e σ next hist reads K =
  bG (A:=⟨wpD T (⟨⟨d,.bin op x y,none⟩,wl,wh⟩::ds) e σ next hist reads K⟩) (B:=⟨wpD T ds (Env.put e d (.tuple [])) σ next hist reads K⟩) (Env.get e t) want:=by
 simp only[wpD,bG,AOp.allocs,AOp.acts,true_and,if_true,Bool.false_eq_true,if_false]
theorem aMC(sh:EqTy)(n:Bool)(x y:AOpd)(t:Nat)(want:Bool)(d:Option Nat)(wl wh:Nat)(ds:List ADOper)(e:Env)(σ:St)(next:Nat)(hist:List St)(reads:List ARead)(K:Env->St->Prop):wpD T (⟨⟨d,.eql sh n x y,some (t,want)⟩,wl,wh⟩::ds) e σ next hist reads K =
  bG (A:=⟨wpD T (⟨⟨d,.eql sh n x y,none⟩,wl,wh⟩::ds) e σ next hist reads K⟩) (B:=⟨wpD T ds (Env.put e d (.tuple [])) σ next hist reads K⟩) (Env.get e t) want:=by
 simp only[wpD,bG,AOp.allocs,AOp.acts,true_and,if_true,Bool.false_eq_true,if_false]
theorem aMI(x:AOpd)(t:Nat)(want:Bool)(d:Option Nat)(wl wh:Nat)(ds:List ADOper)(e:Env)(σ:St)(next:Nat)(hist:List St)(reads:List ARead)(K:Env->St->Prop):wpD T (⟨⟨d,.not x,some (t,want)⟩,wl,wh⟩::ds) e σ next hist reads K =
  bG (A:=⟨wpD T (⟨⟨d,.not x,none⟩,wl,wh⟩::ds) e σ next hist reads K⟩) (B:=⟨wpD T ds (Env.put e d (.tuple [])) σ next hist reads K⟩) (Env.get e t) want:=by
 simp only[wpD,bG,AOp.allocs,AOp.acts,true_and,if_true,Bool.false_eq_true,if_false]
theorem aI4(x:AOpd)(t:Nat)(want:Bool)(d:Option Nat)(wl wh:Nat)(ds:List ADOper)(e:Env)(σ:St)(next:Nat)(hist:List St)(reads:List ARead)(K:Env->St->Prop):wpD T (⟨⟨d,.neg x,some (t,want)⟩,wl,wh⟩::ds) e σ next hist reads K =
  bG (A:=⟨wpD T (⟨⟨d,.neg x,none⟩,wl,wh⟩::ds) e σ next hist reads K⟩) (B:=⟨wpD T ds (Env.put e d (.tuple [])) σ next hist reads K⟩) (Env.get e t) want:=by
 simp only[wpD,bG,AOp.allocs,AOp.acts,true_and,if_true,Bool.false_eq_true,if_false]
theorem aIJ(k:IntKind)(x:AOpd)(t:Nat)(want:Bool)(d:Option Nat)(wl wh:Nat)(ds:List ADOper)(e:Env)(σ:St)(next:Nat)(hist:List St)(reads:List ARead)(K:Env->St->Prop):wpD T (⟨⟨d,.conv k x,some (t,want)⟩,wl,wh⟩::ds) e σ next hist reads K =
  bG (A:=⟨wpD T (⟨⟨d,.conv k x,none⟩,wl,wh⟩::ds) e σ next hist reads K⟩) (B:=⟨wpD T ds (Env.put e d (.tuple [])) σ next hist reads K⟩) (Env.get e t) want:=by
 simp only[wpD,bG,AOp.allocs,AOp.acts,true_and,if_true,Bool.false_eq_true,if_false]
theorem aA6(f:FuncId)(xs ys:List AOpd)(t:Nat)(want:Bool)(d:Option Nat)(wl wh:Nat)(ds:List ADOper)(e:Env)(σ:St)(next:Nat)(hist:List St)(reads:List ARead)(K:Env->St->Prop):wpD T (⟨⟨d,.mkfun f xs ys,some (t,want)⟩,wl,wh⟩::ds) e σ next hist reads K =
  bG (A:=⟨wpD T (⟨⟨d,.mkfun f xs ys,none⟩,wl,wh⟩::ds) e σ next hist reads K⟩) (B:=⟨wpD T ds (Env.put e d (.tuple [])) σ next hist reads K⟩) (Env.get e t) want:=by
 simp only[wpD,bG,AOp.allocs,AOp.acts,true_and,if_true,Bool.false_eq_true,if_false]
theorem aBH(t:Nat)(want:Bool)(d:Option Nat)(wl wh:Nat)(ds:List ADOper)(e:Env)(σ:St)(next:Nat)(hist:List St)(reads:List ARead)(K:Env->St->Prop):wpD T (⟨⟨d,.mkmap,some (t,want)⟩,wl,wh⟩::ds) e σ next hist reads K =
  bG (A:=⟨wpD T (⟨⟨d,.mkmap,none⟩,wl,wh⟩::ds) e σ next hist reads K⟩) (B:=⟨wpD T ds (Env.put e d (.tuple [])) σ next (hist++[σ]) reads K⟩) (Env.get e t) want:=by
 simp only[wpD,bG,AOp.allocs,AOp.acts,true_and,if_true,Bool.false_eq_true,if_false]
theorem RO(z:List AV)(b:Nat)(x y:AOpd)(t:Nat)(want:Bool)(d:Option Nat)(wl wh:Nat)(ds:List ADOper)(e:Env)(σ:St)(next:Nat)(hist:List St)(reads:List ARead)(K:Env->St->Prop):wpD T (⟨⟨d,.mkslice z b x y,some (t,want)⟩,wl,wh⟩::ds) e σ next hist reads K =
  bG (A:=⟨wpD T (⟨⟨d,.mkslice z b x y,none⟩,wl,wh⟩::ds) e σ next hist reads K⟩) (B:=⟨wpD T ds (Env.put e d (.tuple [])) σ next (hist++[σ]) reads K⟩) (Env.get e t) want:=by
 simp only[wpD,bG,AOp.allocs,AOp.acts,true_and,if_true,Bool.false_eq_true,if_false]
theorem TE(n:Nat)(x:AOpd)(lo hi mx:Option AOpd)(t:Nat)(want:Bool)(d:Option Nat)(wl wh:Nat)(ds:List ADOper)(e:Env)(σ:St)(next:Nat)(hist:List St)(reads:List ARead)(K:Env->St->Prop):wpD T (⟨⟨d,.slicev n x lo hi mx,some (t,want)⟩,wl,wh⟩::ds) e σ next hist reads K =
  bG (A:=⟨wpD T (⟨⟨d,.slicev n x lo hi mx,none⟩,wl,wh⟩::ds) e σ next hist reads K⟩) (B:=⟨wpD T ds (Env.put e d (.tuple [])) σ next hist reads K⟩) (Env.get e t) want:=by
 simp only[wpD,bG,AOp.allocs,AOp.acts,true_and,if_true,Bool.false_eq_true,if_false]
theorem UK(n s:Nat)(x:AOpd)(lo hi:Option AOpd)(t:Nat)(want:Bool)(d:Option Nat)(wl wh:Nat)(ds:List ADOper)(e:Env)(σ:St)(next:Nat)(hist:List St)(reads:List ARead)(K:Env->St->Prop):wpD T (⟨⟨d,.slicea n s x lo hi,some (t,want)⟩,wl,wh⟩::ds) e σ next hist reads K =
  bG (A:=⟨wpD T (⟨⟨d,.slicea n s x lo hi,none⟩,wl,wh⟩::ds) e σ next hist reads K⟩) (B:=⟨wpD T ds (Env.put e d (.tuple [])) σ next hist reads K⟩) (Env.get e t) want:=by
 simp only[wpD,bG,AOp.allocs,AOp.acts,true_and,if_true,Bool.false_eq_true,if_false]
theorem ZE(x:AOpd)(o:Nat)(t:Nat)(want:Bool)(d:Option Nat)(wl wh:Nat)(ds:List ADOper)(e:Env)(σ:St)(next:Nat)(hist:List St)(reads:List ARead)(K:Env->St->Prop):wpD T (⟨⟨d,.faddr x o,some (t,want)⟩,wl,wh⟩::ds) e σ next hist reads K =
  bG (A:=⟨wpD T (⟨⟨d,.faddr x o,none⟩,wl,wh⟩::ds) e σ next hist reads K⟩) (B:=⟨wpD T ds (Env.put e d (.tuple [])) σ next hist reads K⟩) (Env.get e t) want:=by
 simp only[wpD,bG,AOp.allocs,AOp.acts,true_and,if_true,Bool.false_eq_true,if_false]
theorem aBO(x:AOpd)(o:Nat)(sh:Option Nat)(t:Nat)(want:Bool)(d:Option Nat)(wl wh:Nat)(ds:List ADOper)(e:Env)(σ:St)(next:Nat)(hist:List St)(reads:List ARead)(K:Env->St->Prop):wpD T (⟨⟨d,.field x o sh,some (t,want)⟩,wl,wh⟩::ds) e σ next hist reads K =
  bG (A:=⟨wpD T (⟨⟨d,.field x o sh,none⟩,wl,wh⟩::ds) e σ next hist reads K⟩) (B:=⟨wpD T ds (Env.put e d (.tuple [])) σ next hist reads K⟩) (Env.get e t) want:=by
 simp only[wpD,bG,AOp.allocs,AOp.acts,true_and,if_true,Bool.false_eq_true,if_false]
theorem YO(a:Option Nat)(s:Nat)(x i:AOpd)(t:Nat)(want:Bool)(d:Option Nat)(wl wh:Nat)(ds:List ADOper)(e:Env)(σ:St)(next:Nat)(hist:List St)(reads:List ARead)(K:Env->St->Prop):wpD T (⟨⟨d,.iaddr a s x i,some (t,want)⟩,wl,wh⟩::ds) e σ next hist reads K =
  bG (A:=⟨wpD T (⟨⟨d,.iaddr a s x i,none⟩,wl,wh⟩::ds) e σ next hist reads K⟩) (B:=⟨wpD T ds (Env.put e d (.tuple [])) σ next hist reads K⟩) (Env.get e t) want:=by
 simp only[wpD,bG,AOp.allocs,AOp.acts,true_and,if_true,Bool.false_eq_true,if_false]
theorem Z6(n s:Nat)(sh:Option Nat)(x i:AOpd)(t:Nat)(want:Bool)(d:Option Nat)(wl wh:Nat)(ds:List ADOper)(e:Env)(σ:St)(next:Nat)(hist:List St)(reads:List ARead)(K:Env->St->Prop):wpD T (⟨⟨d,.index n s sh x i,some (t,want)⟩,wl,wh⟩::ds) e σ next hist reads K =
  bG (A:=⟨wpD T (⟨⟨d,.index n s sh x i,none⟩,wl,wh⟩::ds) e σ next hist reads K⟩) (B:=⟨wpD T ds (Env.put e d (.tuple [])) σ next hist reads K⟩) (Env.get e t) want:=by
 simp only[wpD,bG,AOp.allocs,AOp.acts,true_and,if_true,Bool.false_eq_true,if_false]
theorem YH(x i:AOpd)(t:Nat)(want:Bool)(d:Option Nat)(wl wh:Nat)(ds:List ADOper)(e:Env)(σ:St)(next:Nat)(hist:List St)(reads:List ARead)(K:Env->St->Prop):wpD T (⟨⟨d,.sindex x i,some (t,want)⟩,wl,wh⟩::ds) e σ next hist reads K =
  bG (A:=⟨wpD T (⟨⟨d,.sindex x i,none⟩,wl,wh⟩::ds) e σ next hist reads K⟩) (B:=⟨wpD T ds (Env.put e d (.tuple [])) σ next hist reads K⟩) (Env.get e t) want:=by
 simp only[wpD,bG,AOp.allocs,AOp.acts,true_and,if_true,Bool.false_eq_true,if_false]
theorem TC(sh:EqTy)(ok:Bool)(z:AV)(m k:AOpd)(t:Nat)(want:Bool)(d:Option Nat)(wl wh:Nat)(ds:List ADOper)(e:Env)(σ:St)(next:Nat)(hist:List St)(reads:List ARead)(K:Env->St->Prop):wpD T (⟨⟨d,.lookup sh ok z m k,some (t,want)⟩,wl,wh⟩::ds) e σ next hist reads K =
  bG (A:=⟨wpD T (⟨⟨d,.lookup sh ok z m k,none⟩,wl,wh⟩::ds) e σ next hist reads K⟩) (B:=⟨wpD T ds (Env.put e d (.tuple [])) σ next hist reads K⟩) (Env.get e t) want:=by
 simp only[wpD,bG,AOp.allocs,AOp.acts,true_and,if_true,Bool.false_eq_true,if_false]
theorem TK(sh:EqTy)(m k v:AOpd)(t:Nat)(want:Bool)(d:Option Nat)(wl wh:Nat)(ds:List ADOper)(e:Env)(σ:St)(next:Nat)(hist:List St)(reads:List ARead)(K:Env->St->Prop):wpD T (⟨⟨d,.mapset sh m k v,some (t,want)⟩,wl,wh⟩::ds) e σ next hist reads K =
  bG (A:=⟨wpD T (⟨⟨d,.mapset sh m k v,none⟩,wl,wh⟩::ds) e σ next hist reads K⟩) (B:=⟨wpD T ds (Env.put e d (.tuple [])) σ next (hist++[σ]) reads K⟩) (Env.get e t) want:=by
 simp only[wpD,bG,AOp.allocs,AOp.acts,true_and,if_true,Bool.false_eq_true,if_false]
theorem aJV(x:AOpd)(i:Nat)(t:Nat)(want:Bool)(d:Option Nat)(wl wh:Nat)(ds:List ADOper)(e:Env)(σ:St)(next:Nat)(hist:List St)(reads:List ARead)(K:Env->St->Prop):wpD T (⟨⟨d,.ext x i,some (t,want)⟩,wl,wh⟩::ds) e σ next hist reads K =
  bG (A:=⟨wpD T (⟨⟨d,.ext x i,none⟩,wl,wh⟩::ds) e σ next hist reads K⟩) (B:=⟨wpD T ds (Env.put e d (.tuple [])) σ next hist reads K⟩) (Env.get e t) want:=by
 simp only[wpD,bG,AOp.allocs,AOp.acts,true_and,if_true,Bool.false_eq_true,if_false]
theorem aKW(k:Nat)(x:AOpd)(t:Nat)(want:Bool)(d:Option Nat)(wl wh:Nat)(ds:List ADOper)(e:Env)(σ:St)(next:Nat)(hist:List St)(reads:List ARead)(K:Env->St->Prop):wpD T (⟨⟨d,.len k x,some (t,want)⟩,wl,wh⟩::ds) e σ next hist reads K =
  bG (A:=⟨wpD T (⟨⟨d,.len k x,none⟩,wl,wh⟩::ds) e σ next hist reads K⟩) (B:=⟨wpD T ds (Env.put e d (.tuple [])) σ next hist reads K⟩) (Env.get e t) want:=by
 simp only[wpD,bG,AOp.allocs,AOp.acts,true_and,if_true,Bool.false_eq_true,if_false]
theorem TH(n b:Nat)(x y:AOpd)(t:Nat)(want:Bool)(d:Option Nat)(wl wh:Nat)(ds:List ADOper)(e:Env)(σ:St)(next:Nat)(hist:List St)(reads:List ARead)(K:Env->St->Prop):wpD T (⟨⟨d,.append n b x y,some (t,want)⟩,wl,wh⟩::ds) e σ next hist reads K =
  bG (A:=⟨wpD T (⟨⟨d,.append n b x y,none⟩,wl,wh⟩::ds) e σ next hist reads K⟩) (B:=⟨wpD T ds (Env.put e d (.tuple [])) σ next (hist++[σ]) reads K⟩) (Env.get e t) want:=by
 simp only[wpD,bG,AOp.allocs,AOp.acts,true_and,if_true,Bool.false_eq_true,if_false]
theorem aAK(n b:Nat)(x y:AOpd)(t:Nat)(want:Bool)(d:Option Nat)(wl wh:Nat)(ds:List ADOper)(e:Env)(σ:St)(next:Nat)(hist:List St)(reads:List ARead)(K:Env->St->Prop):wpD T (⟨⟨d,.apref n b x y,some (t,want)⟩,wl,wh⟩::ds) e σ next hist reads K =
  bG (A:=⟨wpD T (⟨⟨d,.apref n b x y,none⟩,wl,wh⟩::ds) e σ next hist reads K⟩) (B:=⟨wpD T ds (Env.put e d (.tuple [])) σ next (hist++[σ]) reads K⟩) (Env.get e t) want:=by
 simp only[wpD,bG,AOp.allocs,AOp.acts,true_and,if_true,Bool.false_eq_true,if_false]
theorem aEY(n:Nat)(x y:AOpd)(t:Nat)(want:Bool)(d:Option Nat)(wl wh:Nat)(ds:List ADOper)(e:Env)(σ:St)(next:Nat)(hist:List St)(reads:List ARead)(K:Env->St->Prop):wpD T (⟨⟨d,.copy n x y,some (t,want)⟩,wl,wh⟩::ds) e σ next hist reads K =
  bG (A:=⟨wpD T (⟨⟨d,.copy n x y,none⟩,wl,wh⟩::ds) e σ next hist reads K⟩) (B:=⟨wpD T ds (Env.put e d (.tuple [])) σ next (hist++[σ]) reads K⟩) (Env.get e t) want:=by
 simp only[wpD,bG,AOp.allocs,AOp.acts,true_and,if_true,Bool.false_eq_true,if_false]
theorem aKL(xs:List AOpd)(t:Nat)(want:Bool)(d:Option Nat)(wl wh:Nat)(ds:List ADOper)(e:Env)(σ:St)(next:Nat)(hist:List St)(reads:List ARead)(K:Env->St->Prop):wpD T (⟨⟨d,.min xs,some (t,want)⟩,wl,wh⟩::ds) e σ next hist reads K =
  bG (A:=⟨wpD T (⟨⟨d,.min xs,none⟩,wl,wh⟩::ds) e σ next hist reads K⟩) (B:=⟨wpD T ds (Env.put e d (.tuple [])) σ next hist reads K⟩) (Env.get e t) want:=by
 simp only[wpD,bG,AOp.allocs,AOp.acts,true_and,if_true,Bool.false_eq_true,if_false]
theorem aLX(xs:List AOpd)(t:Nat)(want:Bool)(d:Option Nat)(wl wh:Nat)(ds:List ADOper)(e:Env)(σ:St)(next:Nat)(hist:List St)(reads:List ARead)(K:Env->St->Prop):wpD T (⟨⟨d,.max xs,some (t,want)⟩,wl,wh⟩::ds) e σ next hist reads K =
  bG (A:=⟨wpD T (⟨⟨d,.max xs,none⟩,wl,wh⟩::ds) e σ next hist reads K⟩) (B:=⟨wpD T ds (Env.put e d (.tuple [])) σ next hist reads K⟩) (Env.get e t) want:=by
 simp only[wpD,bG,AOp.allocs,AOp.acts,true_and,if_true,Bool.false_eq_true,if_false]
theorem TB(x:AOpd)(t:Nat)(want:Bool)(d:Option Nat)(wl wh:Nat)(ds:List ADOper)(e:Env)(σ:St)(next:Nat)(hist:List St)(reads:List ARead)(K:Env->St->Prop):wpD T (⟨⟨d,.srange x,some (t,want)⟩,wl,wh⟩::ds) e σ next hist reads K =
  bG (A:=⟨wpD T (⟨⟨d,.srange x,none⟩,wl,wh⟩::ds) e σ next hist reads K⟩) (B:=⟨wpD T ds (Env.put e d (.tuple [])) σ next (hist++[σ]) reads K⟩) (Env.get e t) want:=by
 simp only[wpD,bG,AOp.allocs,AOp.acts,true_and,if_true,Bool.false_eq_true,if_false]
theorem ZP(x:AOpd)(t:Nat)(want:Bool)(d:Option Nat)(wl wh:Nat)(ds:List ADOper)(e:Env)(σ:St)(next:Nat)(hist:List St)(reads:List ARead)(K:Env->St->Prop):wpD T (⟨⟨d,.snext x,some (t,want)⟩,wl,wh⟩::ds) e σ next hist reads K =
  bG (A:=⟨wpD T (⟨⟨d,.snext x,none⟩,wl,wh⟩::ds) e σ next hist reads K⟩) (B:=⟨wpD T ds (Env.put e d (.tuple [])) σ next (hist++[σ]) reads K⟩) (Env.get e t) want:=by
 simp only[wpD,bG,AOp.allocs,AOp.acts,true_and,if_true,Bool.false_eq_true,if_false]
end Go.Am
namespace Go.Am
variable {T:FuncId->Option AFunc}
structure KeepS (σ σ':St) (lo:Nat):Prop where
 len:σ.length<=σ'.length
 low:∀ i,i<lo->i<σ.length->σ'[i]? = σ[i]?
 loops:∀ (i:Nat) (st:LS) (pe:Option AJump) (env:Env) (ps:List Nat) (a b:ACode),i<σ.length->σ'[i]? = some (.loop st pe env ps a b)->∃ st' pe',σ[i]? = some (.loop st' pe' env ps a b)
theorem KeepS.refl(σ:St)(lo:Nat):KeepS σ σ lo:=⟨Nat.le_refl _,fun _ _ _=>rfl,fun i st pe env ps a b _ h=>⟨st,pe,h⟩⟩
theorem KeepS.weak{σ σ':St}{lo l:Nat}(h:KeepS σ σ' lo)(hl:l<=lo):KeepS σ σ' l:=⟨h.len,fun i hi=>h.low i (by omega),h.loops⟩
theorem KeepS.trans{σ σ1 σ2:St}{l1 l2:Nat}(h:KeepS σ σ1 l1)(k:KeepS σ1 σ2 l2):KeepS σ σ2 (Nat.min l1 l2) where
 len:=Nat.le_trans h.len k.len
 low i hi hlt:=by
  have h1:i<l1:=Nat.lt_of_lt_of_le hi (Nat.min_le_left _ _);have h2:i<l2:=Nat.lt_of_lt_of_le hi (Nat.min_le_right _ _);rw[k.low i h2 (Nat.lt_of_lt_of_le hlt h.len),h.low i h1 hlt]
 loops i st pe env ps a b hlt e:=by
  obtain⟨st1,pe1,e1⟩:=k.loops i st pe env ps a b (Nat.lt_of_lt_of_le hlt h.len) e;exact h.loops i st1 pe1 env ps a b hlt e1
theorem KeepS.app(σ:St)(τ:St)(lo:Nat):KeepS σ (σ++τ) lo :=
 ⟨by simp,fun i _ hi=>List.getElem?_append_left hi,fun i st pe env ps a b hi e=>⟨st,pe,by rw[<-List.getElem?_append_left (l₂:=τ) hi];exact e⟩⟩
theorem KeepS.set{σ:St}{i:Nat}{x:ABlk}(hx:∀ st pe env ps a b,x≠.loop st pe env ps a b):KeepS σ (σ.set i x) i where
 len:=by simp
 low j hj _:=List.getElem?_set_ne (by omega)
 loops j st pe env ps a b hj e:=by
  by_cases h:i=j
  ·subst h;rw[List.getElem?_set_self hj] at e;cases e;exact absurd rfl (hx _ _ _ _ _ _)
  ·rw[List.getElem?_set_ne h] at e;exact⟨st,pe,e⟩
theorem KeepS.setLoop{σ:St}{i:Nat}{st st0:LS}{pe pe0:Option AJump}{env:Env}{ps:List Nat}{a b:ACode}(h0:σ[i]? = some (.loop st0 pe0 env ps a b)):KeepS σ (σ.set i (.loop st pe env ps a b)) i where
 len:=by simp
 low j hj _:=List.getElem?_set_ne (by omega)
 loops j st' pe' env' ps' a' b' hj e:=by
  by_cases h:i=j
  ·subst h;rw[List.getElem?_set_self hj] at e;cases e;exact⟨st0,pe0,h0⟩
  ·rw[List.getElem?_set_ne h] at e;exact⟨st',pe',e⟩
theorem KL{q:AOp}{e:Env}{σ σ':St}{v:AV}(h:aop q e σ=some (v,σ')):KeepS σ σ' (zI q e):=by
 cases q<;>simp only[aop] at h
 case mov=>cases h;exact .refl _ _
 case alloc=>cases h;exact .app _ _ _
 case mkfun=>cases h;exact .refl _ _
 case mkmap=>cases h;exact .app _ _ _
 case mnext=>cases h
 case call=>cases h
 case store n a x =>
  split at h
  ·rename_i τ hτ;cases h;unfold j7 at hτ;split at hτ
   ·rename_i id off ha;split at hτ
    ·split at hτ
     ·split at hτ
      ·cases hτ;simp only[zI,ha];exact .set fun _ _ _ _ _ _ e=>by cases e
      ·cases hτ
     ·cases hτ
    ·cases hτ
   ·cases hτ
  ·cases h
 case mapset sh m k x =>
  split at h
  ·rename_i id hm;split at h
   ·cases h
   ·split at h
    ·split at h
     ·cases h;simp only[zI,hm];exact .set fun _ _ _ _ _ _ e=>by cases e
     ·cases h
    ·cases h
  ·cases h
 case copy sz x y =>
  unfold qP at h;split at h
  ·rename_i id off len sz' ys hx hy;simp only at h;split at h
   ·split at h
    ·split at h
     ·cases h;simp only[zI,hx];exact .set fun _ _ _ _ _ _ e=>by cases e
     ·cases h
    ·cases h
   ·cases h
  ·cases h
 case snext x =>
  split at h
  ·rename_i id hx;split at h
   ·split at h
    ·cases h;simp only[zI,hx];exact .set fun _ _ _ _ _ _ e=>by cases e
    ·cases h;exact .refl _ _
   ·cases h
  ·cases h
 case append sz bytes x y =>
  unfold bW at h;split at h
  ·rename_i xs full tk ys hx hy;split at h
   ·cases h;exact .refl _ _
   ·split at h
    ·split at h
     ·cases h;exact .app _ _ _
     ·rename_i hf;split at h
      ·rename_i t;split at h
       ·split at h
        ·cases h;have:full=false:=by simpa using hf
         subst this;simp only[zI,hx];exact .set fun _ _ _ _ _ _ e=>by cases e
        ·cases h
       ·cases h
      ·cases h
    ·cases h
  ·cases h
 case apref sz bytes x y =>
  unfold j8 at h;split at h
  ·split at h
   ·cases h;exact .refl _ _
   ·split at h
    ·cases h;exact .app _ _ _
    ·cases h
  ·cases h
 all_goals
  repeat' split at h
  all_goals first|(cases h;done)|(cases h;first|exact .refl _ _|exact .app _ _ _)
end Go.Am
namespace Go.Am
variable {T:FuncId->Option AFunc}
mutual
theorem eqVF_ok:∀ (k:Nat) (a b:AV),eqVF k a b=true->a=b
 |0,a,b,h=>by simp[eqVF] at h
 |k+1,a,b,h=>by
  cases a<;>cases b<;>simp only[eqVF,Bool.and_eq_true,decide_eq_true_eq,beq_iff_eq,Bool.false_eq_true] at h
  case func.func f a b g c d=>rw[h.1.1,eqVsF_ok k a c h.1.2,eqVsF_ok k b d h.2]
  case int.int=>rw[h.1,h.2]
  case bool.bool=>rw[h]
  case str.str=>rw[h]
  case yield.yield=>rw[h]
  case map.map=>rw[h]
  case ptr.ptr=>rw[h.1,h.2]
  case lptr.lptr xs i o t ys j p u=>rw[eqVsF_ok k xs ys h.1.1.1,h.1.1.2,h.1.2,h.2]
  case lit.lit xs f t ys g u=>rw[eqVsF_ok k xs ys h.1.1,h.1.2,h.2]
  case ref.ref=>rw[h.1.1.1,h.1.1.2,h.1.2,h.2]
  case agg.agg xs ys=>rw[eqVsF_ok k xs ys h]
  case tuple.tuple xs ys=>rw[eqVsF_ok k xs ys h]
  all_goals rfl
theorem eqVsF_ok:∀ (k:Nat) (a b:List AV),eqVsF k a b=true->a=b
 |0,a,b,h=>by simp[eqVsF] at h
 |k+1,[],[],h=>rfl
 |k+1,[],_::_,h=>by simp[eqVsF] at h
 |k+1,_::_,[],h=>by simp[eqVsF] at h
 |k+1,a::x,b::y,h=>by
  simp only[eqVsF,Bool.and_eq_true] at h;rw[eqVF_ok k a b h.1,eqVsF_ok k x y h.2]
end
theorem EB{q:AOp}{e:Env}{σ σ':St}{v:AV}(hr:q.reads=true)(h:aop q e σ=some (v,σ')):σ'=σ:=by
 cases q<;>simp only[AOp.reads] at hr<;>first|(cases hr;done)|skip
 all_goals
  simp only[aop] at h
  repeat' split at h
  all_goals first|(cases h;done)|(cases h;rfl)
theorem KeepS.step{σ σ1 σ2:St}{l lo lo':Nat}(h:KeepS σ σ1 l)(k:lo'<=Nat.min lo l/\KeepS σ1 σ2 lo'):lo'<=lo/\KeepS σ σ2 lo':=by
 have h1:lo'<=l:=Nat.le_trans k.1 (Nat.min_le_right _ _);refine⟨Nat.le_trans k.1 (Nat.min_le_left _ _),(h.trans k.2).weak ?_⟩;exact Nat.le_min.2 ⟨h1,Nat.le_refl _⟩
end Go.Am
namespace Go.Am
variable {T:FuncId->Option AFunc}
theorem aEM(e:Env):evs e []=[]:=by simp only[evs]
theorem aFB(e:Env)(x:AOpd)(xs:List AOpd):evs e (x::xs)=x.ev e::evs e xs:=by simp only[evs]
theorem aE5(e:Env):ovs e none=none:=by simp only[ovs]
theorem aGU(e:Env)(x:AOpd):ovs e (some x)=some (x.ev e):=by simp only[ovs]
theorem aCZ{α β:Type}(f:α->β)(a:α):Option.map f (some a)=some (f a):=by simp
theorem TX{α β:Type}(f:α->Option β)(a:α):(some a).bind f=f a:=by simp
theorem aHM(i o:Nat):KR (.ptr i o)=some (.ptr i o):=by simp only[KR]
theorem aEX(xs:List AV)(i o:Nat)(t:Option Nat):KR (.lptr xs i o t)=some (.lptr xs i o t):=by simp only[KR]
theorem aE8(f:FuncId)(a b:List AV):KR (.func f a b)=some (.func f a b):=by simp only[KR]
theorem aBQ(o:Nat)(sh:Option Nat)(cs:List AV):FZ o sh (.agg cs)=dQ sh cs o:=by simp only[FZ]
theorem aFF(k k':IntKind)(n:Int):PL k (.int k' n)=some (.int k (k.wrap n)):=by simp only[PL]
theorem aJY(k:IntKind)(n:Int):ZL (.int k n)=some (.int k (k.wrap (0-n))):=by simp only[ZL]
theorem aAI(x y:AV):E6 (.bool true) x y=some x:=by simp only[E6]
theorem YQ(x y:AV):E6 (.bool false) x y=some y:=by simp only[E6]
theorem aMU(s:ByteArray):aCG (.str s)=some s:=by simp only[aCG]
theorem U6(k:IntKind)(a b:Int):fS .i (.int k a) (.int k b)=some (a==b):=by simp[fS]
theorem aLT(a b:Bool):fS .b (.bool a) (.bool b)=some (a==b):=by simp[fS]
theorem aJG(a b:ByteArray):fS .s (.str a) (.str b)=some (a.toList==b.toList):=by simp[fS]
def aB9:Option Bool->Option Bool->Option Bool
 |some p,some q=>some (p&&q)
 |_,_=>none
theorem MO(p q:Bool):aB9 (some p) (some q)=some (p&&q):=by simp only[aB9]
theorem US:bF [] [] []=some true:=by simp[bF]
theorem MN(k:SK)(ks:List SK)(a b:AV)(x y:List AV):bF (k::ks) (a::x) (b::y)=aB9 (fS k a b) (bF ks x y):=by
 simp only[bF,aB9];cases fS k a b<;>cases bF ks x y<;>rfl
theorem aMK(k:SK)(x y:AV):D1 (.one k) false x y=(fS k x y).map .bool:=by
 simp only[D1,iG];cases fS k x y<;>simp
theorem aLL(k:SK)(x y:AV):D1 (.one k) true x y=(fS k x y).map fun b=>.bool !b:=by
 simp only[D1,iG];cases fS k x y<;>simp
theorem aJ6(ks:List SK)(x y:List AV):D1 (.agg ks) false (.agg x) (.agg y)=(bF ks x y).map .bool:=by
 simp only[D1,iG];cases bF ks x y<;>simp
theorem aMX(ks:List SK)(x y:List AV):D1 (.agg ks) true (.agg x) (.agg y)=(bF ks x y).map fun b=>.bool !b:=by
 simp only[D1,iG];cases bF ks x y<;>simp
theorem aLV(k:IntKind)(a b:Int):cY .add (.int k a) (.int k b)=some (.int k (k.wrap (a+b))):=by simp[cY,fF]
theorem aKT(k:IntKind)(a b:Int):cY .sub (.int k a) (.int k b)=some (.int k (k.wrap (a-b))):=by simp[cY,fF]
theorem aIW(k:IntKind)(a b:Int):cY .mul (.int k a) (.int k b)=some (.int k (k.wrap (a*b))):=by simp[cY,fF]
theorem aI7(k:IntKind)(a b:Int)(h:b≠0):cY .quo (.int k a) (.int k b)=some (.int k (k.wrap (a.tdiv b))):=by simp[cY,fF,h]
theorem LC(k:IntKind)(a b:Int)(h:b≠0):cY .rem (.int k a) (.int k b)=some (.int k (a.tmod b)):=by simp[cY,fF,h]
theorem aKP(k:IntKind)(a b:Int):cY .lss (.int k a) (.int k b)=some (.bool (decide (a<b))):=by simp[cY,fF]
theorem aMS(k:IntKind)(a b:Int):cY .leq (.int k a) (.int k b)=some (.bool (decide (a<=b))):=by simp[cY,fF]
theorem aJQ(k:IntKind)(a b:Int):cY .gtr (.int k a) (.int k b)=some (.bool (decide (b<a))):=by simp[cY,fF]
theorem aLJ(k:IntKind)(a b:Int):cY .geq (.int k a) (.int k b)=some (.bool (decide (b<=a))):=by simp[cY,fF]
theorem bL{x:Int}(h:-9223372036854775808<=x/\x<=9223372036854775807):IntKind.i64.wrap x=x:=by
 simp only[IntKind.wrap,IntKind.signed,IntKind.bits];first
  |(rw[Int.bmod_eq_of_le]<;>omega)
  |(simp;omega)
theorem aK0(σ:St)(xs:List AV)(f:Bool)(t:Option Nat):gO 1 σ (.lit xs f t)=some xs.length:=by simp only[gO]
theorem aGY(σ:St)(s:ByteArray):gO 0 σ (.str s)=some s.size:=by simp only[gO]
theorem aGC(σ:St)(id off len sz:Nat):gO 1 σ (.ref id off len sz)=some len:=by simp only[gO]
theorem aMW(sh:Option Nat)(σ:St)(id off:Nat):jC sh σ (.ptr id off)=(aM σ id).bind fun cs=>dQ sh cs off:=by
 simp only[jC];cases aM σ id<;>simp
theorem aIG(sh:Option Nat)(σ:St)(xs:List AV)(i off:Nat)(t:Option Nat):jC sh σ (.lptr xs i off t)=(xs[i]?).bind fun x=>dQ sh x.cells off:=by
 simp only[jC];cases xs[i]?<;>simp
theorem aCK(b:List AV)(τ:St):aM (.cells b::τ) 0=some b:=by simp[aM]
theorem aDX(b:ABlk)(τ:St)(k:Nat):aM (b::τ) (k+1)=aM τ k:=by simp[aM]
theorem lW(σ τ:St)(k:Nat):aM (σ++τ) (σ.length+k)=aM τ k:=by simp only[aM,sO]
theorem HD(σ τ:St):aM (σ++τ) σ.length=aM τ 0:=lW σ τ 0
theorem aJ4(cs:List AV)(off:Nat):dQ none cs off=cs[off]?:=by simp[dQ]
theorem aI8(n:Nat)(cs:List AV)(off:Nat):dQ (some n) cs off=if off+n<=cs.length then some (.agg ((cs.drop off).take n)) else none:=by simp[dQ]
theorem aAU(n:Nat)(σ:St)(id off:Nat)(v:AV):j7 n σ (.ptr id off) v=(kG n v).bind fun us=>(aM σ id).bind fun cs=>(eG cs off us).map fun cs'=>σ.set id (.cells cs'):=by
 simp only[j7,kG];split
 ·simp only[Option.bind_some];cases aM σ id with
  |none=>simp
  |some cs=>simp only[Option.bind_some];cases eG cs off v.cells<;>simp
 ·simp
theorem aJU(cs us:List AV)(off:Nat):eG cs off us=if off+us.length<=cs.length then some (cs.take off++us++cs.drop (off+us.length)) else none:=by simp only[eG]
def cG(n:Nat)(v:AV):Bool:=v.cells.length==n&&v.cells.all (·.cell)
theorem aCI(n:Nat)(v:AV):kG n v=if cG n v=true then some v.cells else none:=by unfold kG cG;rfl
theorem UY(k:IntKind)(n:Int):cG 1 (.int k n)=true:=by simp[cG,AV.cells,AV.cell]
theorem aIE(b:Bool):cG 1 (.bool b)=true:=by simp[cG,AV.cells,AV.cell]
theorem XY(b:ByteArray):cG 1 (.str b)=true:=by simp[cG,AV.cells,AV.cell]
theorem aC8(xs:List AV)(f:Bool)(t:Option Nat):cG 1 (.lit xs f t)=true:=by simp[cG,AV.cells,AV.cell]
theorem aIX(a b c d:Nat):cG 1 (.ref a b c d)=true:=by simp[cG,AV.cells,AV.cell]
theorem aMY(a b:Nat):cG 1 (.ptr a b)=true:=by simp[cG,AV.cells,AV.cell]
theorem aGK(f:FuncId)(a b:List AV):cG 1 (.func f a b)=true:=by simp[cG,AV.cells,AV.cell]
theorem aJZ(i:Nat):cG 1 (.map i)=true:=by simp[cG,AV.cells,AV.cell]
theorem U5:cG 1 .nilPtr=true:=by simp[cG,AV.cells,AV.cell]
theorem QQ:cG 1 .nilFunc=true:=by simp[cG,AV.cells,AV.cell]
def bI:List AV->Bool
 |[]=>true
 |v::vs=>v.cell&&bI vs
theorem aMD(n:Nat)(cs:List AV):cG n (.agg cs)=(cs.length==n&&bI cs):=by
 simp only[cG,AV.cells]
 congr 1
 induction cs with
 |nil=>rfl
 |cons c cs ih=>simp only[List.all_cons,bI,ih]
theorem C_0:bI []=true:=by simp only[bI]
theorem aFW(k:IntKind)(n:Int)(cs:List AV):bI (.int k n::cs)=bI cs:=by simp[bI,AV.cell]
theorem aA8(b:Bool)(cs:List AV):bI (.bool b::cs)=bI cs:=by simp[bI,AV.cell]
theorem aH8(b:ByteArray)(cs:List AV):bI (.str b::cs)=bI cs:=by simp[bI,AV.cell]
theorem aIC(xs:List AV)(f:Bool)(t:Option Nat)(cs:List AV):bI (.lit xs f t::cs)=bI cs:=by simp[bI,AV.cell]
theorem aET(a b c d:Nat)(cs:List AV):bI (.ref a b c d::cs)=bI cs:=by simp[bI,AV.cell]
theorem aEI(a b:Nat)(cs:List AV):bI (.ptr a b::cs)=bI cs:=by simp[bI,AV.cell]
theorem YW(f:FuncId)(a b:List AV)(cs:List AV):bI (.func f a b::cs)=bI cs:=by simp[bI,AV.cell]
theorem aG5(i:Nat)(cs:List AV):bI (.map i::cs)=bI cs:=by simp[bI,AV.cell]
theorem SD(cs:List AV):bI (.nilPtr::cs)=bI cs:=by simp[bI,AV.cell]
theorem MK(cs:List AV):bI (.nilFunc::cs)=bI cs:=by simp[bI,AV.cell]
theorem aE2{α:Type}(enc:α->AV)(l:List α)(h:∀ x,(enc x).cell=true):bI (l.map enc)=true:=by
 induction l with
 |nil=>rfl
 |cons x l ih=>simp[bI,h,ih]
theorem aLY(k:IntKind)(n:Int):(AV.int k n).cells=[.int k n]:=by simp[AV.cells]
theorem aE4(b:Bool):(AV.bool b).cells=[.bool b]:=by simp[AV.cells]
theorem aM6(b:ByteArray):(AV.str b).cells=[.str b]:=by simp[AV.cells]
theorem aM1(xs:List AV)(f:Bool)(t:Option Nat):(AV.lit xs f t).cells=[.lit xs f t]:=by simp[AV.cells]
theorem aL7(a b c d:Nat):(AV.ref a b c d).cells=[.ref a b c d]:=by simp[AV.cells]
theorem aK8(a b:Nat):(AV.ptr a b).cells=[.ptr a b]:=by simp[AV.cells]
theorem aE1(f:FuncId)(a b:List AV):(AV.func f a b).cells=[.func f a b]:=by simp[AV.cells]
theorem aIZ(i:Nat):(AV.map i).cells=[.map i]:=by simp[AV.cells]
theorem aL3(cs:List AV):(AV.agg cs).cells=cs:=by simp[AV.cells]
theorem VI:AV.nilPtr.cells=[.nilPtr]:=by simp[AV.cells]
theorem R4:AV.nilFunc.cells=[.nilFunc]:=by simp[AV.cells]
theorem aIY(e:Env)(cs:List AV):cJ e cs []=some cs:=by simp only[cJ]
theorem aI5(e:Env)(cs:List AV)(off n:Nat)(x:AOpd)(rest:List (Nat×Nat×AOpd)):
  cJ e cs ((off,n,x)::rest)=((kG n (x.ev e)).bind fun us=>eG cs off us).bind fun cs=>cJ e cs rest:=aI3 e cs off n x rest
theorem TA(n:Nat):aI n []=true:=by simp[aI]
theorem YL(n:Nat)(x:AV)(xs:List AV):aI n (x::xs)=(cG n x&&aI n xs):=by simp[aI,cG]
theorem vP{α:Type}(n:Nat)(enc:α->AV)(l:List α)(h:∀ x,cG n (enc x)=true):aI n (l.map enc)=true:=by
 induction l with
 |nil=>exact TA n
 |cons x l ih=>rw[List.map_cons,YL,h,ih];rfl
theorem aJK(n:Nat)(xs:List AV):yL n xs=if aI n xs=true then some (.lit xs true none) else none:=by simp only[yL]
def aBV(sz:Nat)(xs:List AV)(j:Int)(t:Option Nat):Option AV:=(xs[j.toNat]?).bind fun y=>if 0<=j/\y.cells.length=sz then some (.lptr xs j.toNat 0 t) else none
theorem aMV(sz:Nat)(xs:List AV)(f:Bool)(t:Option Nat)(k:IntKind)(j:Int):oT none sz (.lit xs f t) (.int k j)=aBV sz xs j t:=by
 simp only[oT,eQ,aBV];cases xs[j.toNat]?<;>simp
theorem aKH(n sz id off:Nat)(k:IntKind)(j:Int):oT (some n) sz (.ptr id off) (.int k j)=if 0<=j/\j<n then some (.ptr id (off+j.toNat*sz)) else none:=by simp only[oT,eQ]
theorem aFU(n sz q off:Nat)(xs:List AV)(t:Option Nat)(k:IntKind)(j:Int):oT (some n) sz (.lptr xs q off t) (.int k j)=if 0<=j/\j<n then some (.lptr xs q (off+j.toNat*sz) t) else none:=by simp only[oT,eQ]
theorem aJ8(sz id off len sz':Nat)(k:IntKind)(j:Int):oT none sz (.ref id off len sz') (.int k j)=if 0<=j/\j<len/\sz'=sz then some (.ptr id (off+j.toNat*sz)) else none:=by simp only[oT,eQ]
def HY(sz b:Nat)(xs ys:List AV):Prop:=aI sz xs=true/\aI sz ys=true/\(xs.length+ys.length)*b<=room/\xs.length+ys.length<=room
theorem K7{sz b:Nat}{σ:St}{xs ys:List AV}{tk t:Option Nat}{f:Bool}(h:HY sz b xs ys)(h0:ys.length≠0):
  bW sz b σ (.lit xs true tk) (.lit ys f t)=some (.lit (xs++ys) false (some σ.length),σ++[.tok sz (xs.length+ys.length) true]):=by
 obtain⟨h1,h2,h3,h4⟩:=h;simp[bW,jJ,rI,h0,h1,h2,h3,h4]
theorem v8{sz b:Nat}{σ:St}{xs ys:List AV}{t:Nat}{tk:Option Nat}{f ex:Bool}(h:HY sz b xs ys)(h0:ys.length≠0)(ht:σ[t]? = some (.tok sz xs.length ex)):
  bW sz b σ (.lit xs false (some t)) (.lit ys f tk)=some (.lit (xs++ys) false (some t),σ.set t (.tok sz (xs.length+ys.length) true)):=by
 obtain⟨h1,h2,h3,h4⟩:=h;simp[bW,jJ,rI,h0,h1,h2,h3,h4,ht]
theorem aBD{sz b:Nat}{σ:St}{xs:List AV}{tk t:Option Nat}{f f':Bool}:bW sz b σ (.lit xs f' tk) (.lit [] f t)=some (.lit xs f' tk,σ):=by
 simp[bW,jJ]
def b8(σ:St)(m d:Nat)(v:AV):Option AV:=(snap σ m d v).map clr
def bZ(σ:St)(m d:Nat)(vs:List AV):Option (List AV):=(snaps σ m d vs).map clrs
theorem aDD(σ:St)(m d:Nat)(k:IntKind)(n:Int):b8 σ m d (.int k n)=some (.int k n):=by simp[b8,snap,clr]
theorem aGN(σ:St)(m d:Nat)(b:Bool):b8 σ m d (.bool b)=some (.bool b):=by simp[b8,snap,clr]
theorem aCO(σ:St)(m d:Nat)(b:ByteArray):b8 σ m d (.str b)=some (.str b):=by simp[b8,snap,clr]
theorem WB(σ:St)(m d:Nat):b8 σ m d .nilPtr=some .nilPtr:=by simp[b8,snap,clr]
theorem RI(σ:St)(m d:Nat):b8 σ m d .nilFunc=some .nilFunc:=by simp[b8,snap,clr]
theorem aL2(σ:St)(m d id off:Nat):b8 σ m d (.ptr id off)=if id<m then some (.ptr id off) else none:=by
 simp only[b8,snap];split<;>simp[clr]
theorem aLE(σ:St)(m d id:Nat):b8 σ m d (.map id)=if id<m then some (.map id) else none:=by
 simp only[b8,snap];split<;>simp[clr]
theorem OC(σ:St)(m d:Nat):bZ σ m d []=some []:=by simp[bZ,snaps,clrs]
theorem HE(σ:St)(m d:Nat)(v:AV)(vs:List AV):bZ σ m d (v::vs)=(b8 σ m d v).bind fun a=>(bZ σ m d vs).map (a::·):=by
 simp only[bZ,b8,snaps];cases snap σ m d v<;>cases snaps σ m d vs<;>simp[clrs]
theorem aAW(σ:St)(m d:Nat)(vs:List AV):b8 σ m d (.tuple vs)=(bZ σ m d vs).map .tuple:=by
 simp only[bZ,b8,snap];cases snaps σ m d vs<;>simp[clr]
theorem aDN(σ:St)(m d:Nat)(vs:List AV):b8 σ m d (.agg vs)=(bZ σ m d vs).map .agg:=by
 simp only[bZ,b8,snap];cases snaps σ m d vs<;>simp[clr]
theorem LZ(σ:St)(m d:Nat)(vs:List AV)(f:Bool):b8 σ m d (.lit vs f none)=(bZ σ m d vs).map fun ys=>.lit ys false none:=by
 simp only[bZ,b8,snap];cases snaps σ m d vs<;>simp[clr]
theorem aER(σ:St)(m d t:Nat)(vs:List AV)(f:Bool):b8 σ m d (.lit vs f (some t))=(bZ σ m d vs).map fun ys=>if t<m then .lit ys f (some t) else .lit ys false none:=by
 simp only[bZ,b8,snap];cases snaps σ m d vs<;>by_cases h:t<m<;>simp[clr,h,Option.filter]
theorem aHA(σ:St)(m d:Nat)(f:FuncId)(a b:List AV):b8 σ m d (.func f a b)=(bZ σ m d a).bind fun x=>(bZ σ m d b).map fun y=>.func f x y:=by
 simp only[bZ,b8,snap];cases snaps σ m d a<;>cases snaps σ m d b<;>simp[clr]
theorem aJ5(σ:St)(m d id off len sz:Nat):b8 σ m (d+1) (.ref id off len sz) =
  if id<m then some (.ref id off len sz) else (jJ σ (.ref id off len sz)).bind fun xs=>if (decide (0<sz)&&aI sz xs)=true then (bZ σ m d xs).map fun ys=>.lit ys false none else none:=by
 simp only[b8,snap];split
 ·simp[clr]
 ·cases jJ σ (.ref id off len sz) with
  |none=>simp
  |some xs =>
   simp only[Option.bind_some];split
   ·simp only[bZ];cases snaps σ m d xs<;>simp[clr]
   ·simp
def jB(v:AV):Prop:=okV 0 v/\clr v=v
def lM(vs:List AV):Prop:=okVs 0 vs/\clrs vs=vs
mutual
theorem snap_ok0 (σ:St) (m d:Nat):∀ (v:AV),okV 0 v->snap σ m d v=some v
 |.func f first cap,h=>by simp only[okV] at h;simp only[snap,snaps_ok0 σ m d first h.1,snaps_ok0 σ m d cap h.2]
 |.yield _,h|.ptr _ _,h|.ref _ _ _ _,h|.map _,h=>by simp[okV] at h
 |.lptr xs i o tk,h=>by
  simp only[okV] at h;cases tk with
  |none=>simp[snap,snaps_ok0 σ m d xs h.2]
  |some t=>exact absurd (h.1 t rfl) (by omega)
 |.lit xs f tk,h=>by
  simp only[okV] at h;cases tk with
  |none=>simp[snap,snaps_ok0 σ m d xs h.2]
  |some t=>exact absurd (h.1 t rfl) (by omega)
 |.agg cs,h=>by simp only[okV] at h;simp[snap,snaps_ok0 σ m d cs h]
 |.tuple cs,h=>by simp only[okV] at h;simp[snap,snaps_ok0 σ m d cs h]
 |.undef,_|.int _ _,_|.bool _,_|.str _,_|.nilFunc,_|.nilPtr,_|.nilMap,_=>by simp[snap]
theorem snaps_ok0 (σ:St) (m d:Nat):∀ (vs:List AV),okVs 0 vs->snaps σ m d vs=some vs
 |[],_=>by simp[snaps]
 |v::vs,h=>by simp only[okVs] at h;simp[snaps,snap_ok0 σ m d v h.1,snaps_ok0 σ m d vs h.2]
end
theorem aIS{v:AV}(h:jB v)(σ:St)(m d:Nat):b8 σ m d v=some v:=by simp[b8,snap_ok0 σ m d v h.1,h.2]
theorem i8{vs:List AV}(h:lM vs)(σ:St)(m d:Nat):bZ σ m d vs=some vs:=by simp[bZ,snaps_ok0 σ m d vs h.1,h.2]
theorem cF(k:IntKind)(n:Int):jB (.int k n):=⟨trivial,rfl⟩
theorem P1(b:Bool):jB (.bool b):=⟨trivial,rfl⟩
theorem sS(b:ByteArray):jB (.str b):=⟨trivial,rfl⟩
theorem bA:lM []:=⟨trivial,rfl⟩
theorem aV{v:AV}{vs:List AV}(h:jB v)(hs:lM vs):lM (v::vs):=⟨⟨h.1,hs.1⟩,by simp[clrs,h.2,hs.2]⟩
theorem gL{vs:List AV}(h:lM vs):jB (.agg vs):=⟨h.1,by simp[clr,h.2]⟩
theorem MX{vs:List AV}(h:lM vs):jB (.tuple vs):=⟨h.1,by simp[clr,h.2]⟩
theorem I8{vs:List AV}(h:lM vs):jB (.lit vs false none):=⟨⟨(fun t e=>by cases e),h.1⟩,by simp[clr,h.2]⟩
theorem cL{α:Type}{enc:α->AV}(h:∀ x,jB (enc x))(l:List α):lM (l.map enc):=by
 induction l with
 |nil=>exact bA
 |cons x l ih=>exact aV (h x) ih
theorem dV{α:Type}{enc:α->AV}(h:∀ x,jB (enc x))(l:List α):jB (.lit (l.map enc) false none):=I8 (cL h l)
def MY(o:Option AV)(σ:St)(v:AV):Prop:=∃ v0,o=some v0/\b8 σ 0 20 v0=some v
@[congr] theorem aH2{o o':Option AV}{σ σ':St}{v:AV}(h:o=o')(h2:σ=σ'):MY o σ v=MY o' σ' v:=by rw[h,h2]
theorem aHX(v0:AV)(σ:St)(v:AV):MY (some v0) σ v=(b8 σ 0 20 v0=some v):=by simp[MY]
def NH(rs:List ARes)(v:AV):KJ:=fun j e σ=>(j=none\/j=some .ret)/\MY (gD rs e σ) σ v
theorem aFG(rs:List ARes)(v:AV)(e:Env)(σ:St):NH rs v none e σ=MY (gD rs e σ) σ v:=by simp[NH]
theorem aKS(rs:List ARes)(v:AV)(e:Env)(σ:St):NH rs v (some .ret) e σ=MY (gD rs e σ) σ v:=by simp[NH]
theorem aZ{f:FuncId}{args:List AV}{v:AV}{af:AFunc}(hf:T f=some af)(hn:args.length<=af.ntmps)(hk:lM args)(h:wp T af.body (dW 0 args) [] (NH af.results v)):cE T f args v:=by
 intro σ;refine .frame hk.1 (.inl rfl) (R:=fun o=>o.v=v/\o.σ=[]) (.call hf hn (eP h fun o ho=>ho) fun o ho=>?_) fun o ho=>⟨ho.2,ho.1,rfl⟩
 obtain⟨h1,v0,h2,h3⟩:=ho;refine⟨h1,v0,h2,?_⟩;unfold b8 at h3;cases hs:snap o.σ 0 20 v0 with
 |none=>rw[hs] at h3;cases h3
 |some v1 =>
  rw[hs] at h3;simp at h3;exact .inr ⟨20,v1,v,hs,.inr h3.symm,fun i hi=>absurd hi (by simp),by simp,rfl,by simp⟩
theorem GF{f:FuncId}{args args0:List AV}{v:AV}(h:cE T f args0 v)(ha:clrs args=args0)(hk:okVs 0 args)(σ:St):Run T (.call f args σ) fun o=>o.v=v/\o.σ=σ :=
 .frame hk (.inr ha.symm) (h []) fun o ho=>⟨ho.2,ho.1,rfl⟩
theorem HZ{f:FuncId}{first cap args args0:List AV}{v:AV}{σ:St}{K:AV->St->Prop}(h:cE T f args0 v)(ha:clrs (first++args++cap)=args0)(hk:okVs 0 (first++args++cap))(k:K v σ):cK (K:=⟨K⟩) T (.func f first cap) args σ :=
 .callf (.mono (GF h ha hk σ) fun o ho=>by rw[ho.1,ho.2];exact k)
theorem KQ{f:FuncId}{first cap args args0:List AV}{v:AV}{σ:St}{K:AV->St->Prop}(h:cE T f args0 v)(ha:clrs (first++args++cap)=args0)(hk:okVs 0 (first++args++cap))(k:K v σ):cD (K:=⟨K⟩) T (.func f first cap) args σ :=
 ⟨v,σ,.callf (GF h ha hk σ),k⟩
theorem aE{f:FuncId}{args args0:List AV}{v:AV}{σ:St}{K:AV->St->Prop}(h:cE T f args0 v)(ha:args=args0)(hk:lM args0)(k:K v σ):cK (K:=⟨K⟩) T (.func f [] []) args σ:=by
 subst ha;exact HZ h (by simpa using hk.2) (by simpa using hk.1) k
theorem aN{f:FuncId}{args args0:List AV}{v:AV}{σ:St}{K:AV->St->Prop}(h:cE T f args0 v)(ha:args=args0)(hk:lM args0)(k:K v σ):cD (K:=⟨K⟩) T (.func f [] []) args σ:=by
 subst ha;exact KQ h (by simpa using hk.2) (by simpa using hk.1) k
theorem IT{f:FuncId}{args args0:List AV}{v:AV}{σ:St}(h:cE T f args0 v)(ha:bZ σ 0 20 args=some args0)(hv:Scal v):Run T (.call f args σ) fun o=>o.v=v/\o.σ=σ:=by
 unfold bZ at ha;cases hs:snaps σ 0 20 args with
 |none=>rw[hs] at ha;cases ha
 |some as1 =>
  rw[hs] at ha;simp at ha;exact .frameS hs (.inr ha.symm) (h []) fun o ho=>⟨ho.2,by rw[ho.1];exact hv,ho.1,rfl⟩
theorem PI{f:FuncId}{first cap args args0:List AV}{v:AV}{σ:St}{K:AV->St->Prop}(h:cE T f args0 v)(ha:bZ σ 0 20 (first++args++cap)=some args0)(hv:Scal v)(k:K v σ):cK (K:=⟨K⟩) T (.func f first cap) args σ :=
 .callf (.mono (IT h ha hv) fun o ho=>by rw[ho.1,ho.2];exact k)
theorem OW{f:FuncId}{first cap args args0:List AV}{v:AV}{σ:St}{K:AV->St->Prop}(h:cE T f args0 v)(ha:bZ σ 0 20 (first++args++cap)=some args0)(hv:Scal v)(k:K v σ):cD (K:=⟨K⟩) T (.func f first cap) args σ :=
 ⟨v,σ,.callf (IT h ha hv),k⟩
def InK(rs:List ARes)(K:AV->St->Prop):KJ:=fun j e σ=>(j=none\/j=some .ret)/\∃ v,gD rs e σ=some v/\K v σ
def InR(o:Option AV)(σ:St)(K:AV->St->Prop):Prop:=∃ v,o=some v/\K v σ
@[congr] theorem aIV{o o':Option AV}{σ σ':St}{K:AV->St->Prop}(h:o=o')(h2:σ=σ'):InR o σ K=InR o' σ' K:=by rw[h,h2]
theorem aE9(v:AV)(σ:St)(K:AV->St->Prop):InR (some v) σ K=K v σ:=by simp[InR]
theorem aEL(rs:List ARes)(K:AV->St->Prop)(e:Env)(σ:St):InK rs K none e σ=InR (gD rs e σ) σ K:=by simp[InK,InR]
theorem aLP(rs:List ARes)(K:AV->St->Prop)(e:Env)(σ:St):InK rs K (some .ret) e σ=InR (gD rs e σ) σ K:=by simp[InK,InR]
theorem H4{f:FuncId}{first cap args:List AV}{af:AFunc}{σ:St}{K:AV->St->Prop}(hf:T f=some af)(hn:(first++args++cap).length<=af.ntmps)(h:wp T af.body (dW 0 (first++args++cap)) σ (InK af.results K)):
  cK (K:=⟨K⟩) T (.func f first cap) args σ :=
 .callf (.call hf hn (eP h fun o ho=>ho) fun o ho=>⟨ho.1,ho.2.choose,ho.2.choose_spec.1,.inl ho.2.choose_spec.2⟩)
def EqE(σ:St)(m:Nat)(e:Env):Env->Prop
 |[]=>True
 |(t,v)::e'=>b8 σ m 20 (Env.get e t)=some v/\EqE σ m e e'
theorem aQJ(σ:St)(m:Nat)(e:Env):EqE σ m e []=True:=by simp only[EqE]
theorem aPL(σ:St)(m:Nat)(e:Env)(t:Nat)(v:AV)(e':Env):EqE σ m e ((t,v)::e')=(b8 σ m 20 (Env.get e t)=some v/\EqE σ m e e'):=by simp only[EqE]
theorem IB{σ:St}{m:Nat}{e:Env}:∀ {e':Env},EqE σ m e e'->HX σ m e e'
 |[],_=>trivial
 |(t,v)::e',h=>by
  refine⟨.inr ?_,IB h.2⟩;have h1:=h.1;unfold b8 at h1;cases hs:snap σ m 20 (Env.get e t) with
  |none=>rw[hs] at h1;cases h1
  |some v1=>rw[hs] at h1;simp at h1;exact⟨20,v1,hs,.inr h1.symm⟩
def EqS(m:Nat):St->St->St->Prop
 |_,_,[]=>True
 |s::ss,b::bs,c::cs=>(c=b/\(b=s\/aY m b))/\EqS m ss bs cs
 |[],b::bs,c::cs=>(c=b/\aY m b)/\EqS m [] bs cs
 |_,[],_::_=>False
theorem aPH(m:Nat)(a b:St):EqS m a b []=True:=by cases a<;>cases b<;>simp only[EqS]
theorem aPK(m:Nat)(s b c:ABlk)(ss bs cs:St):EqS m (s::ss) (b::bs) (c::cs)=((c=b/\(b=s\/aY m b))/\EqS m ss bs cs):=by simp only[EqS]
theorem aN8(m:Nat)(b c:ABlk)(bs cs:St):EqS m [] (b::bs) (c::cs)=((c=b/\aY m b)/\EqS m [] bs cs):=by simp only[EqS]
theorem DN{m:Nat}:∀ {σ σ' σ'':St},EqS m σ σ' σ''->∀ i c,σ''[i]? = some c->σ'[i]? = some c/\((i<σ.length/\σ'[i]? = σ[i]?)\/aY m c)
 |_,_,[],_,i,c,h=>by simp at h
 |s::ss,b::bs,x::cs,h,i,c,hc=>by
  obtain⟨⟨h1,h2⟩,h3⟩:=h;cases i with
  |zero =>
   simp at hc;subst hc;subst h1;refine⟨rfl,?_⟩;rcases h2 with h2|h2
   ·left;simp[h2]
   ·right;exact h2
  |succ i =>
   obtain⟨q1,q2⟩:=DN h3 i c (by simpa using hc);refine⟨by simpa using q1,?_⟩;rcases q2 with⟨q2,q3⟩|q2
   ·left;exact⟨by simp;omega,by simpa using q3⟩
   ·right;exact q2
 |[],b::bs,x::cs,h,i,c,hc=>by
  obtain⟨⟨h1,h2⟩,h3⟩:=h;cases i with
  |zero =>
   simp at hc;subst hc;subst h1;exact⟨rfl,.inr h2⟩
  |succ i =>
   obtain⟨q1,q2⟩:=DN h3 i c (by simpa using hc);refine⟨by simpa using q1,?_⟩;rcases q2 with⟨q2,q3⟩|q2
   ·simp at q2
   ·right;exact q2
def aD(σ:St)(e':Env)(σ':St)(e'':Env)(σ'':St):Prop:=σ.length<=σ''.length/\σ''.length<=σ'.length/\EqE σ' σ''.length e' e''/\EqS σ''.length σ σ' σ''
@[congr] theorem aC1{σ σ1:St}{e' e1:Env}{σ' σ1':St}{e'':Env}{σ'':St}(h1:σ=σ1)(h2:e'=e1)(h3:σ'=σ1'):aD σ e' σ' e'' σ''=aD σ1 e1 σ1' e'' σ'':=by rw[h1,h2,h3]
theorem HO{σ:St}{e':Env}{σ':St}{e'':Env}{σ'':St}(h:aD σ e' σ' e'' σ''):vS σ e' σ' e'' σ'':=by
 obtain⟨h1,h2,h3,h4⟩:=h;refine⟨h1,h2,IB h3,fun i hi=>?_⟩;obtain⟨c,hc⟩:∃ c,σ''[i]? = some c:=⟨_,List.getElem?_eq_getElem hi⟩;obtain⟨q1,q2⟩:=DN h4 i c hc;refine⟨c,hc,?_⟩;rcases q2 with⟨q2,q3⟩|q2
 ·left;exact⟨q2,.inl q3,q1⟩
 ·right;left;exact⟨q1,q2⟩
def B9{S:Type}(P:S->Prop)(μ:S->Nat)(IE:S->Env)(IS:S->St)(s:S)(K:KJ):KJ:=fun j e σ =>
 match j with
 |none=>∃ s',P s'/\μ s'<μ s/\aD (IS s) e σ (IE s') (IS s')
 |some j=>K (some j) e σ
theorem LO{S:Type}(P:S->Prop)(μ:S->Nat)(IE:S->Env)(IS:S->St)(s:S)(K:KJ)(e:Env)(σ:St):B9 P μ IE IS s K none e σ = ∃ s',P s'/\μ s'<μ s/\aD (IS s) e σ (IE s') (IS s'):=by simp only[B9]
theorem YF{S:Type}(P:S->Prop)(μ:S->Nat)(IE:S->Env)(IS:S->St)(s:S)(K:KJ)(j:AJump)(e:Env)(σ:St):B9 P μ IE IS s K (some j) e σ=K (some j) e σ:=by simp only[B9]
def EqW(e:Env):Env->Prop
 |[]=>True
 |(t,v)::e'=>(Env.get e t=v\/clr (Env.get e t)=v)/\EqW e e'
theorem aOX(e:Env):EqW e []=True:=by simp only[EqW]
theorem aNE(e:Env)(t:Nat)(v:AV)(e':Env):EqW e ((t,v)::e')=((Env.get e t=v\/clr (Env.get e t)=v)/\EqW e e'):=by simp only[EqW]
theorem BB{e:Env}:∀ {e':Env},EqW e e'->∀ t,Env.get e' t = .undef\/Env.get e' t=Env.get e t\/Env.get e' t=clr (Env.get e t)
 |[],_,t=>.inl rfl
 |(k,v)::e',h,t=>by
  by_cases hk:k=t
  ·subst hk;right;rcases h.1 with h|h
   ·left;simp[Env.get,h]
   ·right;simp[Env.get,h]
  ·simpa[Env.get,hk] using BB h.2 t
theorem aLZ{S:Type}(P:S->Prop)(μ:S->Nat)(IE:S->Env)(IS:S->St){b:ACode}{K:KJ}(step:∀ s,P s->wp T b (IE s) (IS s) (B9 P μ IE IS s K)):∀ n s,μ s=n->P s->LN T (.loop b) (IE s) (IS s) K:=by
 intro n
 induction n using Nat.strongRecOn with
 |_ n ih =>
  intro s hs hp;have h1:Run T (.code b (IE s) (IS s)) fun o=>(o.j=none/\∃ s',P s'/\μ s'<μ s/\o.env=IE s'/\o.σ=IS s')\/(o.j≠none/\K o.j o.env o.σ):=by
   refine .trim2 (eP (step s hp) fun o ho=>ho) fun o ho=>?_
   cases hj:o.j with
   |none =>
    rw[hj,LO] at ho;obtain⟨s',h1,h2,h3⟩:=ho;exact .inr ⟨_,_,HO h3,.inl ⟨rfl,s',h1,h2,rfl,rfl⟩⟩
   |some j =>
    rw[hj,YF] at ho;exact .inl (.inr ⟨by simp,ho⟩)
  refine .loop h1 (fun o ho hj=>?_) fun o ho hj=>?_
  ·rcases ho with⟨_,s',q1,q2,q3,q4⟩|⟨q1,_⟩
   ·rw[q3,q4];exact ih _ (by omega) s' rfl q1
   ·exact absurd hj q1
  ·rcases ho with⟨q,_⟩|⟨_,q⟩
   ·exact absurd q hj
   ·exact q
theorem b9{S:Type}(s0:S)(P:S->Prop)(μ:S->Nat)(IE:S->Env)(IS:S->St){b:ACode}{e:Env}{σ:St}{K:KJ}(hP:P s0)(hσ:σ=IS s0)(hE:EqW e (IE s0))(step:∀ s,P s->wp T b (IE s) (IS s) (B9 P μ IE IS s K)):rK (K:=⟨K⟩) T (.loop b) e σ:=by
 subst hσ;exact .weak (BB hE) (aLZ P μ IE IS step _ s0 rfl hP)
theorem oJ{c:ACode}{e:Env}{σ:St}{K:KJ}(t sz:Nat)(xs:List AV)(ht:Env.get e t = .lit xs true none)(h:rK (K:=⟨K⟩) T c ((t,.lit xs false (some σ.length))::e) (σ++[.tok sz xs.length false])):rK (K:=⟨K⟩) T c e σ :=
 .ghost t sz xs ht h
end Go.Am
namespace Go.Am
variable {T:FuncId->Option AFunc}
def zZ(e:Env)(σ:St):ARes->Option AV
 |.tmp t=>some (Env.get e t)
 |.cell t sh=>jC sh σ (Env.get e t)
def nW(e:Env)(σ:St):List ARes->Option (List AV)
 |[]=>some []
 |r::rs=>(zZ e σ r).bind fun v=>(nW e σ rs).map (v::·)
theorem wX(e:Env)(σ:St):∀ rs,kJ e σ rs=nW e σ rs
 |[]=>rfl
 |.tmp t::rs=>by simp[kJ,nW,zZ,wX e σ rs]
 |.cell t sh::rs=>by
  simp only[kJ,nW,zZ,wX e σ rs];cases jC sh σ (Env.get e t)<;>cases nW e σ rs<;>simp
theorem aGO(e:Env)(σ:St):gD [] e σ=some (.tuple []):=by simp[gD,kJ]
theorem aHW(r:ARes)(e:Env)(σ:St):gD [r] e σ=zZ e σ r:=by
 simp only[gD,wX,nW];cases zZ e σ r<;>simp
theorem aGZ(r s:ARes)(rs:List ARes)(e:Env)(σ:St):gD (r::s::rs) e σ=(nW e σ (r::s::rs)).map .tuple:=by
 simp only[gD,wX,nW];cases zZ e σ r<;>cases zZ e σ s<;>cases nW e σ rs<;>simp
theorem aLI(e:Env)(σ:St):nW e σ []=some []:=by simp only[nW]
theorem aLU(r:ARes)(rs:List ARes)(e:Env)(σ:St):nW e σ (r::rs)=(zZ e σ r).bind fun v=>(nW e σ rs).map (v::·):=by simp only[nW]
theorem aN7(t:Nat)(e:Env)(σ:St):zZ e σ (.tmp t)=some (Env.get e t):=by simp only[zZ]
theorem aQF(t:Nat)(sh:Option Nat)(e:Env)(σ:St):zZ e σ (.cell t sh)=jC sh σ (Env.get e t):=by simp only[zZ]
theorem aQS(id:Nat)(K:KJ)(e:Env)(σ:St):kB id K none e σ=K none e σ:=by simp only[kB]
theorem aOB(id:Nat)(K:KJ)(e:Env)(σ:St):kB id K (some .ret) e σ=K (some .ret) e σ:=by simp only[kB]
theorem aJN(id:Nat)(K:KJ)(e:Env)(σ:St):kB id K (some (.exit id)) e σ=K none e σ:=by simp[kB]
theorem aL8(id i:Nat)(K:KJ)(e:Env)(σ:St)(h:i≠id):kB id K (some (.exit i)) e σ=K (some (.exit i)) e σ:=by simp[kB,h]
theorem aG7{α:Type}{sz:Nat}{enc:α->AV}{l:List α}{k:Nat}{t:Option Nat}(h:k<l.length)(hs:∀ x,(enc x).cells.length=sz):aBV sz (l.map enc) (k:Int) t=some (.lptr (l.map enc) k 0 t):=by
 simp[aBV,List.getElem?_map,h,hs]
theorem aIO{α:Type}{enc:α->AV}{l:List α}{k:Nat}(h:k<l.length):(l.map enc)[k]? = some (enc l[k]):=by simp[List.getElem?_map,h]
theorem rd0{ds:List ADOper}{e:Env}{σ:St}{K:KJ}(hz:dB ds=[])(h:wpD T ds e σ σ.length [σ] [] fun e σ=>K none e σ):rK (K:=⟨K⟩) T (.dreg ds) e σ:=by
 refine OV ?_;rw[hz,List.append_nil];exact h
theorem IR{ds:List ADOper}{e:Env}{σ:St}{K:KJ}(zs:St)(hz:dB ds=zs)(h:wpD T ds e (σ++zs) σ.length [σ++zs] [] fun e σ=>K none e σ):rK (K:=⟨K⟩) T (.dreg ds) e σ:=by
 subst hz;exact OV h
theorem bJ{k n:Nat}(h:k<n)(hn:n<9223372036854775808):IntKind.i64.wrap ((k:Int)+1)=((k+1:Nat):Int):=by rw[bL ⟨by omega,by omega⟩];omega
def aG(l:List Int):AV:=.lit (l.map (.int .i64)) false none
theorem iY(l:List Int):jB (aG l):=dV (cF .i64) l
theorem tF(σ:St)(m d:Nat)(k:IntKind)(l:List Int):bZ σ m d (l.map (.int k))=some (l.map (.int k)):=i8 (cL (cF k) l) σ m d
theorem aHE(σ:St)(m d:Nat)(l:List ByteArray):bZ σ m d (l.map .str)=some (l.map .str):=i8 (cL sS l) σ m d
theorem aEA(σ:St)(m d:Nat):∀ xs ys:List AV,bZ σ m d (xs++ys)=(bZ σ m d xs).bind fun a=>(bZ σ m d ys).map (a++·)
 |[],ys=>by rw[OC];simp
 |x::xs,ys=>by
  rw[List.cons_append,HE,HE,aEA σ m d xs ys];cases b8 σ m d x<;>simp;cases bZ σ m d xs<;>simp;cases bZ σ m d ys<;>simp
def bD(l:List (List Int)):AV:=.lit (l.map aG) false none
theorem MF(l:List (List Int)):jB (bD l):=dV iY l
theorem aIM(σ:St)(m d:Nat)(l:List Int):b8 σ m d (aG l)=some (aG l):=aIS (iY l) σ m d
theorem aFA(σ:St)(m d:Nat)(l:List (List Int)):bZ σ m d (l.map aG)=some (l.map aG):=i8 (cL iY l) σ m d
theorem qU(k:IntKind)(a b:Int):zH [.int k a,.int k b]=some (.int k (min a b)):=by
 simp only[zH,tO,if_true,Option.some.injEq,AV.int.injEq,true_and];split<;>omega
theorem uZ(k:IntKind)(a b:Int):zE [.int k a,.int k b]=some (.int k (max a b)):=by
 simp only[zE,uA,if_true,Option.some.injEq,AV.int.injEq,true_and];split<;>omega
def eE(s:ByteArray)(k:Nat):Int:=(((s[k]?).getD 0).toNat:Int)
theorem E1(s:ByteArray)(k:Nat):0<=eE s k/\eE s k<256:=by
 have:=((s[k]?).getD 0).toNat_lt;unfold eE;omega
theorem aEN{s:ByteArray}{k:Nat}(h:k<s.size):A5 (.str s) (.int .i64 (k:Int))=some (.int .u8 (eE s k)):=by
 simp[A5,eQ,eE,h]
structure Span where
 lo:Int
 hi:Int
 deriving DecidableEq
def cT(s:Span):AV:=.agg [.int .i64 s.lo,.int .i64 s.hi]
theorem aR(s:Span):cT s = .agg [.int .i64 s.lo,.int .i64 s.hi]:=by simp only[cT]
theorem pT(s:Span):jB (cT s):=gL (aV (cF _ _) (aV (cF _ _) bA))
def NR(l:List ByteArray):AV:=.lit (l.map .str) false none
theorem RX(l:List ByteArray):jB (NR l):=dV sS l
end Go.Am
namespace Go.Am
variable {T:FuncId->Option AFunc}
def eK(T:FuncId->Option AFunc)(f:AV)(args:List AV)(σ:St)(v:AV):Prop:=Run T (.callv f args σ) fun o=>o.v=v/\o.σ=σ
def DK(o:Option AV)(σ0 σ:St)(v:AV):Prop:=∃ v0 τ,o=some v0/\σ=σ0++τ/\b8 σ σ0.length 20 v0=some v
@[congr] theorem aCS{o o':Option AV}{σ0 σ σ':St}{v:AV}(h:o=o')(h2:σ=σ'):DK o σ0 σ v=DK o' σ0 σ' v:=by rw[h,h2]
def D5(rs:List ARes)(σ0:St)(v:AV):KJ:=fun j e σ=>(j=none\/j=some .ret)/\DK (gD rs e σ) σ0 σ v
theorem aEP(rs:List ARes)(σ0:St)(v:AV)(e:Env)(σ:St):D5 rs σ0 v none e σ=DK (gD rs e σ) σ0 σ v:=by simp[D5]
theorem aMG(rs:List ARes)(σ0:St)(v:AV)(e:Env)(σ:St):D5 rs σ0 v (some .ret) e σ=DK (gD rs e σ) σ0 σ v:=by simp[D5]
theorem cZ{v0:AV}{σ0 σ:St}{v:AV}(τ:St)(h1:σ=σ0++τ)(h2:b8 σ σ0.length 20 v0=some v):DK (some v0) σ0 σ v:=⟨v0,τ,rfl,h1,h2⟩
theorem cM{f:FuncId}{first cap args:List AV}{σ:St}{af:AFunc}{v:AV}(hf:T f=some af)(hn:(first++args++cap).length<=af.ntmps)(h:wp T af.body (dW 0 (first++args++cap)) σ (D5 af.results σ v)):eK T (.func f first cap) args σ v:=by
 refine .callf (.call hf hn (eP h fun o ho=>ho) fun o ho=>?_);obtain⟨h1,v0,τ,h2,h3,h4⟩:=ho;refine⟨h1,v0,h2,?_⟩;unfold b8 at h4;cases hs:snap o.σ σ.length 20 v0 with
 |none=>rw[hs] at h4;cases h4
 |some v1 =>
  rw[hs] at h4;simp at h4;exact .inr ⟨20,v1,v,hs,.inr h4.symm,fun i hi=>.inl (by rw[h3];exact List.getElem?_append_left hi),by rw[h3];simp,rfl,by rw[h3];simp⟩
theorem aT{f:AV}{args:List AV}{v:AV}{σ:St}{K:AV->St->Prop}(h:eK T f args σ v)(k:K v σ):cK (K:=⟨K⟩) T f args σ:=.mono h fun o ho=>by rw[ho.1,ho.2];exact k
theorem iU{f:AV}{args:List AV}{v:AV}{σ:St}{K:AV->St->Prop}(h:eK T f args σ v)(k:K v σ):cD (K:=⟨K⟩) T f args σ:=⟨v,σ,h,k⟩
theorem Q8{f:FuncId}{args args0:List AV}{v:AV}{σ:St}(h:cE T f args0 v)(ha:clrs args=args0)(hk:okVs 0 args):eK T (.func f [] []) args σ v:=.callf (by simpa using GF h ha hk σ)
def n7(σ:St)(v:AV):Prop:=∀ τ,b8 (σ++τ) σ.length 20 v=some v
theorem n7.nil{σ:St}{v:AV}(h:n7 σ v):b8 σ σ.length 20 v=some v:=by simpa using h []
theorem aG1(m:Nat):∀ (σ τ:St),EqS m σ (σ++τ) σ=True
 |[],τ=>by cases τ<;>simp[EqS]
 |b::σ,τ=>by simp[EqS,aG1 m σ τ]
theorem aK3(m:Nat)(σ:St):EqS m σ σ σ=True:=by simpa using aG1 m σ []
theorem aF1(σ τ υ:St):σ++τ++υ=σ++(τ++υ):=List.append_assoc _ _ _
theorem UG{s:ByteArray}{k:Nat}(h:k<s.size):y7 [.siter s k] (.ptr 0 0)=some (.tuple [.bool true,.int .i64 k,.int .i32 (Utf8.decode s k).1],[.siter s (k+(Utf8.decode s k).2)]):=by
 simp[y7,h]
theorem VU{s:ByteArray}{k:Nat}(h:¬k<s.size):y7 [.siter s k] (.ptr 0 0)=some (.tuple [.bool false],[.siter s k]):=by
 simp[y7,h]
theorem wK{s:ByteArray}{k:Nat}(h:k<s.size)(hb:eE s k<128):Utf8.decode s k=((eE s k).toNat,1):=by
 have e:eE s k=((s[k]'h).toNat:Int):=by simp[eE,h]
 rw[decode_ascii s k h (by omega),e];simp
theorem JU{s:ByteArray}{k:Nat}(h:k<s.size)(hb:128<=eE s k):128<=(Utf8.decode s k).1:=by
 have e:eE s k=((s[k]'h).toNat:Int):=by simp[eE,h]
 exact (decode_high s k h (by omega)).1
theorem VZ{α:Type}{sz:Nat}{enc:α->AV}{l:List α}{i:Nat}{σ:St}{t:Option Nat}(hi:i<=l.length)(hs:∀ x,(enc x).cells.length=sz):AM sz σ (.lit (l.map enc) false t) none (some (.int .i64 (i:Int))) none=some (.lit ((l.take i).map enc) false t):=by
 have hc:AS sz (l.map enc) 0 (i:Int)=true:=by
  unfold AS;by_cases h0:i=0
  ·subst h0;simp
  ·cases l with
   |nil=>simp at hi;omega
   |cons x l=>simp[hs]
 simp only[AM,gO,m4,Option.map_none,eQ,mH];rw[if_pos ⟨by omega,by omega,by simp;omega,hc⟩];simp[List.map_take]
theorem bE{f:FuncId}{args args0:List AV}{v:AV}{σ:St}{K:AV->St->Prop}(h:cE T f args0 v)(ha:clrs args=args0)(hk:okVs 0 args)(k:K v σ):cK (K:=⟨K⟩) T (.func f [] []) args σ :=
 HZ h (by simpa using ha) (by simpa using hk) k
theorem fZ{f:FuncId}{args args0:List AV}{v:AV}{σ:St}{K:AV->St->Prop}(h:cE T f args0 v)(ha:clrs args=args0)(hk:okVs 0 args)(k:K v σ):cD (K:=⟨K⟩) T (.func f [] []) args σ :=
 KQ h (by simpa using ha) (by simpa using hk) k
end Go.Am
namespace Go.Am
def QV:=zz @aMU (zz @pA (zz @aBT (zz @aF1 (zz @aEN (zz @qU (zz @uZ (zz @aKR (zz @aEG (zz @S5 (zz @O7 (zz @aJJ (zz @aKX (zz @aG3 (zz @ZJ (zz @SQ (zz @UW (zz @W9 (zz @EZ (zz @MC (zz @aEM (zz @aFB (zz @aE5 (zz @aGU (zz @aFT (zz @aCZ (zz @TX (zz @aHM (zz @aEX (zz @aE8 (zz @aBQ (zz @aFF (zz @aJY (zz @aAI (zz @YQ (zz @U6 (zz @aLT (zz @aJG (zz @MO (zz @US (zz @MN (zz @aMK (zz @aLL (zz @aJ6 (zz @aMX (zz @aLV (zz @aKT (zz @aIW (zz @aKP (zz @aMS (zz @aJQ (zz @aLJ (zz @aK0 (zz @aGY (zz @aGC (zz @X9 (zz @ST (zz @aFO (zz @aF9 (zz @aMW (zz @aIG (zz @aCK (zz @aDX (zz @lW (zz @HD (zz @aJ4 (zz @aI8 (zz @aAU (zz @aJU (zz @aCI (zz @UY (zz @aIE (zz @XY (zz @aC8 (zz @aIX (zz @aMY (zz @aGK (zz @aJZ (zz @U5 (zz @QQ (zz @aMD (zz @C_0 (zz @aFW (zz @aA8 (zz @aH8 (zz @aIC (zz @aET (zz @aEI (zz @YW (zz @aG5 (zz @SD (zz @MK (zz @aLY (zz @aE4 (zz @aM6 (zz @aM1 (zz @aL7 (zz @aK8 (zz @aE1 (zz @aIZ (zz @aL3 (zz @VI (zz @R4 (zz @aIY (zz @aI5 (zz @TA (zz @YL (zz @aJK (zz @aMV (zz @aKH (zz @aFU (zz @aJ8 (zz @aGO (zz @aHW (zz @aGZ (zz @aLI (zz @aLU (zz @aN7 (zz @aQF (zz @aHX (zz @aE9 (zz @aMM (zz @aEZ (zz @aA3 (zz @aJ1 (zz @Y2 (zz @aAM (zz @aAD (zz @aEO (zz @aA5 (zz @NQ (zz @aKV (zz @aK9 (zz @aJ3 (zz @aLC (zz @aGR (zz @aBM (zz @aBY (zz @QU (zz @TG (zz @XL (zz @aCB (zz @ZT (zz @YV (zz @ZM (zz @S1 (zz @SY (zz @V2 (zz @aLG (zz @aK7 (zz @V1 (zz @aA1 (zz @aHF (zz @aJC (zz @aLM (zz @WR (@ZS))))))))))))))))))))))))))))))))))))))))))))))))))))))))))))))))))))))))))))))))))))))))))))))))))))))))))))))))))))))))))))))))))))))))))))))))))))))))))))
def QP:=zz @aEP (zz @aMG (zz @aK6 (zz @aLO (zz @aF7 (zz @aH3 (zz @ZC (zz @aH0 (zz @YS (zz @Y1 (zz @aLW (zz @aQS (zz @aOB (zz @aJN (zz @aL8 (zz @aG7 (zz @aIO (zz @aH1 (zz @ZY (zz @aEU (zz @aHO (zz @aAR (zz @aLB (zz @aFG (zz @aKS (zz @aEL (zz @aLP (zz @LO (zz @YF (zz @aKK (zz @aHH (zz @aAA (zz @aMR (zz @aB1 (zz @ZQ (zz @YZ (zz @aHP (zz @aAP (zz @M9 (zz @aLA (zz @aMN (zz @aKG (zz @aM3 (zz @aGX (zz @aAT (zz @aB4 (zz @SJ (zz @T6 (zz @UR (zz @Z2 (zz @ZN (zz @aBJ (zz @ZV (zz @V4 (zz @U1 (zz @XQ (zz @aJD (zz @aJB (zz @UL (zz @ZB (zz @aHJ (zz @aKF (zz @aJF (zz @UE (@ZR))))))))))))))))))))))))))))))))))))))))))))))))))))))))))))))))
def QD:=zz @aL4 (zz @aFL (zz @ZA (zz @W8 (zz @aJH (zz @aGE (zz @aL1 (zz @ZH (zz @Z1 (zz @aB0 (zz @aE0 (zz @YT (zz @L7 (zz @aLF (zz @aJM (zz @aI2 (zz @aLS (zz @aG8 (zz @ZZ (zz @ZX (zz @SB (zz @XU (zz @U4 (zz @aBK (zz @YU (zz @aA4 (zz @aBS (zz @TM (zz @VO (zz @S8 (zz @aMA (zz @aL0 (zz @VK (zz @Y9 (zz @aH9 (zz @aMZ (zz @aJP (zz @VP (zz @aAL (zz @aI9 (zz @aFM (zz @aKZ (zz @aBI (zz @ZI (zz @Z5 (zz @aGL (zz @ZW (zz @ME (zz @aKI (zz @aMC (zz @aMI (zz @aI4 (zz @aIJ (zz @aA6 (zz @aBH (zz @RO (zz @TE (zz @UK (zz @ZE (zz @aBO (zz @YO (zz @Z6 (zz @YH (zz @TC (zz @TK (zz @aJV (zz @aKW (zz @TH (zz @aAK (zz @aEY (zz @aKL (zz @aLX (zz @TB (@ZP)))))))))))))))))))))))))))))))))))))))))))))))))))))))))))))))))))))))))
def QS:=zz @aFA (zz @aIM (zz @aEA (zz @tF (zz @aHE (zz @aDD (zz @aGN (zz @aCO (zz @WB (zz @RI (zz @aL2 (zz @aLE (zz @OC (zz @HE (zz @aAW (zz @aDN (zz @LZ (zz @aER (zz @aHA (zz @aCZ (@TX))))))))))))))))))))
def QR:=zz @S7 (zz @UU (zz @Y4 (@aA0)))
def QT:=zz @aG1 (zz @aK3 (zz @aQJ (zz @aPL (zz @aPH (zz @aPK (zz @aN8 (zz @aOX (zz @aNE (@S5)))))))))
variable {T:FuncId->Option AFunc}
mutual
theorem okV_up {m:Nat}:∀ v,okV 0 v->okV m v
 |.func _ first cap,h=>⟨okVs_up first h.1,okVs_up cap h.2⟩
 |.lptr xs _ _ tk,h=>⟨fun t e=>absurd (h.1 t e) (by omega),okVs_up xs h.2⟩
 |.lit xs _ tk,h=>⟨fun t e=>absurd (h.1 t e) (by omega),okVs_up xs h.2⟩
 |.agg cs,h=>okVs_up cs h
 |.tuple vs,h=>okVs_up vs h
 |.yield _,h|.ptr _ _,h|.ref _ _ _ _,h|.map _,h=>absurd h (by simp[okV])
 |.undef,_|.int _ _,_|.bool _,_|.str _,_|.nilFunc,_|.nilPtr,_|.nilMap,_=>trivial
theorem okVs_up {m:Nat}:∀ vs,okVs 0 vs->okVs m vs
 |[],_=>trivial
 |v::vs,h=>⟨okV_up v h.1,okVs_up vs h.2⟩
end
theorem fO{σ:St}{m d id off len sz:Nat}(h:id<m):b8 σ m d (.ref id off len sz)=some (.ref id off len sz):=by
 cases d<;>simp[b8,snap,h,clr]
theorem wS{m:Nat}:∀ {xs ys:List AV},okVs m xs->okVs m ys->okVs m (xs++ys)
 |[],_,_,h=>h
 |x::xs,ys,h,h2=>⟨h.1,wS h.2 h2⟩
theorem T8{f:FuncId}{args:List AV}{v:AV}{af:AFunc}(hf:T f=some af)(hn:args.length<=af.ntmps)(hk:lM args)(h:Run T (.code af.body (dW 0 args) []) fun o=>NH af.results v o.j o.env o.σ):cE T f args v:=by
 intro σ;refine .frame hk.1 (.inl rfl) (R:=fun o=>o.v=v/\o.σ=[]) (.call hf hn h fun o ho=>?_) fun o ho=>⟨ho.2,ho.1,rfl⟩
 obtain⟨h1,v0,h2,h3⟩:=ho;refine⟨h1,v0,h2,?_⟩;unfold b8 at h3;cases hs:snap o.σ 0 20 v0 with
 |none=>rw[hs] at h3;cases h3
 |some v1 =>
  rw[hs] at h3;simp at h3;exact .inr ⟨20,v1,v,hs,.inr h3.symm,fun i hi=>absurd hi (by simp),by simp,rfl,by simp⟩
theorem TF{a:ACode}{e:Env}{σ:St}{K:KJ}(h:wp T a e σ K):Run T (.code a e σ) fun o=>K o.j o.env o.σ:=eP h fun o ho=>ho
end Go.Am
namespace Go.Am
theorem WP(l:List Int):aG l = .lit (l.map (.int .i64)) false none:=by simp only[aG]
theorem SW(l:List ByteArray):NR l = .lit (l.map .str) false none:=by simp only[NR]
def QC:=zz @and_self (zz @and_true (zz @true_and (zz @true_or (zz @or_true (zz @WP (zz @SW (zz @decide_true (zz @decide_false (zz @Nat.lt_irrefl (zz @Nat.le_refl (zz @List.length_cons.{0} (zz @List.length_nil.{0} (zz @List.cons_append.{0} (zz @List.nil_append.{0} (zz @List.append_nil.{0} (zz @List.getElem?_cons_zero.{0} (zz @List.getElem?_cons_succ.{0} (zz @List.take_zero.{0} (zz @List.drop_zero.{0} (zz @List.take_succ_cons.{0} (zz @List.drop_succ_cons.{0} (zz @List.take_nil.{0} (zz @List.drop_nil.{0} (zz @List.set_cons_zero.{0} (zz @List.set_cons_succ.{0} (zz @List.length_map.{0,0} (zz @Bool.and_true (zz @Bool.true_and (zz @Bool.and_self (zz @Bool.not_true (zz @Bool.not_false (zz @beq_self_eq_true.{0} (zz @Nat.zero_add (zz @implies_true.{0} (zz @implies_true.{1} (zz @forall_const.{0} (zz @forall_const.{1} (zz @ne_eq.{1} (zz @not_false_eq_true (@not_true_eq_false))))))))))))))))))))))))))))))))))))))))
def QA:=zz QP QD
def QB:=zz QR (zz QV (zz QS QC))
def QE:=zz QT (zz QS (zz @S5 (zz @List.length_append.{0} (zz @Nat.le_add_right QC))))
class Dat (v:AV):Prop where
 h:jB v
class Dats (vs:List AV):Prop where
 h:lM vs
theorem dd{vs:List AV}[k:Dats vs]:lM vs:=k.h
instance:Dats []:=⟨bA⟩
instance {v:AV} {vs:List AV} [a:Dat v] [b:Dats vs]:Dats (v::vs):=⟨aV a.h b.h⟩
instance (k:IntKind) (n:Int):Dat (.int k n):=⟨cF k n⟩
instance (b:Bool):Dat (.bool b):=⟨P1 b⟩
instance (s:ByteArray):Dat (.str s):=⟨sS s⟩
instance (l:List Int):Dat (aG l):=⟨iY l⟩
instance (l:List (List Int)):Dat (bD l):=⟨MF l⟩
instance (l:List ByteArray):Dat (NR l):=⟨RX l⟩
instance (s:Span):Dat (cT s):=⟨pT s⟩
instance {cs:List AV} [a:Dats cs]:Dat (.agg cs):=⟨gL a.h⟩
instance {cs:List AV} [a:Dats cs]:Dat (.tuple cs):=⟨MX a.h⟩
instance {cs:List AV} [a:Dats cs]:Dat (.lit cs false none):=⟨I8 a.h⟩
instance (k:IntKind) (l:List Int):Dats (l.map (.int k)):=⟨cL (cF k) l⟩
end Go.Am
namespace Go.Am.Room
def inR(n lo hi:Int):Bool:=decide (lo<=n)&&decide (n<=hi)
theorem fK(n lo hi:Int):cE T 20 [.int .i64 n,.int .i64 lo,.int .i64 hi] (.bool (inR n lo hi)):=by
 refine aZ (af:=a20) rfl (by simp[a20]) dd ?_;try simp only[↓QA,QB,seval,a20]
 refine aF (fun h=>?_) fun h=>?_
 all_goals
  try simp only[↓QA,QB,seval,h]
  simp[inR,h]
def eH(s:Span)(lo hi:Int):Int:=if !inR s.lo lo hi||!inR s.hi lo hi then 7 else if s.hi<s.lo then 2 else 0
theorem qX(s:Span)(lo hi:Int):cE T 29 [cT s,.int .i64 lo,.int .i64 hi] (.int .i64 (eH s lo hi)):=by
 refine aZ (af:=a29) rfl (by simp[a29]) dd ?_;try simp only[↓QA,QB,seval,a29,aR]
 refine aE (fK _ _ _) rfl dd ?_;try simp only[↓QA,QB,seval]
 cases h1:inR s.lo lo hi
 ·try simp only[↓QA,QB,seval]
  simp[eH,h1]
 ·try simp only[↓QA,QB,seval]
  refine aE (fK _ _ _) rfl dd ?_;try simp only[↓QA,QB,seval]
  cases h2:inR s.hi lo hi
  ·try simp only[↓QA,QB,seval]
   simp[eH,h1,h2]
  ·try simp only[↓QA,QB,seval]
   refine aF (fun h=>?_) fun h=>?_
   all_goals
    try simp only[↓QA,QB,seval,h]
    simp[eH,h1,h2];simpa using h
def m8(s:Span)(n:Int):Span:=⟨min s.lo n,max s.hi n⟩
theorem NM(l:List Int)(n:Int)(hl:l.length<9223372036854775808):cE T 64 [aG l,.int .i64 n] (.bool (l.contains n)):=by
 refine aZ (af:=a64) rfl (by simp[a64]) dd ?_;try simp only[↓QA,QB,seval,a64]
 refine b9 (S:=Nat) 0 (·<=l.length) (fun k=>l.length-k) (fun k=>[(0,aG l),(1,.int .i64 n),(5,.bool ((l.take k).contains n)),(6,.int .i64 k)]) (fun _=>[]) (Nat.zero_le _) rfl ?_ fun k hk=>?_
 ·try simp only[aD,QE,seval]
  try simp
 ·try simp only[↓QA,QB,seval,aD0]
  refine aF (fun h=>?_) fun h=>?_
  ·have hk1:k<l.length:=by simpa using h
   try simp only[↓QA,QB,seval]
   refine aF (fun h2=>?_) fun h2=>?_
   all_goals
    try simp only[↓QA,QB,seval,h2,hk1]
    refine⟨k+1,by omega,by omega,?_⟩;try simp only[aD,QE,seval,bJ hk1 hl]
    simp only[List.take_succ_eq_append_getElem hk1,List.contains_append,h2];simp;try (rw[Bool.eq_iff_iff];simp;exact eq_comm)
  ·have:k=l.length:=by simp at h;omega
   try simp only[↓QA,QB,seval]
   simp[this]
def less:List Int->List Int->Bool
 |_,[]=>false
 |[],_::_=>true
 |a::az,b::bs=>if a=b then less az bs else decide (a<b)
theorem Q2{a b:List Int}{k:Nat}(ha:k<a.length)(hb:k<b.length)(h:a[k]=b[k]):less (a.drop (k+1)) (b.drop (k+1))=less (a.drop k) (b.drop k):=by
 rw[List.drop_eq_getElem_cons ha,List.drop_eq_getElem_cons hb];simp[less,h]
theorem O8(a b:List Int)(ha:a.length<9223372036854775808)(hb:b.length<9223372036854775808):cE T 170 [aG a,aG b] (.bool (less a b)):=by
 refine aZ (af:=a170) rfl (by simp[a170]) dd ?_
 (repeat (first|simp only[↓QA,QB,seval,a170]|refine rd0 rfl ?_))
 refine b9 (S:=Nat) 0 (fun k=>k<=a.length/\k<=b.length/\less (a.drop k) (b.drop k)=less a b) (fun k=>a.length-k) (fun k=>[(0,aG a),(1,aG b),(5,.int .i64 k)]) (fun _=>[]) ⟨Nat.zero_le _,Nat.zero_le _,rfl⟩ rfl ?_ fun k hk=>?_
 ·try simp only[aD,QE,seval]
  try simp
 ·obtain⟨hka,hkb,hl⟩:=hk
  (repeat (first|simp only[↓QA,QB,seval,TQ]|refine rd0 rfl ?_))
  by_cases h1:k<a.length
  ·have g1:decide ((k:Int)<a.length)=true:=by simpa using h1
   by_cases h2:k<b.length
   ·have g2:decide ((k:Int)<b.length)=true:=by simpa using h2
    (repeat (first|simp only[↓QA,QB,seval,g1,g2,h1,h2]|refine rd0 rfl ?_))
    refine aF (fun h3=>?_) fun h3=>?_
    ·have h3':a[k]=b[k]:=by simpa using h3
     (repeat (first|simp only[↓QA,QB,seval,h3]|refine rd0 rfl ?_))
     refine⟨k+1,⟨by omega,by omega,(Q2 h1 h2 h3').trans hl⟩,by omega,?_⟩;try simp only[aD,QE,seval,bJ h1 ha]
    ·have h3':a[k]≠b[k]:=by simpa using h3
     have e1:((k:Int)==b.length)=false:=by simp;omega
     have e2:((k:Int)==a.length)=false:=by simp;omega
     (repeat (first|simp only[↓QA,QB,seval,h3,e1,e2,h1,h2]|refine rd0 rfl ?_))
     rw[<-hl,List.drop_eq_getElem_cons h1,List.drop_eq_getElem_cons h2];simp[less,h3']
   ·have hkb':k=b.length:=by omega
    have g2:decide ((k:Int)<b.length)=false:=by simp;omega
    have e1:((k:Int)==b.length)=true:=by simp;omega
    (repeat (first|simp only[↓QA,QB,seval,g1,g2,e1]|refine rd0 rfl ?_))
    rw[<-hl,hkb',List.drop_length];cases List.drop b.length a<;>simp[less]
  ·have g1:decide ((k:Int)<a.length)=false:=by simp;omega
   have e2:((k:Int)==a.length)=true:=by simp;omega
   have hka':k=a.length:=by omega
   (repeat (first|simp only[↓QA,QB,seval,g1]|refine rd0 rfl ?_))
   refine aF (fun h3=>?_) fun h3=>?_
   ·have h3':k=b.length:=by simp at h3;omega
    (repeat (first|simp only[↓QA,QB,seval]|refine rd0 rfl ?_))
    rw[<-hl,h3',List.drop_length];cases List.drop b.length a<;>simp[less]
   ·have h3':k<b.length:=by simp at h3;omega
    (repeat (first|simp only[↓QA,QB,seval,h3,e2]|refine rd0 rfl ?_))
    rw[<-hl,hka',List.drop_length,List.drop_eq_getElem_cons (by omega)];simp[less]
theorem pU:∀ a,less a a=false
 |[]=>rfl
 |a::az=>by simp[less,pU az]
theorem C3:∀ a b,less a b=false->less b a=false->a=b
 |[],[],_,_=>rfl
 |[],b::bs,h,_=>by simp[less] at h
 |a::az,[],_,h=>by simp[less] at h
 |a::az,b::bs,h1,h2=>by
  by_cases hab:a=b
  ·subst hab;simp[less] at h1 h2;rw[C3 az bs h1 h2]
  ·simp[less,hab,Ne.symm hab] at h1 h2;omega
theorem eL(a b:List Int)(ha:a.length<9223372036854775808)(hb:b.length<9223372036854775808):cE T 44 [aG a,aG b] (.bool (decide (a=b))):=by
 refine aZ (af:=a44) rfl (by simp[a44]) dd ?_;try simp only[↓QA,QB,seval,a44]
 refine aF (fun h=>?_) fun h=>?_
 ·try simp only[↓QA,QB,seval,h]
  refine aE (O8 a b ha hb) rfl dd ?_;try simp only[↓QA,QB,seval,h]
  cases h1:less a b
  ·try simp only[↓QA,QB,seval,h]
   refine aE (O8 b a hb ha) rfl dd ?_;try simp only[↓QA,QB,seval,h]
   cases h2:less b a
   ·rw[C3 a b h1 h2];simp
   ·have:a≠b:=by rintro rfl;rw[pU] at h2;cases h2
    simp[this]
  ·have:a≠b:=by rintro rfl;rw[pU] at h1;cases h1
   try simp only[↓QA,QB,seval,h]
   simp[this]
 ·have:a≠b:=by rintro rfl;simp at h
  try simp only[↓QA,QB,seval,h]
  simp[this]
def cU(a b:List Int):Bool:=if a.length=b.length then less a b else decide (a.length<b.length)
def qF(below:Int):Int->List Int->Bool
 |_,[]=>true
 |last,x::xs=>decide (last<x)&&decide (x<below)&&qF below x xs
theorem D4(l:List Int)(below:Int)(hl:l.length<9223372036854775808):cE T 27 [aG l,.int .i64 below] (.bool (qF below (-1) l)):=by
 refine aZ (af:=a27) rfl (by simp[a27]) dd ?_;try simp only[↓QA,QB,seval,a27]
 refine b9 (S:=Nat×Int) (0,-1) (fun s=>s.1<=l.length/\qF below s.2 (l.drop s.1)=qF below (-1) l) (fun s=>l.length-s.1) (fun s=>[(0,aG l),(1,.int .i64 below),(4,.bool false),(5,.int .i64 s.2),(6,.int .i64 s.1)]) (fun _=>[]) ⟨Nat.zero_le _,rfl⟩ rfl ?_ fun s hs=>?_
 ·try simp only[aD,QE,seval]
  try simp
 ·obtain⟨k,last⟩:=s;obtain⟨hk,hl2⟩:=hs;simp only at hk hl2;try simp only[↓QA,QB,seval,aD4]
  refine aF (fun h=>?_) fun h=>?_
  ·have hk1:k<l.length:=by simpa using h
   rw[List.drop_eq_getElem_cons hk1] at hl2;simp only[qF] at hl2;try simp only[↓QA,QB,seval,hk1]
   refine aF (fun h2=>?_) fun h2=>?_
   ·have h2':¬last<l[k]:=by simp at h2;omega
    try simp only[↓QA,QB,seval,h2]
    rw[<-hl2];simp[h2']
   ·have h2':last<l[k]:=by simp at h2;omega
    try simp only[↓QA,QB,seval,h2,hk1]
    refine aF (fun h3=>?_) fun h3=>?_
    ·have h3':¬l[k]<below:=by simp at h3;omega
     try simp only[↓QA,QB,seval,h3]
     rw[<-hl2];simp[h3']
    ·have h3':l[k]<below:=by simp at h3;omega
     try simp only[↓QA,QB,seval,h3,hk1]
     refine⟨(k+1,l[k]),⟨by simp;omega,by rw[<-hl2];simp[h2',h3']⟩,by simp;omega,?_⟩;try simp only[aD,QE,seval,bJ hk1 hl]
  ·have hk1:k=l.length:=by simp at h;omega
   try simp only[↓QA,QB,seval]
   rw[<-hl2,hk1,List.drop_length];simp[qF]
def AB(n:Nat):Nat->Bool
 |0=>n%2==1
 |k+1=>AB (n/2) k
theorem aJS(n:Nat):((n:Int).tdiv 2)=((n/2:Nat):Int):=by rw[Int.tdiv_eq_ediv_of_nonneg (by omega)];omega
theorem aKA(n:Nat):((n:Int).tmod 2)=((n%2:Nat):Int):=by rw[Int.tmod_eq_emod_of_nonneg (by omega)];omega
theorem aG6(n at_:Nat)(hn:n<9223372036854775808)(ha:at_<9223372036854775808):cE T 252 [.int .i64 n,.int .i64 at_] (.bool (AB n at_)):=by
 refine aZ (af:=a252) rfl (by simp[a252]) dd ?_;try simp only[↓QA,QB,seval,a252]
 refine b9 (S:=Nat×Nat) (n,0) (fun s=>s.2<=at_/\s.1<9223372036854775808/\AB s.1 (at_-s.2)=AB n at_) (fun s=>at_-s.2) (fun s=>[(0,.int .i64 s.1),(1,.int .i64 at_),(5,.int .i64 s.2)]) (fun _=>[]) ⟨Nat.zero_le _,hn,rfl⟩ rfl ?_ fun s hs=>?_
 ·try simp only[aD,QE,seval]
  try simp
 ·obtain⟨m,k⟩:=s;obtain⟨hk,hm,hb⟩:=hs;simp only at hk hm hb;try simp only[↓QA,QB,seval,VV]
  refine aF (fun h=>?_) fun h=>?_
  ·have hk1:k<at_:=by simpa using h
   have hw:IntKind.i64.wrap ((m:Int).tdiv 2)=((m/2:Nat):Int):=by rw[aJS,bL ⟨by omega,by omega⟩]
   try simp only[↓QA,QB,seval,aI7 _ _ _ (show (2:Int)≠0 by decide)]
   refine⟨(m/2,k+1),⟨by simp;omega,by simp;omega,?_⟩,by simp;omega,?_⟩
   ·rw[<-hb,show at_-k=(at_-(k+1))+1 by omega];rfl
   ·try simp only[aD,QE,seval,bJ hk1 ha,hw]
  ·have hk1:k=at_:=by simp at h;omega
   try simp only[↓QA,QB,seval,LC _ _ _ (show (2:Int)≠0 by decide)]
   rw[<-hb,hk1,Nat.sub_self,aKA];simp only[AB]
   congr 2
   rw[Bool.eq_iff_iff];simp;omega
theorem AU(a b:ByteArray):(a.toList==b.toList)=decide (a=b):=by
 rw[Bool.eq_iff_iff];simp;constructor
 ·intro h;rw[Go.Lib.toList_data,Go.Lib.toList_data] at h;exact ByteArray.ext (Array.toList_inj.1 h)
 ·rintro rfl;rfl
def jA(s:ByteArray):List ByteArray->Nat
 |[]=>0
 |x::xs=>if x=s then 0 else jA s xs+1
def CA(s:ByteArray)(l:List ByteArray):Int:=if jA s l=l.length then -1 else jA s l
theorem LK{s:ByteArray}{l:List ByteArray}{k:Nat}(h:k<l.length)(hx:l[k]≠s):k+jA s (l.drop k)=k+1+jA s (l.drop (k+1)):=by
 rw[List.drop_eq_getElem_cons h];simp[jA,hx];omega
theorem T9(l:List ByteArray)(s:ByteArray)(hl:l.length<9223372036854775808):cE T 220 [NR l,.str s] (.int .i64 (CA s l)):=by
 refine aZ (af:=a220) rfl (by simp[a220]) dd ?_;try simp only[↓QA,QB,seval,a220]
 refine b9 (S:=Nat) 0 (fun k=>k<=l.length/\k+jA s (l.drop k)=jA s l) (fun k=>l.length-k) (fun k=>[(0,NR l),(1,.str s),(5,.int .i64 k)]) (fun _=>[]) ⟨Nat.zero_le _,by simp⟩ rfl ?_ fun k hk=>?_
 ·try simp only[aD,QE,seval]
  try simp
 ·obtain⟨hkl,ha⟩:=hk;try simp only[↓QA,QB,seval,WF,AU]
  refine aF (fun h=>?_) fun h=>?_
  ·have hk1:k<l.length:=by simpa using h
   have e2:((k:Int)==l.length)=false:=by simp;omega
   try simp only[↓QA,QB,seval,h,hk1,AU]
   refine aF (fun h3=>?_) fun h3=>?_
   ·have h3':l[k]≠s:=by simpa using h3
    try simp only[↓QA,QB,seval,h3]
    refine⟨k+1,⟨by omega,by rw[<-LK hk1 h3'];exact ha⟩,by omega,?_⟩;try simp only[aD,QE,seval,bJ hk1 hl]
   ·have h3':l[k]=s:=by simpa using h3
    have h4:jA s (l.drop k)=0:=by rw[List.drop_eq_getElem_cons hk1];simp[jA,h3']
    try simp only[↓QA,QB,seval,h3,e2]
    simp only[CA];rw[if_neg (by omega)];simp;omega
  ·have hk1:k=l.length:=by simp at h;omega
   have e2:((k:Int)==l.length)=true:=by simp;omega
   have h4:jA s (l.drop k)=0:=by rw[hk1,List.drop_length];rfl
   try simp only[↓QA,QB,seval,h,e2]
   simp only[CA];rw[if_pos (by omega)]
def CG(i:Nat)(b:Int):Bool:=inR b 97 122||(decide (0<i)&&(b==46||inR b 48 57))
def gJ(s:ByteArray):Nat->Bool
 |0=>true
 |k+1=>gJ s k&&CG k (eE s k)
def mW(s:ByteArray):Bool:=inR s.size 1 16&&gJ s s.size
theorem PS(s:ByteArray)(hs:s.size<9223372036854775808):cE T 221 [.str s] (.bool (mW s)):=by
 refine aZ (af:=a221) rfl (by simp[a221]) dd ?_;try simp only[↓QA,QB,seval,a221]
 (refine aE (fK _ _ _) rfl dd ?_;try simp only[↓QA,QB,seval])
 refine b9 (S:=Nat) 0 (fun k=>k<=s.size) (fun k=>s.size-k) (fun k=>[(0,.str s),(3,.bool (inR s.size 1 16&&gJ s k)),(4,.int .i64 k)]) (fun _=>[]) (Nat.zero_le _) rfl ?_ fun k hk=>?_
 ·try simp only[aD,QE,seval,gJ]
  try simp
 ·try simp only[↓QA,QB,seval,XJ]
  refine aF (fun h=>?_) fun h=>?_
  ·have hk1:k<s.size:=by simpa using h
   have hb:=E1 s k;have hw:IntKind.i64.wrap (eE s k)=eE s k:=bL ⟨by omega,by omega⟩;have fin:∀ (later:Bool),later=(decide (0<k)&&(eE s k==46||inR (eE s k) 48 57))->(inR s.size 1 16&&gJ s k&&(inR (eE s k) 97 122||later))=(inR s.size 1 16&&gJ s (k+1)):=by
    rintro _ rfl;simp only[gJ,CG,Bool.and_assoc]
   have tail:∀ (later:Bool) (e:Env),later=(decide (0<k)&&(eE s k==46||inR (eE s k) 48 57))->True:=fun _ _ _=>trivial
   try simp only[↓QA,QB,seval,hk1,hw]
   cases h0:decide ((0:Int)<k)
   ·have h0':decide (0<k)=false:=by simpa using h0
    try simp only[↓QA,QB,seval,hk1,hw]
    cases hf:(inR s.size 1 16&&gJ s k)
    ·try simp only[↓QA,QB,seval,hk1,hw,hf]
     refine⟨k+1,by omega,by omega,?_⟩;try simp only[aD,QE,seval,bJ hk1 hs,<-fin false (by simp[h0']),hf]
     try simp
    ·try simp only[↓QA,QB,seval,hk1,hw,hf]
     (refine aE (fK _ _ _) rfl dd ?_;try simp only[↓QA,QB,seval])
     cases h2:inR (eE s k) 97 122;all_goals
      try simp only[↓QA,QB,seval,hk1,hw,hf]
      refine⟨k+1,by omega,by omega,?_⟩;try simp only[aD,QE,seval,bJ hk1 hs,<-fin false (by simp[h0']),hf,h2]
      try simp
   ·have h0':decide (0<k)=true:=by simpa using h0
    try simp only[↓QA,QB,seval,hk1,hw]
    cases h1:(eE s k==46)
    ·try simp only[↓QA,QB,seval,hk1,hw]
     (refine aE (fK _ _ _) rfl dd ?_;try simp only[↓QA,QB,seval])
     cases hf:(inR s.size 1 16&&gJ s k)
     ·try simp only[↓QA,QB,seval,hk1,hw,hf]
      refine⟨k+1,by omega,by omega,?_⟩;try simp only[aD,QE,seval,bJ hk1 hs,<-fin _ rfl,hf]
      try simp
     ·try simp only[↓QA,QB,seval,hk1,hw,hf]
      (refine aE (fK _ _ _) rfl dd ?_;try simp only[↓QA,QB,seval])
      cases h2:inR (eE s k) 97 122;all_goals
       try simp only[↓QA,QB,seval,hk1,hw,hf]
       refine⟨k+1,by omega,by omega,?_⟩;try simp only[aD,QE,seval,bJ hk1 hs,<-fin _ rfl,hf,h2,h0',h1]
       try simp
    ·try simp only[↓QA,QB,seval,hk1,hw]
     cases hf:(inR s.size 1 16&&gJ s k)
     ·try simp only[↓QA,QB,seval,hk1,hw,hf]
      refine⟨k+1,by omega,by omega,?_⟩;try simp only[aD,QE,seval,bJ hk1 hs,<-fin _ rfl,hf]
      try simp
     ·try simp only[↓QA,QB,seval,hk1,hw,hf]
      (refine aE (fK _ _ _) rfl dd ?_;try simp only[↓QA,QB,seval])
      cases h2:inR (eE s k) 97 122;all_goals
       try simp only[↓QA,QB,seval,hk1,hw,hf]
       refine⟨k+1,by omega,by omega,?_⟩;try simp only[aD,QE,seval,bJ hk1 hs,<-fin _ rfl,hf,h2,h0',h1]
       try simp
  ·have hk1:k=s.size:=by simp at h;omega
   try simp only[↓QA,QB,seval]
   simp[mW,hk1]
def fresh(s:ByteArray)(before:List ByteArray):Int:=if mW s=false then 6 else if jA s before=before.length then 0 else 5
theorem CB(s:ByteArray)(l:List ByteArray)(hs:s.size<9223372036854775808)(hl:l.length<9223372036854775808):cE T 67 [.str s,NR l] (.int .i64 (fresh s l)):=by
 refine aZ (af:=a67) rfl (by simp[a67]) dd ?_;try simp only[↓QA,QB,seval,a67]
 (refine aE (T9 l s hl) rfl dd ?_;try simp only[↓QA,QB,seval])
 refine aF (fun h=>?_) fun h=>?_
 ·have hin:jA s l≠l.length:=by
   intro e;simp[CA,e] at h
  try simp only[↓QA,QB,seval]
  (refine aE (PS s hs) rfl dd ?_;try simp only[↓QA,QB,seval])
  cases hn:mW s;all_goals
   try simp only[↓QA,QB,seval]
   simp[fresh,hn,hin]
 ·have hin:jA s l=l.length:=by
   simp only[CA] at h;split at h
   ·assumption
   ·simp at h
  try simp only[↓QA,QB,seval]
  (refine aE (PS s hs) rfl dd ?_;try simp only[↓QA,QB,seval])
  cases hn:mW s;all_goals
   try simp only[↓QA,QB,seval]
   simp[fresh,hn,hin]
def aW(a:Int):Nat->List Int
 |0=>[]
 |n+1=>a::aW (a+1) n
theorem jR:∀ n a,(aW a n).length=n
 |0,_=>rfl
 |n+1,a=>by simp[aW,jR n]
theorem cX:∀ n a x,x∈aW a n↔a<=x/\x<a+n
 |0,a,x=>by simp[aW]
 |n+1,a,x=>by simp[aW,cX n];omega
def zP(i:Nat)(c:List Int):Int:=if 0<i then (c[i-1]?).getD 0+1 else 0
def OX(below i:Nat)(c:List Int):List (List Int):=(aW (zP i c) ((below:Int)-zP i c).toNat).map fun n=>c++[n]
def cW(below:Nat):Nat->List (List Int)
 |0=>[[]]
 |i+1=>(cW below i).flatMap (OX below i)
theorem fG(below:Nat):∀ i c,c∈cW below i->c.length=i/\∀ x∈c,0<=x/\x<below
 |0,c,h=>by simp[cW] at h;subst h;simp
 |i+1,c,h=>by
  simp only[cW,List.mem_flatMap] at h;obtain⟨d,h1,h2⟩:=h;obtain⟨q1,q2⟩:=fG below i d h1;simp only[OX,List.mem_map,cX] at h2;obtain⟨n,h3,rfl⟩:=h2;refine⟨by simp[q1],fun x hx=>?_⟩;rcases List.mem_append.1 hx with hx|hx
  ·exact q2 x hx
  ·simp at hx;subst hx;have:0<=zP i d:=by
    unfold zP;split
    ·rename_i hi;have hlt:i-1<d.length:=by omega
     have:=q2 d[i-1] (List.getElem_mem hlt);simp[hlt];omega
    ·omega
   omega
theorem G7{α β:Type}(f:α->List β)(b:Nat):∀ l:List α,(∀ x∈l,(f x).length<=b)->(l.flatMap f).length<=l.length*b
 |[],_=>by simp
 |x::l,h=>by
  have h1:=h x (by simp);have h2:=G7 f b l fun y hy=>h y (List.mem_cons_of_mem _ hy)
  simp only[List.flatMap_cons,List.length_append,List.length_cons,Nat.add_mul];omega
theorem lC(l:List (List Int)):aI 1 (l.map aG)=true:=vP 1 aG l fun x=>aC8 _ _ _
theorem mG(l:List Int):aI 1 (l.map (.int .i64))=true:=vP 1 _ l fun x=>UY _ _
theorem u3:∀ {a b c:List Int},less a b=true->less b c=true->less a c=true
 |a,b,[],h1,h2=>by cases b<;>simp[less] at h2
 |a,[],c::cs,h1,h2=>by cases a<;>simp[less] at h1
 |[],b::bs,c::cs,h1,h2=>by simp[less]
 |a::az,b::bs,c::cs,h1,h2=>by
  simp only[less] at *;by_cases hab:a=b
  ·subst hab;by_cases hac:a=c
   ·subst hac;simp only[if_true] at *;exact u3 h1 h2
   ·simp only[hac,if_false,if_true] at *;exact h2
  ·by_cases hbc:b=c
   ·subst hbc;simp only[hab,if_false,if_true,decide_eq_true_eq] at *;exact h1
   ·simp only[hab,hbc,if_false,decide_eq_true_eq] at *;rw[if_neg (by omega)];simp;omega
theorem mT(a:List Int):cU a a=false:=by simp[cU,pU]
theorem lO{a b c:List Int}(h1:cU a b=true)(h2:cU b c=true):cU a c=true:=by
 simp only[cU] at *;by_cases e1:a.length=b.length<;>by_cases e2:b.length=c.length
 ·simp only[e1,e2,if_true] at *;exact u3 h1 h2
 ·simp only[e1,e2,if_true,if_false,decide_eq_true_eq] at *;exact h2
 ·rw[if_neg e1] at h1;rw[if_neg (by omega)];simp at h1 ⊢;omega
 ·simp only[e1,e2,if_false,decide_eq_true_eq] at *;rw[if_neg (by omega)];simp;omega
theorem yU{a b:List Int}(h1:cU a b=false)(h2:cU b a=false):a=b:=by
 simp only[cU] at *;by_cases e1:a.length=b.length
 ·simp only[e1,if_true] at *;exact C3 a b h1 h2
 ·rw[if_neg e1] at h1;rw[if_neg (Ne.symm e1)] at h2;simp at h1 h2;omega
theorem GU{a b c:List Int}(h1:cU b a=false)(h2:cU c b=false):cU c a=false:=by
 rw[Bool.eq_false_iff];intro h;by_cases hab:cU a b=true
 ·rw[lO h hab] at h2;cases h2
 ·have:=yU (by simpa using hab) h1;subst this;rw[h] at h2;cases h2
def lst(n s:Nat):List Int:=(aW 0 n).filter fun i=>decide (s/2^i.toNat%2=1)
theorem YE:∀ n:Fin 7,∀ s:Fin 64,s.val<2^n.val->lst n s∈cW n (lst n s).length:=by decide +kernel
theorem N1:∀ n m:Fin 7,∀ c∈cW n m,∃ s:Fin 64,s.val<2^n.val/\lst n s=c:=by decide +kernel
theorem sX:∀ n m:Fin 7,(cW n m).Pairwise fun a b=>less a b=true:=by decide +kernel
theorem JJ:∀ n:Fin 7,(cW n n).length=1:=by decide +kernel
theorem AO(n s:Nat):(lst n s).length<=n:=by
 have:=List.length_filter_le (fun i:Int=>decide (s/2^i.toNat%2=1)) (aW 0 n);rw[jR] at this;exact this
def dU(f:List Int->Bool)(n:Nat):Nat->Nat->Option (List Int)
 |0,_=>none
 |k+1,m=>match (cW n m).find? f with
  |some l=>some l
  |none=>dU f n k (m+1)
theorem FQ:∀ n:Fin 7,∀ c∈cW n n,∀ j:Fin 7,j.val<n.val->c.contains ((j.val:Nat):Int)=true:=by decide +kernel
def i6(f:List Int->Bool)(o:Option (List Int))(l:List Int):Option (List Int):=match o with
 |none=>if f l=true then some l else none
 |some b=>if cU b l=true then some b else if f l=true then some l else some b
def mC(f:List Int->Bool)(n:Nat):Nat->Nat->Option (List Int)->Option (List Int)
 |0,_,o=>o
 |k+1,s,o=>mC f n k (s+1) (i6 f o (lst n s))
theorem xE(f:List Int->Bool)(n:Nat):∀ k s o,(∀ w,o=some w->f w=true/\∃ t,t<s/\w=lst n t/\∀ t',t'<s->f (lst n t')=true->cU (lst n t') w=false)->(o=none->∀ t,t<s->f (lst n t)=false) ->
  (∀ w,mC f n k s o=some w->f w=true/\∃ t,t<s+k/\w=lst n t/\∀ t',t'<s+k->f (lst n t')=true->cU (lst n t') w=false)/\(mC f n k s o=none->∀ t,t<s+k->f (lst n t)=false)
 |0,s,o,h1,h2=>⟨h1,h2⟩
 |k+1,s,o,h1,h2=>by
  have ih:=xE f n k (s+1) (i6 f o (lst n s));rw[show s+1+k=s+(k+1) by omega] at ih;simp only[mC];have last:∀ (w:List Int) t',t'<s+1->(∀ t'',t''<s->f (lst n t'')=true->cU (lst n t'') w=false)->(f (lst n s)=true->cU (lst n s) w=false)->f (lst n t')=true->cU (lst n t') w=false:=by
   intro w t' ht h3 h4 hs;by_cases he:t'=s
   ·subst he;exact h4 hs
   ·exact h3 t' (by omega) hs
  refine ih (fun w hw=>?_) fun hn t ht=>?_
  ·cases o with
   |none =>
    simp only[i6] at hw;split at hw
    ·rename_i hs;simp only[Option.some.injEq] at hw;subst hw;refine⟨hs,s,by omega,rfl,fun t' ht hst=>last _ t' ht (fun t'' h4 h5=>by rw[h2 rfl t'' h4] at h5;cases h5) (fun _=>mT _) hst⟩
    ·cases hw
   |some b =>
    obtain⟨q1,t,q2,q3,q4⟩:=h1 b rfl;simp only[i6] at hw;split at hw
    ·rename_i hf;simp only[Option.some.injEq] at hw;subst hw;refine⟨q1,t,by omega,q3,fun t' ht hst=>last _ t' ht q4 (fun _=>?_) hst⟩;rw[Bool.eq_false_iff];intro h5;have:=lO hf h5;rw[mT] at this;cases this
    ·rename_i hf;split at hw
     ·rename_i hs;simp only[Option.some.injEq] at hw;subst hw;refine⟨hs,s,by omega,rfl,fun t' ht hst=>last _ t' ht (fun t'' h4 h5=>?_) (fun _=>mT _) hst⟩;exact GU (by simpa using hf) (q4 t'' h4 h5)
     ·rename_i hs;simp only[Option.some.injEq] at hw;subst hw;exact⟨q1,t,by omega,q3,fun t' ht hst=>last _ t' ht q4 (fun h5=>absurd h5 hs) hst⟩
  ·cases o with
   |none =>
    simp only[i6] at hn;split at hn
    ·cases hn
    ·rename_i hs;by_cases he:t=s
     ·subst he;simpa using hs
     ·exact h2 rfl t (by omega)
   |some b =>
    simp only[i6] at hn;split at hn
    ·cases hn
    ·split at hn<;>cases hn
theorem u6:∀ {n i:Nat} {c:List Int},c∈cW n i->i<=n:=by
 intro n i;cases i with
 |zero=>intros;omega
 |succ i =>
  intro c hc;simp only[cW,List.mem_flatMap,OX,List.mem_map,cX] at hc;obtain⟨d,hd,x,hx,rfl⟩:=hc;have key:∀ j (d:List Int),d∈cW n j->(j:Int)<=zP j d:=by
   intro j
   induction j with
   |zero=>intro d _;simp[zP]
   |succ j ih =>
    intro d hd;simp only[cW,List.mem_flatMap,OX,List.mem_map,cX] at hd;obtain⟨d',hd',y,hy,rfl⟩:=hd;have h5:=ih d' hd';have h6:=(fG n j d' hd').1;simp only[zP,Nat.succ_pos,if_true,Nat.add_sub_cancel];rw[List.getElem?_append_right (by omega),h6,Nat.sub_self];simp only[List.getElem?_cons_zero,Option.getD_some];omega
  have:=key i d hd;omega
theorem rW(f:List Int->Bool)(n:Nat)(hN:n<=6):∀ k m,(∀ m',m'<m->∀ c∈cW n m',f c=false) ->
  (∀ l,dU f n k m=some l->l∈cW n l.length/\f l=true/\∀ m',∀ c∈cW n m',f c=true->cU c l=false)/\(dU f n k m=none->∀ m',m'<m+k->∀ c∈cW n m',f c=false)
 |0,m,hlow=>⟨fun l h=>by simp[dU] at h,fun _ m' h c hc=>hlow m' (by omega) c hc⟩
 |k+1,m,hlow=>by
  simp only[dU];cases hf:(cW n m).find? f with
  |none =>
   simp only;have ih:=rW f n hN k (m+1) fun m' hm' c hc=>by
    by_cases he:m'=m
    ·subst he;rw[List.find?_eq_none] at hf;simpa using hf c hc
    ·exact hlow m' (by omega) c hc
   exact⟨ih.1,fun h m' hm'=>ih.2 h m' (by omega)⟩
  |some l =>
   simp only;refine⟨fun l' h=>?_,fun h=>by cases h⟩;cases h;have hmem:=List.mem_of_find?_eq_some hf;have hs:=List.find?_some hf;have hlen:=(fG _ _ _ hmem).1;rw[hlen];refine⟨hmem,hs,fun m' c hc hsc=>?_⟩;have hcl:=(fG _ _ _ hc).1;by_cases h1:m'<m
   ·rw[hlow m' h1 c hc] at hsc;cases hsc
   ·by_cases he:m'=m
    ·subst he;rw[Bool.eq_false_iff];intro hlt;simp only[cU,hcl,hlen,if_true] at hlt;obtain⟨pre,post,e1,e2⟩:=(List.find?_eq_some_iff_append.1 hf).2;have hmn:=u6 hmem;have hpw:=sX ⟨n,by omega⟩ ⟨m',by omega⟩;simp only at hpw;rw[e1] at hc hpw;rcases List.mem_append.1 hc with hc|hc
     ·have:=e2 c hc;rw[hsc] at this;cases this
     ·rcases List.mem_cons.1 hc with rfl|hc
      ·rw[pU] at hlt;cases hlt
      ·have:=(List.pairwise_append.1 hpw).2.1;have:=(List.pairwise_cons.1 this).1 c hc;have h3:=u3 hlt this;rw[pU] at h3;cases h3
    ·simp only[cU];rw[if_neg (by omega)];simp;omega
theorem aH5(f:List Int->Bool)(n:Nat)(hN:n<=6):mC f n (2^n) 0 none=dU f n (n+1) 0:=by
 have hp:2^n<=2^6:=Nat.pow_le_pow_right (by omega) hN;obtain⟨w1,w2⟩:=rW f n hN (n+1) 0 (fun m' h=>by omega);obtain⟨s1,s2⟩:=xE f n (2^n) 0 none (fun w h=>by cases h) (fun _ t h=>by omega);rw[Nat.zero_add] at s1 s2;cases hf:mC f n (2^n) 0 none with
 |none =>
  cases hg:dU f n (n+1) 0 with
  |none=>rfl
  |some l =>
   obtain⟨a,b,c⟩:=w1 l hg;have hle:=u6 a;obtain⟨t,ht,hlt⟩:=N1 ⟨n,by omega⟩ ⟨l.length,by omega⟩ l a;have:=s2 hf t.val ht;rw[show lst n t.val=l from hlt,b] at this;cases this
 |some w =>
  obtain⟨q1,t',q2,q3,q4⟩:=s1 w hf;have hin:=YE ⟨n,by omega⟩ ⟨t',by omega⟩ q2;simp only at hin;rw[<-q3] at hin;have hle:w.length<=n:=by rw[q3];exact AO _ _
  cases hg:dU f n (n+1) 0 with
  |none =>
   have:=w2 hg w.length (by omega) w hin;rw[q1] at this;cases this
  |some l =>
   obtain⟨a,b,c⟩:=w1 l hg;have hll:=u6 a;obtain⟨t,ht,hlt⟩:=N1 ⟨n,by omega⟩ ⟨l.length,by omega⟩ l a;have a1:=q4 t.val ht (by rw[show lst n t.val=l from hlt];exact b);rw[show lst n t.val=l from hlt] at a1;have a2:=c w.length w hin q1;rw[yU a1 a2]
open Go
variable {P:Program}
def iS(P:Program)(t:TypeId)(ts:List TypeId):Prop:=∃ fs,P.underlying t=some (.struct fs)/\fs.toList.map Field.type=ts
theorem oS{n:Nat}{t:TypeId}{ts:List TypeId}{cs:List AV}(hu:iS P t ts)(h:Typ P (n+1) t cs):mkV P t cs = .agg cs/\OH P n ts cs:=by
 obtain⟨fs,h1,h2⟩:=hu;have:=NS h1 h;rw[h2] at this;exact⟨L9 h1,this⟩
theorem AL{n:Nat}{i t:TypeId}{cs:List AV}(hi:P.underlying i=some (.int .i64))(hs:iS P t [i,i])(h:Typ P (n+2) t cs):∃ s:Span,cs=[.int .i64 s.lo,.int .i64 s.hi]:=by
 obtain⟨_,a,b,rfl,h1,c,d,rfl,h2,rfl⟩:=oS hs h;obtain⟨x,rfl,_⟩:=fX hi h1;obtain⟨y,rfl,_⟩:=fX hi h2;exact⟨⟨x,y⟩,rfl⟩
end Go.Am.Room
namespace Go.Am.Room
def aS{α:Type}(f:Nat->α->Int):List α->Nat->Option (Nat×Int)
 |[],_=>none
 |x::xs,i=>if f i x=0 then aS f xs (i+1) else some (i,f i x)
theorem eU{α:Type}{f:Nat->α->Int}{l:List α}{k:Nat}(h:k<l.length):aS f (l.drop k) k=if f k l[k]=0 then aS f (l.drop (k+1)) (k+1) else some (k,f k l[k]):=by
 rw[List.drop_eq_getElem_cons h];rfl
theorem fE{α:Type}{f:Nat->α->Int}{l:List α}{k:Nat}(h:k=l.length):aS f (l.drop k) k=none:=by
 rw[h,List.drop_length];rfl
theorem lB{α:Type}{f:Nat->α->Int}:∀ {l:List α} {k:Nat},aS f l k=none->∀ i (h:i<l.length),f (k+i) l[i]=0
 |[],_,_,i,h=>by simp at h
 |x::xs,k,hn,i,h=>by
  simp only[aS] at hn;split at hn
  ·rename_i h0;cases i with
   |zero=>simpa using h0
   |succ j=>have:=lB hn j (by simpa using h);simpa[Nat.add_assoc,Nat.add_comm 1 j] using this
  ·simp at hn
def rE:List Int->Span
 |[]=>⟨0,0⟩
 |x::xs=>xs.foldl m8 ⟨x,x⟩
def lD(yes all:Nat):Int:=if yes=all then 1 else if yes=0 then 2 else 0
theorem cH{n lo hi:Int}:inR n lo hi=true↔lo<=n/\n<=hi:=by simp[inR]
theorem mO{s:Span}{lo hi:Int}(h:eH s lo hi=0):lo<=s.lo/\s.lo<=s.hi/\s.hi<=hi:=by
 unfold eH at h;split at h
 ·omega
 ·rename_i h1;split at h
  ·omega
  ·simp[inR] at h1;omega
theorem OI{s:Span}{lo hi:Int}(h:lo<=s.lo/\s.lo<=s.hi/\s.hi<=hi):eH s lo hi=0:=by
 unfold eH;rw[cH.2 ⟨h.1,by omega⟩,cH.2 ⟨by omega,h.2.2⟩];simp;omega
theorem mM{α:Type}{f:Nat->α->Int}:∀ {l:List α} {i:Nat},aS f l i=none->∀ k (h:k<l.length),f (i+k) l[k]=0
 |[],_,_,k,h=>by simp at h
 |x::xs,i,h,k,hk=>by
  simp only[aS] at h;split at h
  ·rename_i h0;cases k with
   |zero=>exact h0
   |succ k =>
    have:=mM h k (by simpa using hk);simpa[Nat.add_assoc,Nat.add_comm 1 k] using this
  ·cases h
theorem sB{α:Type}{f:Nat->α->Int}:∀ {l:List α} {i:Nat},(∀ x∈l,∀ k,f k x=0)->aS f l i=none
 |[],_,_=>rfl
 |x::xs,i,h=>by
  simp only[aS];rw[if_pos (h x (by simp) i)];exact sB fun y hy=>h y (by simp[hy])
theorem fJ{α:Type}{f:Nat->α->Int}:∀ {l:List α} {i j:Nat} {e:Int},aS f l i=some (j,e)->e≠0
 |[],_,_,_,h=>by cases h
 |x::xs,i,j,e,h=>by
  simp only[aS] at h;split at h
  ·exact fJ h
  ·rename_i hn;simp at h;rw[<-h.2];exact hn
theorem xB{α:Type}{f:Nat->α->Int}:∀ {l:List α} {i:Nat},(∀ k (h:k<l.length),f (i+k) l[k]=0)->aS f l i=none
 |[],_,_=>rfl
 |x::xs,i,h=>by
  simp only[aS];rw[if_pos (show f i x=0 from h 0 (by simp))];exact xB fun k hk=>by have:=h (k+1) (by simpa using hk);simpa[Nat.add_assoc,Nat.add_comm 1 k] using this
end Go.Am.Room
namespace Go.Am.Room.Fa
structure Plot where
 name:ByteArray
 flower:Span
 hands:Int
structure Look where
 plot:Int
 day:Int
 points:Int
structure Farm where
 rain:List Span
 full:Int
 ripe:Int
 way:Span
 plots:List Plot
 looks:List Look
theorem cC(σ:St)(m d:Nat)(l:List Span):bZ σ m d (l.map cT)=some (l.map cT):=i8 (cL pT l) σ m d
instance (l:List Span):Dats (l.map cT):=⟨cL pT l⟩
def bY(p:Plot):AV:=.agg [.str p.name,.int .i64 p.flower.lo,.int .i64 p.flower.hi,.int .i64 p.hands]
theorem bS(p:Plot):bY p = .agg [.str p.name,.int .i64 p.flower.lo,.int .i64 p.flower.hi,.int .i64 p.hands]:=by simp only[bY]
theorem pQ(p:Plot):jB (bY p):=gL (aV (sS _) (aV (cF _ _) (aV (cF _ _) (aV (cF _ _) bA))))
instance (p:Plot):Dat (bY p):=⟨pQ p⟩
def dP(x:Look):AV:=.agg [.int .i64 x.plot,.int .i64 x.day,.int .i64 x.points]
theorem bQ(x:Look):dP x = .agg [.int .i64 x.plot,.int .i64 x.day,.int .i64 x.points]:=by simp only[dP]
theorem pS(x:Look):jB (dP x):=gL (aV (cF _ _) (aV (cF _ _) (aV (cF _ _) bA)))
instance (x:Look):Dat (dP x):=⟨pS x⟩
instance (l:List Plot):Dats (l.map bY):=⟨cL pQ l⟩
instance (l:List Look):Dats (l.map dP):=⟨cL pS l⟩
def aB(v:Farm):List AV:=[.lit (v.rain.map cT) false none,.int .i64 v.full,.int .i64 v.ripe,.int .i64 v.way.lo,.int .i64 v.way.hi,.lit (v.plots.map bY) false none,.lit (v.looks.map dP) false none]
theorem aH(v:Farm):aB v=[.lit (v.rain.map cT) false none,.int .i64 v.full,.int .i64 v.ripe,.int .i64 v.way.lo,.int .i64 v.way.hi,.lit (v.plots.map bY) false none,.lit (v.looks.map dP) false none]:=by simp only[aB]
def encFarm(v:Farm):AV:=.agg (aB v)
theorem bR(v:Farm):encFarm v = .agg (aB v):=by simp only[encFarm]
theorem pX(v:Farm):jB (encFarm v):=gL (aV (dV pT _) (aV (cF _ _) (aV (cF _ _) (aV (cF _ _) (aV (cF _ _) (aV (dV pQ _) (aV (dV pS _) bA)))))))
instance (v:Farm):Dat (encFarm v):=⟨pX v⟩
theorem cB(σ:St)(m d:Nat)(l:List Plot):bZ σ m d (l.map bY)=some (l.map bY):=i8 (cL pQ l) σ m d
theorem cA(σ:St)(m d:Nat)(l:List Look):bZ σ m d (l.map dP)=some (l.map dP):=i8 (cL pS l) σ m d
structure Fits (v:Farm):Prop where
 rain:v.rain.length<9223372036854775808
 plots:v.plots.length<9223372036854775808
 looks:v.looks.length<9223372036854775808
 names:∀ p∈v.plots,p.name.size<9223372036854775808
def eI(v:Farm):Int:=v.rain.length
def sK(_:Nat)(s:Span):Int:=eH s 0 2
def DJ(v:Farm)(p:Plot):Int:=if eH p.flower 0 (eI v-1)=7\/inR p.hands 1 99=false then 7 else eH p.flower 0 (eI v-1)
def kI(v:Farm)(i:Nat)(p:Plot):Int:=if fresh p.name ((v.plots.take i).map Plot.name)=0 then DJ v p else fresh p.name ((v.plots.take i).map Plot.name)
def m7(v:Farm)(_:Nat)(x:Look):Int:=if inR x.plot 0 ((v.plots.length:Int)-1)=false then 4 else if inR x.day 0 (eI v)=false\/inR x.points 0 30=false then 7 else 0
def lZ(v:Farm):Int×Int×Int:=if 4<v.looks.length then (4,0,3) else match aS (m7 v) v.looks 0 with|some (i,e)=>(4,i,e)|none=>(0,0,0)
def gU(v:Farm):Int×Int×Int:=if 4<v.plots.length then (3,0,3) else match aS (kI v) v.plots 0 with|some (i,e)=>(3,i,e)|none=>lZ v
def fH(v:Farm):Int×Int×Int:=if inR v.full 0 30=false\/inR v.ripe 0 30=false\/eH v.way 0 9=7 then (2,0,7) else if eH v.way 0 9=0 then gU v else (2,0,eH v.way 0 9)
def check(v:Farm):Int×Int×Int:=if inR v.rain.length 1 7=false then (1,0,3) else match aS sK v.rain 0 with|some (i,e)=>(1,i,e)|none=>fH v
def pts(r:Nat->Int)(a:Nat):Nat->Int
 |0=>0
 |d+1=>if a<=d then pts r a d+(1+r d) else 0
def rl(l:List Int)(i:Nat):Int:=(l[i]?).getD 0
def BK(l:List Int)(a d:Int):Int:=pts (rl l) a.toNat d.toNat
def lU(s:Span):List Int:=aW s.lo (s.hi+1-s.lo).toNat
def ext(s:Span)(l:List Int):List (List Int):=(lU s).map fun n=>l++[n]
def dI(rs:List Span):Nat->List (List Int)
 |0=>[[]]
 |k+1=>match rs[k]? with|some s=>(dI rs k).flatMap (ext s)|none=>dI rs k
def k8(v:Farm):List (List Int):=dI v.rain v.rain.length
def oW(plot:Int)(but:List Int)(rain:List Int)(d:Int)(k:Nat)(x:Look):Bool:=!decide (x.plot=plot)||but.contains (k:Int)||BK rain d x.day==x.points
def jI(v:Farm)(plot:Int)(rain but:List Int)(d:Int):Bool:=(List.range v.looks.length).all fun k=>match v.looks[k]? with|some x=>oW plot but rain d k x|none=>true
def nI(v:Farm)(p:Nat):Span:=match v.plots[p]? with|some x=>x.flower|none=>⟨0,-1⟩
def bC(v:Farm)(p:Nat)(rain but:List Int):List Int:=(lU (nI v p)).filter (jI v (p:Int) rain but)
structure Truth where
 rain:List Int
 fl:List (List Int)
def gG(v:Farm)(but rain:List Int):Option Truth :=
 let l:=(List.range v.plots.length).map fun (p:Nat)=>bC v p rain but
 if l.all (fun x=>!x.isEmpty) then some ⟨rain,l⟩ else none
def aO(v:Farm)(but:List Int):List Truth:=(k8 v).filterMap (gG v but)
def eZ(t:Truth):AV:=.agg [aG t.rain,.lit (t.fl.map aG) false none]
theorem lS(t:Truth):eZ t = .agg [aG t.rain,.lit (t.fl.map aG) false none]:=by simp only[eZ]
theorem qN(t:Truth):jB (eZ t):=gL (aV (iY _) (aV (dV iY _) bA))
instance (t:Truth):Dat (eZ t):=⟨qN t⟩
def pV(l:List Truth):AV:=.lit (l.map eZ) false none
theorem s9(l:List Truth):pV l = .lit (l.map eZ) false none:=by simp only[pV]
theorem LB(l:List Truth):jB (pV l):=dV qN l
instance (l:List Truth):Dat (pV l):=⟨LB l⟩
instance (l:List Truth):Dats (l.map eZ):=⟨cL qN l⟩
theorem F0(σ:St)(m d:Nat)(l:List Truth):bZ σ m d (l.map eZ)=some (l.map eZ):=i8 (cL qN l) σ m d
def sD(v:Farm)(but:List Int):Bool:=!(aO v but).isEmpty
def yN(v:Farm)(plot:Int):Int:=if (check v).2.2=0 then (if inR plot 0 ((v.plots.length:Int)-1) then 0 else 4) else (check v).2.2
def m9(n most e:Int):Int:=if e=0 then (if inR n 0 most then 0 else 7) else e
def dJ(v:Farm)(e:Int):Int:=if e=0 then (if (aO v []).isEmpty then 8 else 0) else e
def iK(t:Truth)(p:Nat):List Int:=(t.fl[p]?).getD []
def dC(l:List Truth)(p d:Nat):List Int:=l.flatMap fun t=>(iK t p).map fun h=>BK t.rain h d
def jV(l:List Truth)(p d:Nat):Span:=rE (dC l p d)
def lL(v:Farm)(plot day:Int):Int:=dJ v (m9 day (eI v) (yN v plot))
def qR(v:Farm)(plot day:Int):Span×Int:=if lL v plot day=0 then (jV (aO v []) plot.toNat day.toNat,0) else (⟨0,0⟩,lL v plot day)
def xC(v:Farm)(day:Int):Int:=dJ v (m9 day (eI v-1) (check v).2.2)
def kC(l:List Truth)(d:Nat):List Int:=l.map fun t=>rl t.rain d
def pD(v:Farm)(day:Int):Span×Int:=if xC v day=0 then (rE (kC (aO v []) day.toNat),0) else (⟨0,0⟩,xC v day)
def kA(v:Farm)(plot:Int):Int:=dJ v (yN v plot)
def CZ(l:List Truth)(p:Nat)(d:Int):Bool:=l.any fun t=>(iK t p).contains d
def nC(v:Farm)(l:List Truth)(p:Nat):List Int:=(aW 0 v.rain.length).filter (CZ l p)
def kM(v:Farm)(plot:Int):List Int×Int:=if kA v plot=0 then (nC v (aO v []) plot.toNat,0) else ([],kA v plot)
def vG(v:Farm)(n w:Int):Bool:=decide (v.full<=n)&&decide (n+w<=v.ripe)
def AP(v:Farm)(n:Int):List Bool:=(lU v.way).map (vG v n)
def k6(v:Farm)(l:List Truth)(p d:Nat):List Bool:=(dC l p d).flatMap (AP v)
def eN(v:Farm)(l:List Truth)(p d:Nat):Int:=lD ((k6 v l p d).filter id).length (k6 v l p d).length
def DE(v:Farm)(plot day:Int):Int×Int:=if lL v plot day=0 then (eN v (aO v []) plot.toNat day.toNat,0) else (0,lL v plot day)
def CH(v:Farm)(l:List Truth)(p:Nat):List Int:=(aW 0 (v.rain.length+1)).filter fun d=>eN v l p d.toNat==1
def F9(v:Farm)(l:List Truth)(p:Nat):List Int:=(aW 0 (v.rain.length+1)).filter fun d=>!(eN v l p d.toNat==2)
def xW(v:Farm)(plot:Int):List Int×List Int×Int:=if kA v plot=0 then (CH v (aO v []) plot.toNat,F9 v (aO v []) plot.toNat,0) else ([],[],kA v plot)
def lX(v:Farm)(l:List Truth)(p d:Nat):Bool:=decide ((jV l p d).hi+v.way.hi<=v.ripe)
def GX(v:Farm)(l:List Truth)(p d:Nat):Bool:=decide (v.full<=(jV l p d).lo)
def nN(q:Nat->Bool):Nat->Int
 |0=>-1
 |k+1=>if q k then k else nN q k
def CL(v:Farm)(l:List Truth)(p:Nat):Int:=nN (lX v l p) (v.rain.length+1)
def uS(v:Farm)(plot:Int):Int×Int:=if kA v plot=0 then (if CL v (aO v []) plot.toNat = -1 then (0,9) else (CL v (aO v []) plot.toNat,0)) else (0,kA v plot)
def A4(v:Farm)(p:Int):Int:=match v.plots[p.toNat]? with|some x=>x.hands|none=>0
def lF(v:Farm):List Int->Int
 |[]=>0
 |p::l=>A4 v p+lF v l
def aU(v:Farm)(l:List Truth)(ps:List Int)(d:Nat):List Int:=ps.filter fun p=>!GX v l p.toNat d
def jE(v:Farm)(l:List Truth)(ps:List Int)(d:Nat)(hands:Int):Bool:=decide (hands<=lF v ps)&&ps.all fun p=>lX v l p.toNat d
def EH(v:Farm)(l:List Truth)(d:Nat)(hands:Int)(o:Option (List Int))(ps:List Int):Option (List Int) :=
 if jE v l ps d hands then (match o with|none=>some ps|some b=>if (aU v l ps d).length<(aU v l b d).length then some ps else some b) else o
def vV(n:Nat):Nat->Nat->List (List Int)
 |0,_=>[]
 |k+1,m=>cW n m++vV n k (m+1)
def fN(n:Nat):List (List Int):=vV n (n+1) 0
def mI(v:Farm)(l:List Truth)(d:Nat)(hands:Int):Option (List Int):=(fN v.plots.length).foldl (EH v l d hands) none
def mX(v:Farm)(day hands:Int):Int:=dJ v (m9 hands 400 (m9 day (eI v) (check v).2.2))
def uV(v:Farm)(l:List Truth)(d:Nat):Option (List Int)->List Int×List Int×Int
 |none=>([],[],9)
 |some b=>(b,aU v l b d,0)
def mF(v:Farm)(day hands:Int):List Int×List Int×Int:=if mX v day hands=0 then uV v (aO v []) day.toNat (mI v (aO v []) day.toNat hands) else ([],[],mX v day hands)
def DC(v:Farm):List Int:=(dU (sD v) v.looks.length v.looks.length 0).getD (((cW v.looks.length v.looks.length)[0]?).getD [])
def AJ(v:Farm):List Int×Int:=if (check v).2.2=0 then (DC v,0) else ([],(check v).2.2)
def TV:ByteArray:=⟨#[104,105,108,108]⟩
def YI:ByteArray:=⟨#[98,97,110,107]⟩
def VC:ByteArray:=⟨#[98,101,110,100]⟩
def exF(l:List Look):Farm:=⟨[⟨1,1⟩,⟨0,1⟩,⟨0,0⟩,⟨1,2⟩,⟨0,1⟩],6,11,⟨2,3⟩,[⟨TV,⟨0,0⟩,30⟩,⟨YI,⟨1,2⟩,20⟩,⟨VC,⟨0,1⟩,25⟩],l⟩
def exL:Farm:=exF [⟨1,3,2⟩]
def exW:Farm:=exF [⟨1,3,2⟩,⟨0,1,3⟩]
theorem x1:qR (exF []) 1 4=(⟨3,6⟩,0):=by decide +kernel
theorem x2:qR exL 1 4=(⟨4,5⟩,0):=by decide +kernel
theorem x3:DE (exF []) 0 4=(1,0):=by decide +kernel
theorem x4:DE (exF []) 0 3=(2,0):=by decide +kernel
theorem x5:xW (exF []) 0=([4],[4,5],0):=by decide +kernel
theorem x6:uS (exF []) 0=(4,0):=by decide +kernel
theorem x7:mF (exF []) 4 50=([0,1],[1],0):=by decide +kernel
theorem x8:mF (exF []) 4 80=([],[],9):=by decide +kernel
theorem x9:pD exL 1=(⟨0,0⟩,0):=by decide +kernel
theorem x10:kM exL 1=([1],0):=by decide +kernel
theorem x11:AJ exW=([1],0):=by decide +kernel
theorem x12:uS exW 0=(0,8):=by decide +kernel
end Go.Am.Room.Fa
namespace Go.Am.Room
def pI(sz:Nat)(σ:St)(xs:List AV):AV×St:=if xs.length=0 then (.lit [] true none,σ) else (.lit xs false (some σ.length),σ++[.tok sz xs.length true])
theorem GQ{sz b:Nat}{σ:St}{xs:List AV}{f:Bool}{tk:Option Nat}(h:HY sz b [] xs):bW sz b σ (.lit [] true none) (.lit xs f tk)=some ((pI sz σ xs).1,(pI sz σ xs).2):=by
 by_cases h0:xs.length=0
 ·have:xs=[]:=List.length_eq_zero_iff.1 h0;subst this;rw[aBD];simp[pI]
 ·rw[K7 h h0];simp[pI,h0]
theorem xZ{sz b:Nat}{σ:St}{xs ys:List AV}{f:Bool}{tk:Option Nat}(h:HY sz b xs ys)(hy:ys.length≠0):bW sz b (pI sz σ xs).2 (pI sz σ xs).1 (.lit ys f tk)=some (.lit (xs++ys) false (some σ.length),σ++[.tok sz (xs.length+ys.length) true]):=by
 by_cases h0:xs.length=0
 ·have:xs=[]:=List.length_eq_zero_iff.1 h0;subst this;simp only[pI,List.length_nil,if_true];rw[K7 h hy];simp
 ·simp only[pI,h0,if_false];rw[v8 (ex:=true) h hy (by simp)];simp
theorem yZ{σ:St}{sz b:Nat}{xs ys:List AV}{ex f:Bool}{t:Nat}{tk:Option Nat}(h:HY sz b xs ys)(h0:ys.length≠0)(n:Nat)(hn:n=xs.length)(ht:σ[t]? = some (.tok sz n ex)):
  bW sz b σ (.lit xs false (some t)) (.lit ys f tk)=some (.lit (xs++ys) false (some t),σ.set t (.tok sz (n+ys.length) true)):=by
 subst hn;exact v8 h h0 ht
theorem wR{xs l:List AV}{f:Bool}{t:Option Nat}(h:aI 1 xs=true):aI 1 (xs++[.lit l f t])=true:=by
 unfold aI at *;rw[List.all_append,h];rfl
theorem eJ(m:Nat):∀ (σ a b c:St),EqS m (σ++a) (σ++b) (σ++c)=EqS m a b c
 |[],a,b,c=>rfl
 |x::σ,a,b,c=>by simp only[List.cons_append,EqS,eJ m σ a b c,true_or,true_and,and_self]
theorem aQO(a:Nat)(h:a<9223372036854775808):Go.Am.bits .and .i64 (a:Int) 1=((a%2:Nat):Int):=by
 have e1:(BitVec.ofInt 64 (a:Int) &&& BitVec.ofInt 64 1).toNat=a%2:=by
  rw[BitVec.toNat_and];have h1:(BitVec.ofInt 64 (a:Int)).toNat=a:=by
   rw[BitVec.toNat_ofInt];omega
  have h2:(BitVec.ofInt 64 1).toNat=1:=by decide
  rw[h1,h2,Nat.and_one_is_mod]
 show IntKind.i64.wrap (((BitVec.ofInt 64 (a:Int) &&& BitVec.ofInt 64 1).toNat:Nat):Int)=_
 rw[e1];exact bL ⟨by omega,by omega⟩
theorem GA(a:Nat)(h:a<9223372036854775808):cY .and (.int .i64 (a:Int)) (.int .i64 1)=some (.int .i64 ((a%2:Nat):Int)):=by
 simp[cY,fF,aQO a h]
theorem OR(a i:Nat)(h:i<=60):cY .shr (.int .i64 (a:Int)) (.int .i64 (i:Int))=some (.int .i64 ((a/2^i:Nat):Int)):=by
 have hm:Nat.min i 64=i:=Nat.min_eq_left (by omega);have h0:¬(i:Int)<0:=by omega
 simp only[cY,h0,if_false,IntKind.bits,Int.toNat_natCast,hm,Option.some.injEq,AV.int.injEq,true_and];rw[Int.fdiv_eq_ediv_of_nonneg _ (Int.pow_nonneg (by omega))];norm_cast
theorem jZ(m:Nat)(σ b c:St):EqS m σ (σ++b) (σ++c)=EqS m [] b c:=by have:=eJ m σ [] b c;rwa [List.append_nil] at this
def AA(T:FuncId->Option AFunc)(f:AV)(args:List AV)(σ:St)(v:AV)(σ':St):Prop:=Run T (.callv f args σ) fun o=>o.v=v/\o.σ=σ'
theorem jH{f:AV}{args:List AV}{v:AV}{σ σ':St}{K:AV->St->Prop}(h:AA T f args σ v σ')(k:K v σ'):cK (K:=⟨K⟩) T f args σ:=.mono h fun o ho=>by rw[ho.1,ho.2];exact k
theorem iC{f:AV}{args:List AV}{v:AV}{σ σ':St}{K:AV->St->Prop}(h:AA T f args σ v σ')(k:K v σ'):cD (K:=⟨K⟩) T f args σ:=⟨v,σ',h,k⟩
theorem tQ(i:Nat):cG 1 (.yield i)=true:=by simp[cG,AV.cells,AV.cell]
theorem t9(i:Nat):(AV.yield i).cells=[.yield i]:=by simp[AV.cells]
theorem K4{f:AOpd}{g:FuncId}{first cap:List AV}{ps:List Nat}{a b:ACode}{e:Env}{σ:St}{K:KJ}{R:Out->Prop}(hf:f.ev e = .func g first cap)(h:Run T (.call g (first++[.yield σ.length]++cap) (σ++[.loop .ready none e ps a b])) R)(h1:∀ o,R o->∃ st pend env' ps' a' b',o.σ[σ.length]? = some (.loop st pend env' ps' a' b')/\st≠.busy/\K pend e (o.σ.set σ.length .dead)):rK (K:=⟨K⟩) T (.rangeFunc f ps a b) e σ:=.rangeFunc hf h h1
theorem nZ{σ:St}{l:List Int}{a:Int}{ex:Bool}{t:Nat}(hn:l.length<100)(ht:σ[t]? = some (.tok 1 l.length ex)):bW 1 8 σ (.lit (l.map (.int .i64)) false (some t)) (.lit [.int .i64 a] true none)=some (.lit ((l++[a]).map (.int .i64)) false (some t),σ.set t (.tok 1 (l.length+1) true)):=by
 rw[v8 (ex:=ex) ⟨vP 1 _ l (fun x=>UY _ _),by simp[aI,AV.cells,AV.cell],by simp[room];omega,by simp[room];omega⟩ (by simp) (by simpa using ht)];simp
theorem sV{vs:List AV}(h:lM vs)(m:Nat):okVs m vs:=okVs_up _ h.1
theorem AX{v:AV}(h:jB v)(m:Nat):okV m v:=(sV (aV h bA) m).1
theorem w5{σ:St}{i:Nat}{cs:List AV}(h:aM σ i=some cs):i<σ.length:=by
 unfold aM at h;by_cases hi:i<σ.length
 ·exact hi
 ·rw[List.getElem?_eq_none (by omega)] at h;cases h
theorem pR{σ:St}{i:Nat}{cs:List AV}(h:aM σ i=some cs)(τ:St):aM (σ++τ) i=some cs:=by
 have hl:=w5 h;simp only[aM] at h ⊢;rw[List.getElem?_append_left hl];exact h
end Go.Am.Room
namespace Go.Am.Room
structure MemAt {M:Type} (S:M->St) (obj:List AV) (es:M->List (AV×AV)) (p m N:Nat):Prop where
 len:∀ M,(S M).length=N
 at0:∀ M,aM (S M) p=some obj
 map0:∀ M,(S M)[m]? = some (.map (es M))
 mset:∀ M M',(S M).set m (.map (es M'))=S M'
 ok:∀ M k,aY k (.map (es M))
 pl:p<N
 ml:m<N
namespace MemAt
variable {M:Type} {S:M->St} {obj:List AV} {es:M->List (AV×AV)} {p m N:Nat}
theorem base(h:MemAt S obj es p m N)(A:M)(τ:St)(k:Nat):aM (S A++τ) (N+k)=aM τ k:=by rw[<-h.len A];exact lW _ _ _
theorem base0(h:MemAt S obj es p m N)(A:M)(τ:St):aM (S A++τ) N=aM τ 0:=h.base A τ 0
theorem bset(h:MemAt S obj es p m N)(A:M)(τ:St)(k:Nat)(x:ABlk):(S A++τ).set (N+k) x=S A++τ.set k x:=by rw[<-h.len A];exact pA _ _ _ _
theorem bset0(h:MemAt S obj es p m N)(A:M)(τ:St)(x:ABlk):(S A++τ).set N x=S A++τ.set 0 x:=h.bset A τ 0 x
theorem at1(h:MemAt S obj es p m N)(A:M)(τ:St):aM (S A++τ) p=some (obj):=by
 have:=h.at0 A;have hl:=h.pl;rw[<-h.len A] at hl;simp only[aM] at this ⊢;rw[List.getElem?_append_left hl];exact this
theorem map1(h:MemAt S obj es p m N)(A:M)(τ:St):(S A++τ)[m]? = some (.map (es A)):=by
 have hl:=h.ml;rw[<-h.len A] at hl;rw[List.getElem?_append_left hl];exact h.map0 A
theorem mset1(h:MemAt S obj es p m N)(A B:M)(τ:St):(S A++τ).set m (.map (es B))=S B++τ:=by
 have hl:=h.ml;rw[<-h.len A] at hl;rw[List.set_append_left _ _ hl,h.mset]
theorem keep(h:MemAt S obj es p m N)(A B:M)(i:Nat)(hi:i≠m):(S B)[i]? = (S A)[i]?:=by
 rw[<-h.mset A B,List.getElem?_set_ne (fun e=>hi e.symm)]
theorem kept(h:MemAt S obj es p m N){A B:M}{σ τ:St}(hσ:σ=S B++τ):∀ i,i<(S A).length->qD (S A) σ (S A).length i:=by
 intro i hi;rw[hσ];have hl:i<(S B).length:=by rw[h.len] at hi ⊢;exact hi
 by_cases him:i=m
 ·subst him;refine .inr (.inl ⟨.map (es B),?_,h.ok B _⟩);rw[List.getElem?_append_left hl,h.map0]
 ·refine .inl ?_;rw[List.getElem?_append_left hl,h.keep A B i him]
theorem app(h:MemAt S obj es p m N)(τ:St):MemAt (fun A=>S A++τ) obj es p m (N+τ.length) :=
 ⟨fun A=>by rw[List.length_append,h.len],fun A=>h.at1 A τ,fun A=>h.map1 A τ,fun A B=>h.mset1 A B τ,h.ok,by have:=h.pl;omega,by have:=h.ml;omega⟩
end MemAt
theorem E7{M:Type}{S:M->St}{obj:List AV}{es:M->List (AV×AV)}{p m N:Nat}(hR:MemAt S obj es p m N){f:FuncId}{first cap args:List AV}{af:AFunc}{v:AV}{A B:M}(hf:T f=some af)(hn:(first++args++cap).length<=af.ntmps)(h:wp T af.body (dW 0 (first++args++cap)) (S A) (fun j e σ1=>(j=none\/j=some .ret)/\∃ v0 τ,gD af.results e σ1=some v0/\σ1=S B++τ/\b8 σ1 N 20 v0=some v)):AA T (.func f first cap) args (S A) v (S B):=by
 refine .callf (.call hf hn (eP h fun o ho=>ho) fun o ho=>?_);obtain⟨hj,v0,τ,hres,hσ,h4⟩:=ho;refine⟨hj,v0,hres,?_⟩;unfold b8 at h4;cases hs:snap o.σ N 20 v0 with
 |none=>rw[hs] at h4;cases h4
 |some v1 =>
  rw[hs] at h4;simp at h4;refine .inr ⟨20,v1,v,by rw[hR.len];exact hs,.inr h4.symm,hR.kept hσ,?_,rfl,?_⟩
  ·rw[hσ,List.length_append,hR.len,hR.len];omega
  ·rw[hσ,hR.len,<-hR.len B,List.take_left]
def bK{A X:Type}(f:A->X->X×Bool):List A->X->X×Bool
 |[],x=>(x,true)
 |a::az,x=>if (f a x).2=true then bK f az (f a x).1 else ((f a x).1,false)
theorem yC{A X:Type}(f:A->X->X×Bool):∀ (az bs:List A) (x:X),bK f (az++bs) x=if (bK f az x).2=true then bK f bs (bK f az x).1 else ((bK f az x).1,false)
 |[],bs,x=>by simp[bK]
 |a::az,bs,x=>by
  simp only[List.cons_append,bK];split
  ·exact yC f az bs _
  ·simp
structure Fam {X:Type} (Z ZD:X->St) (obj:List AV) (p q N:Nat):Prop where
 len:∀ x,(Z x).length=N
 lenD:∀ x,(ZD x).length=N
 at0:∀ x,aM (Z x) p=some obj
 atq0:∀ x,aM (Z x) q=some [.ptr p 0]
 keep:∀ x y k i,N<=k->i<N->qD (Z x) (Z y) k i
 keepD:∀ x y k i,N<=k->i<N->qD (Z x) (ZD y) k i
 pl:p<N
 ql:q<N
namespace Fam
variable {X:Type} {Z ZD:X->St} {obj:List AV} {p q N:Nat}
theorem base(h:Fam Z ZD obj p q N)(x:X)(τ:St)(k:Nat):aM (Z x++τ) (N+k)=aM τ k:=by rw[<-h.len x];exact lW _ _ _
theorem base0(h:Fam Z ZD obj p q N)(x:X)(τ:St):aM (Z x++τ) N=aM τ 0:=h.base x τ 0
theorem bset(h:Fam Z ZD obj p q N)(x:X)(τ:St)(k:Nat)(y:ABlk):(Z x++τ).set (N+k) y=Z x++τ.set k y:=by rw[<-h.len x];exact pA _ _ _ _
theorem bset0(h:Fam Z ZD obj p q N)(x:X)(τ:St)(y:ABlk):(Z x++τ).set N y=Z x++τ.set 0 y:=h.bset x τ 0 y
theorem at1(h:Fam Z ZD obj p q N)(x:X)(τ:St):aM (Z x++τ) p=some obj:=by
 have:=h.at0 x;have hl:=h.pl;rw[<-h.len x] at hl;simp only[aM] at this ⊢;rw[List.getElem?_append_left hl];exact this
def out(Z ZD:X->St)(r:X×Bool):St:=if r.2=true then Z r.1 else ZD r.1
end Fam
theorem D7{A X:Type}(f:A->X->X×Bool)(a:A)(x:X):bK f [a] x=f a x:=by
 simp only[bK];obtain⟨y,bb⟩:=f a x;cases bb<;>simp
namespace Fam1
variable {X:Type} {M:Type} {Z ZD:X->M->St} {obj:List AV} {es:M->List (AV×AV)} {p m q N:Nat}
def out(Z ZD:X->M->St)(r:X×Bool)(A:M):St:=if r.2=true then Z r.1 A else ZD r.1 A
end Fam1
theorem KU{A X:Type}{f:A->X->X×Bool}(h:∀ a x,(f a x).2=true):∀ (l:List A) (x:X),bK f l x=(l.foldl (fun x a=>(f a x).1) x,true)
 |[],x=>rfl
 |a::az,x=>by simp only[bK,h,if_true,List.foldl_cons];exact KU h az _
end Go.Am.Room
namespace Go.Am.Room
def jD(f:Nat->Int)(i:Nat)(v:Int):Nat->Int:=fun j=>if j=i then v else f j
def bP(n:Nat)(f:Nat->Int):List AV:=(List.range n).map fun i=>.int .i64 (f i)
theorem eM(n:Nat)(f:Nat->Int):(bP n f).length=n:=by simp[bP]
theorem iP(n:Nat)(f:Nat->Int){i:Nat}(h:i<n):(bP n f)[i]? = some (.int .i64 (f i)):=by simp[bP,h]
theorem NO{n:Nat}{f g:Nat->Int}(h:∀ i,i<n->f i=g i):bP n f=bP n g:=by
 refine List.map_congr_left fun i hi=>?_
 rw[h i (by simpa using hi)]
theorem wJ(n:Nat)(f:Nat->Int)(v:Int){i:Nat}(h:i<n):(bP n f).take i++[AV.int .i64 v]++(bP n f).drop (i+1)=bP n (jD f i v):=by
 have h1:(bP n f).take i++[AV.int .i64 v]++(bP n f).drop (i+1)=(bP n f).set i (.int .i64 v):=by
  rw[List.set_eq_take_append_cons_drop,if_pos (by rw[eM];exact h)];simp
 rw[h1];refine List.ext_getElem? fun j=>?_
 by_cases hj:j<n
 ·rw[iP n _ hj,List.getElem?_set];by_cases e:i=j
  ·subst e;simp[eM,hj,jD]
  ·rw[if_neg e,iP n _ hj];simp[jD,show ¬j=i from fun q=>e q.symm]
 ·rw[List.getElem?_eq_none (by rw[List.length_set,eM];omega),List.getElem?_eq_none (by rw[eM];omega)]
theorem mZ(n:Nat)(f:Nat->Int):lM (bP n f):=cL (enc:=fun i:Nat=>AV.int .i64 (f i)) (fun i=>cF _ _) (List.range n)
instance (n:Nat) (f:Nat->Int):Dats (bP n f):=⟨mZ n f⟩
theorem n6(n:Nat)(f:Nat->Int)(m:Nat):okVs m (bP n f):=sV (mZ n f) m
theorem lV(n:Nat)(f:Nat->Int)(σ:St)(m d:Nat):bZ σ m d (bP n f)=some (bP n f):=i8 (mZ n f) σ m d
theorem fT(n:Nat)(f:Nat->Int):bI (bP n f)=true:=aE2 _ _ fun i=>by simp[AV.cell]
theorem fV(n:Nat)(f:Nat->Int):(bP n f).take n=bP n f:=List.take_of_length_le (by rw[eM];exact Nat.le_refl n)
theorem fU(n:Nat)(f:Nat->Int):(bP n f).drop n=[]:=List.drop_eq_nil_of_le (by rw[eM];exact Nat.le_refl n)
theorem SN(n:Nat):bP n (fun _=>0)=List.replicate n (.int .i64 0):=by simp[bP,List.map_const']
theorem I3(f g:Nat->Int):∀ l:List Nat,bF (List.replicate l.length .i) (l.map fun i=>.int .i64 (f i)) (l.map fun i=>.int .i64 (g i))=some (l.all fun i=>f i==g i)
 |[]=>rfl
 |x::l=>by
  simp only[List.length_cons,List.replicate_succ,List.map_cons,MN,U6,I3 f g l,MO,List.all_cons]
theorem HA(n:Nat)(f g:Nat->Int):bF (List.replicate n .i) (bP n f) (bP n g)=some ((List.range n).all fun i=>f i==g i):=by
 have:=I3 f g (List.range n)
 rwa [List.length_range] at this
theorem O3(n sz:Nat)(sh:Option Nat)(cs:List AV)(k:IntKind)(j:Int):GJ n sz sh (.agg cs) (.int k j)=if 0<=j/\j<n then dQ sh cs (j.toNat*sz) else none:=by simp only[GJ,eQ]
section
variable {K:Type} [DecidableEq K]
def nO(M:List K)(w:K):List K:=if w∈M then M else M++[w]
structure KeyIs (sh:EqTy) (enc val:K->AV):Prop where
 eq:∀ w x,iG sh (enc w) (enc x)=some (decide (w=x))
 dk:∀ w,jB (enc w)
 dv:∀ w,jB (val w)
variable {sh:EqTy} {enc val:K->AV}
def rG(enc val:K->AV)(M:List K):List (AV×AV):=M.map fun w=>(enc w,val w)
theorem OP(h:KeyIs sh enc val)(w:K):∀ M:List K,findKey sh (enc w) (rG enc val M)=some (if w∈M then some (val w) else none)
 |[]=>by simp[rG,findKey]
 |x::M=>by
  have ih:=OP h w M;simp only[rG,List.map_cons,findKey,h.eq] at ih ⊢;by_cases e:w=x
  ·subst e;simp
  ·simp only[e,decide_false,ih,List.mem_cons,false_or]
theorem UM(h:KeyIs sh enc val)(w:K):∀ M:List K,w∉M->kW sh (enc w) (val w) (rG enc val M)=some (rG enc val (M++[w]))
 |[],_=>by simp[rG,kW]
 |x::M,hn=>by
  have ih:=UM h w M (fun q=>hn (List.mem_cons_of_mem _ q));have hx:w≠x:=fun e=>hn (by rw[e];simp)
  simp only[rG,List.map_cons,kW,h.eq,List.cons_append] at ih ⊢;simp only[hx,decide_false,ih,Option.map_some]
theorem aHG(h:KeyIs sh enc val)(M:List K)(k:Nat):aY k (.map (rG enc val M)):=by
 simp only[aY,rG];intro q hq;obtain⟨w,hw,rfl⟩:=List.mem_map.1 hq;exact⟨AX (h.dk w) k,AX (h.dv w) k⟩
variable {S:List K->St} {obj:List AV} {p m N:Nat}
theorem aBZ(hk:KeyIs sh enc val)(h:MemAt S obj (rG enc val) p m N)(M:List K)(τ:St)(w:K):vW sh (S M++τ) (.map m) (enc w)=some (if w∈M then some (val w) else none):=by
 simp only[vW,h.map1,OP hk,hk.eq];simp
theorem aGI(hk:KeyIs sh enc val)(h:MemAt S obj (rG enc val) p m N)(M:List K)(τ:St)(w:K)(hw:w∉M):qE sh (S M++τ) (.map m) (enc w) (val w)=some (S (M++[w])++τ):=by
 simp only[qE,hk.eq,h.map1,UM hk w M hw,Option.map_some,h.mset1];simp
end
end Go.Am.Room
namespace Go.Am.Room.Ha
structure Gd where
 name:ByteArray
 hands:Int
 scars:Int
structure Bn where
 hands:Span
 scars:Span
structure Ct where
 bunches:Int
 hands:Int
structure HLot where
 grades:List Gd
 bunches:List Bn
 counts:List Ct
def encGd(x:Gd):AV:=.agg [.str x.name,.int .i64 x.hands,.int .i64 x.scars]
theorem encGd_eq(x:Gd):encGd x = .agg [.str x.name,.int .i64 x.hands,.int .i64 x.scars]:=by simp only[encGd]
theorem v6(x:Gd):jB (encGd x):=gL (aV (sS _) (aV (cF _ _) (aV (cF _ _) bA)))
instance (x:Gd):Dat (encGd x):=⟨v6 x⟩
def encBn(x:Bn):AV:=.agg [.int .i64 x.hands.lo,.int .i64 x.hands.hi,.int .i64 x.scars.lo,.int .i64 x.scars.hi]
theorem encBn_eq(x:Bn):encBn x = .agg [.int .i64 x.hands.lo,.int .i64 x.hands.hi,.int .i64 x.scars.lo,.int .i64 x.scars.hi]:=by simp only[encBn]
theorem v7(x:Bn):jB (encBn x):=gL (aV (cF _ _) (aV (cF _ _) (aV (cF _ _) (aV (cF _ _) bA))))
instance (x:Bn):Dat (encBn x):=⟨v7 x⟩
def encCt(x:Ct):AV:=.agg [.int .i64 x.bunches,.int .i64 x.hands]
theorem encCt_eq(x:Ct):encCt x = .agg [.int .i64 x.bunches,.int .i64 x.hands]:=by simp only[encCt]
theorem wN(x:Ct):jB (encCt x):=gL (aV (cF _ _) (aV (cF _ _) bA))
instance (x:Ct):Dat (encCt x):=⟨wN x⟩
instance (l:List Gd):Dats (l.map encGd):=⟨cL v6 l⟩
instance (l:List Bn):Dats (l.map encBn):=⟨cL v7 l⟩
instance (l:List Ct):Dats (l.map encCt):=⟨cL wN l⟩
theorem S_mapGd(σ:St)(m d:Nat)(l:List Gd):bZ σ m d (l.map encGd)=some (l.map encGd):=i8 (cL v6 l) σ m d
theorem S_mapBn(σ:St)(m d:Nat)(l:List Bn):bZ σ m d (l.map encBn)=some (l.map encBn):=i8 (cL v7 l) σ m d
theorem S_mapCt(σ:St)(m d:Nat)(l:List Ct):bZ σ m d (l.map encCt)=some (l.map encCt):=i8 (cL wN l) σ m d
def lotCells(l:HLot):List AV:=[.lit (l.grades.map encGd) false none,.lit (l.bunches.map encBn) false none,.lit (l.counts.map encCt) false none]
theorem lotCells_eq(l:HLot):lotCells l=[.lit (l.grades.map encGd) false none,.lit (l.bunches.map encBn) false none,.lit (l.counts.map encCt) false none]:=by simp only[lotCells]
def encHLot(l:HLot):AV:=.agg (lotCells l)
theorem encHLot_eq(l:HLot):encHLot l = .agg (lotCells l):=by simp only[encHLot]
theorem data_hlot(l:HLot):jB (encHLot l):=gL (aV (dV v6 _) (aV (dV v7 _) (aV (dV wN _) bA)))
instance (l:HLot):Dat (encHLot l):=⟨data_hlot l⟩
structure Fits (l:HLot):Prop where
 grades:l.grades.length<9223372036854775808
 bunches:l.bunches.length<9223372036854775808
 counts:l.counts.length<9223372036854775808
 names:∀ g∈l.grades,g.name.size<9223372036854775808
def gdH(l:HLot)(i:Nat):Int:=match l.grades[i]? with|some g=>g.hands|none=>0
def gdS(l:HLot)(i:Nat):Int:=match l.grades[i]? with|some g=>g.scars|none=>0
def oO(l:HLot)(i:Nat):Int:=if inR (gdH l i) 1 12=false\/inR (gdS l i) 0 9=false then 7 else if 0<i/\(gdH l (i-1)<=gdH l i\/gdS l i<gdS l (i-1)) then 2 else 0
def FM(l:HLot)(i:Nat)(g:Gd):Int:=if fresh g.name ((l.grades.take i).map Gd.name)=0 then oO l i else fresh g.name ((l.grades.take i).map Gd.name)
def n8(_:Nat)(b:Bn):Int:=if eH b.hands 1 12=7\/eH b.scars 0 9=7 then 7 else if eH b.hands 1 12≠0\/eH b.scars 0 9≠0\/3<b.hands.hi-b.hands.lo then 2 else 0
def FO(l:HLot)(_:Nat)(c:Ct):Int:=if inR c.bunches 1 ((2^l.bunches.length-1:Nat):Int)=false then 4 else if inR c.hands 0 72=true then 0 else 7
def gU(l:HLot):Int×Int×Int:=if 4<l.counts.length then (3,0,3) else match aS (FO l) l.counts 0 with|some (i,e)=>(3,i,e)|none=>(0,0,0)
def fH(l:HLot):Int×Int×Int:=if 6<l.bunches.length then (2,0,3) else match aS n8 l.bunches 0 with|some (i,e)=>(2,i,e)|none=>gU l
def check(l:HLot):Int×Int×Int:=if inR l.grades.length 1 4=false then (1,0,3) else match aS (FM l) l.grades 0 with|some (i,e)=>(1,i,e)|none=>fH l
def enc3(x:Int×Int×Int):AV:=.tuple [.int .i64 x.1,.int .i64 x.2.1,.int .i64 x.2.2]
def gF(g:List Int)(i:Nat):Int:=(g[i]?).getD 0
def m6(l:HLot)(i:Nat):List Int:=match l.bunches[i]? with|some b=>aW b.hands.lo (b.hands.hi+1-b.hands.lo).toNat|none=>[]
def fI(l:HLot):Nat->List (List Int)
 |0=>[[]]
 |n+1=>(fI l n).flatMap fun p=>(m6 l n).map fun x=>p++[x]
def iO(l:HLot):List (List Int):=fI l l.bunches.length
def dF(bits:Nat)(h:Nat->Int):Nat->Int
 |0=>0
 |n+1=>if AB bits n=true then dF bits h n+h n else dF bits h n
def wI(h:List Int)(c:Ct):Bool:=dF c.bunches.toNat (gF h) h.length==c.hands
def uH(l:HLot)(h:List Int):Bool:=l.counts.all (wI h)
def waysOf(l:HLot):List (List Int):=(iO l).filter (uH l)
end Go.Am.Room.Ha
namespace Go.Am.Room.Fa
open Go
variable {P:Program}
structure TysH (P:Program):Prop where
 int:P.underlying 3=some (.int .i64)
 u8:P.underlying 5=some (.int .u8)
 str:P.underlying 9=some .string
 rain:P.underlying 22=some (.slice 24)
 span:iS P 24 [3,3]
 plots:P.underlying 25=some (.slice 71)
 looks:P.underlying 26=some (.slice 175)
 farm:iS P 28 [22,3,3,24,25,26]
 grades:P.underlying 59=some (.slice 220)
 bunches:P.underlying 60=some (.slice 224)
 counts:P.underlying 61=some (.slice 226)
 lot:iS P 63 [59,60,61]
 u16:P.underlying 64=some (.int .u16)
 cut:iS P 66 [5,64,64]
 plot:iS P 71 [9,24,3]
 look:iS P 175 [3,3,3]
 grade:iS P 220 [9,3,3]
 bunch:iS P 224 [24,24]
 count:iS P 226 [3,3]
theorem XF{x:Int}(h:(Lit.int .u16 x).wf=true):0<=x/\x<65536:=by
 simp[Lit.wf,IntKind.min,IntKind.max,IntKind.signed,IntKind.bits] at h;omega
theorem Z9{n:Nat}{cs:List AV}(T:TysH P)(h:Typ P (n+3) 71 cs):∃ s:Plot,mkV P 71 cs=bY s/\s.name.size<9223372036854775808:=by
 obtain⟨e,a,b,rfl,h1,c,d,rfl,h2,c2,d2,rfl,h3,rfl⟩:=oS T.plot h;obtain⟨x,rfl,hx⟩:=PG T.str h1;obtain⟨y,rfl⟩:=AL T.int T.span h2;obtain⟨z,rfl,_⟩:=fX T.int h3;exact⟨⟨x,y,z⟩,e,by simp only[maxLen] at hx;simp only;omega⟩
theorem YP{n:Nat}{cs:List AV}(T:TysH P)(h:Typ P (n+2) 24 cs):∃ s:Span,mkV P 24 cs=cT s/\True:=by
 obtain⟨e,a,b,rfl,h1,c,d,rfl,h2,rfl⟩:=oS T.span h;obtain⟨x,rfl,_⟩:=fX T.int h1;obtain⟨y,rfl,_⟩:=fX T.int h2;exact⟨⟨x,y⟩,e,trivial⟩
theorem aBF{n:Nat}{cs:List AV}(T:TysH P)(h:Typ P (n+2) 175 cs):∃ s:Look,mkV P 175 cs=dP s/\True:=by
 obtain⟨e,a,b,rfl,h1,c,d,rfl,h2,c2,d2,rfl,h3,rfl⟩:=oS T.look h;obtain⟨x,rfl,_⟩:=fX T.int h1;obtain⟨y,rfl,_⟩:=fX T.int h2;obtain⟨z,rfl,_⟩:=fX T.int h3;exact⟨⟨x,y,z⟩,e,trivial⟩
theorem ty_farm{n:Nat}{cs:List AV}(T:TysH P)(h:Typ P (n+5) 28 cs):∃ s:Farm,mkV P 28 cs=encFarm s/\Fits s:=by
 obtain⟨e,a1,b1,rfl,h1,a2,b2,rfl,h2,a3,b3,rfl,h3,a4,b4,rfl,h4,a5,b5,rfl,h5,a6,b6,rfl,h6,rfl⟩:=oS T.farm h;obtain⟨x1,rfl,⟨l1,_⟩,_⟩:=mU T.rain h1 fun y hy=>YP T hy
 obtain⟨x2,rfl,_⟩:=fX T.int h2;obtain⟨x3,rfl,_⟩:=fX T.int h3;obtain⟨x4,rfl⟩:=AL T.int T.span h4;obtain⟨x5,rfl,⟨l5,_⟩,q5⟩:=mU T.plots h5 fun y hy=>Z9 T hy
 obtain⟨x6,rfl,⟨l6,_⟩,_⟩:=mU T.looks h6 fun y hy=>aBF T hy
 exact⟨⟨x1,x2,x3,x4,x5,x6⟩,e,⟨l1,l5,l6,q5⟩⟩
theorem U9{n:Nat}{cs:List AV}(T:TysH P)(h:Typ P (n+3) 220 cs):∃ s:Ha.Gd,mkV P 220 cs=Ha.encGd s/\s.name.size<9223372036854775808:=by
 obtain⟨e,a,b,rfl,h1,c,d,rfl,h2,c2,d2,rfl,h3,rfl⟩:=oS T.grade h;obtain⟨x,rfl,hx⟩:=PG T.str h1;obtain⟨y,rfl,_⟩:=fX T.int h2;obtain⟨z,rfl,_⟩:=fX T.int h3;exact⟨⟨x,y,z⟩,e,by simp only[maxLen] at hx;simp only;omega⟩
theorem XT{n:Nat}{cs:List AV}(T:TysH P)(h:Typ P (n+3) 224 cs):∃ s:Ha.Bn,mkV P 224 cs=Ha.encBn s/\True:=by
 obtain⟨e,a,b,rfl,h1,c,d,rfl,h2,rfl⟩:=oS T.bunch h;obtain⟨x,rfl⟩:=AL T.int T.span h1;obtain⟨y,rfl⟩:=AL T.int T.span h2;exact⟨⟨x,y⟩,e,trivial⟩
theorem WT{n:Nat}{cs:List AV}(T:TysH P)(h:Typ P (n+2) 226 cs):∃ s:Ha.Ct,mkV P 226 cs=Ha.encCt s/\True:=by
 obtain⟨e,a,b,rfl,h1,c,d,rfl,h2,rfl⟩:=oS T.count h;obtain⟨x,rfl,_⟩:=fX T.int h1;obtain⟨y,rfl,_⟩:=fX T.int h2;exact⟨⟨x,y⟩,e,trivial⟩
theorem ty_lot{n:Nat}{cs:List AV}(T:TysH P)(h:Typ P (n+5) 63 cs):∃ s:Ha.HLot,mkV P 63 cs=Ha.encHLot s/\Ha.Fits s:=by
 obtain⟨e,a1,b1,rfl,h1,a2,b2,rfl,h2,a3,b3,rfl,h3,rfl⟩:=oS T.lot h;obtain⟨x1,rfl,⟨l1,_⟩,q1⟩:=mU T.grades h1 fun y hy=>U9 T hy
 obtain⟨x2,rfl,⟨l2,_⟩,_⟩:=mU T.bunches h2 fun y hy=>XT T hy
 obtain⟨x3,rfl,⟨l3,_⟩,_⟩:=mU T.counts h3 fun y hy=>WT T hy
 exact⟨⟨x1,x2,x3⟩,e,⟨l1,l2,l3,q1⟩⟩
theorem ty_cut{n:Nat}{cs:List AV}(T:TysH P)(h:Typ P (n+2) 66 cs):∃ x y z:Nat,mkV P 66 cs = .agg [.int .u8 x,.int .u16 y,.int .u16 z]/\x<256/\y<65536/\z<65536:=by
 obtain⟨e,a,b,rfl,h1,c,d,rfl,h2,c2,d2,rfl,h3,rfl⟩:=oS T.cut h;obtain⟨x,rfl,hx⟩:=fX T.u8 h1;obtain⟨y,rfl,hy⟩:=fX T.u16 h2;obtain⟨z,rfl,hz⟩:=fX T.u16 h3;have b1:=aMJ hx;have b2:=XF hy;have b3:=XF hz;obtain⟨a,rfl⟩:∃ a:Nat,x=a:=⟨x.toNat,by omega⟩;obtain⟨b,rfl⟩:∃ b:Nat,y=b:=⟨y.toNat,by omega⟩;obtain⟨c,rfl⟩:∃ c:Nat,z=c:=⟨z.toNat,by omega⟩;exact⟨a,b,c,e,by omega,by omega,by omega⟩
end Go.Am.Room.Fa
namespace Go.Am.Room.Ha
theorem DG{l:HLot}{i:Nat}(h:i<l.grades.length):gdH l i=l.grades[i].hands:=by simp[gdH,h]
theorem BI{l:HLot}{i:Nat}(h:i<l.grades.length):gdS l i=l.grades[i].scars:=by simp[gdS,h]
structure Vd (l:HLot):Prop where
 ngr:1<=l.grades.length/\l.grades.length<=4
 nbn:l.bunches.length<=6
 nct:l.counts.length<=4
 name:∀ i (h:i<l.grades.length),fresh l.grades[i].name ((l.grades.take i).map Gd.name)=0
 gr:∀ i,i<l.grades.length->(1<=gdH l i/\gdH l i<=12)/\0<=gdS l i/\gdS l i<=9
 asc:∀ i,i<l.grades.length->0<i->gdH l i<gdH l (i-1)/\gdS l (i-1)<=gdS l i
 bn:∀ b∈l.bunches,(1<=b.hands.lo/\b.hands.lo<=b.hands.hi/\b.hands.hi<=12)/\b.hands.hi-b.hands.lo<=3/\0<=b.scars.lo/\b.scars.lo<=b.scars.hi/\b.scars.hi<=9
 ct:∀ c∈l.counts,(1<=c.bunches/\c.bunches<=((2^l.bunches.length-1:Nat):Int))/\0<=c.hands/\c.hands<=72
theorem aJW{b:Bn}{k:Nat}(h:n8 k b=0):(1<=b.hands.lo/\b.hands.lo<=b.hands.hi/\b.hands.hi<=12)/\b.hands.hi-b.hands.lo<=3/\0<=b.scars.lo/\b.scars.lo<=b.scars.hi/\b.scars.hi<=9:=by
 unfold n8 at h;split at h
 ·omega
 ·split at h
  ·omega
  ·rename_i h1 h2;have a1:eH b.hands 1 12=0:=by omega
   have a2:eH b.scars 0 9=0:=by omega
   have b1:=mO a1;have b2:=mO a2;exact⟨b1,by omega,b2⟩
theorem vd_of_check{l:HLot}(h:(check l).2.2=0):Vd l:=by
 unfold check at h;split at h
 ·cases h
 rename_i h1;split at h
 ·rename_i i e he;exact absurd h (fJ he)
 rename_i g1;unfold fH at h;split at h
 ·cases h
 rename_i h2;split at h
 ·rename_i i e he;exact absurd h (fJ he)
 rename_i g2;unfold gU at h;split at h
 ·cases h
 rename_i h3;split at h
 ·rename_i i e he;exact absurd h (fJ he)
 rename_i g3;rw[Bool.not_eq_false,cH] at h1;have b1:∀ i (hi:i<l.grades.length),fresh l.grades[i].name ((l.grades.take i).map Gd.name)=0/\oO l i=0:=fun i hi=>by
  have:=lB g1 i hi;rw[Nat.zero_add] at this;unfold FM at this;split at this
  ·rename_i h4;exact⟨h4,this⟩
  ·rename_i h4;exact absurd this h4
 have b2:∀ i,i<l.grades.length->((1<=gdH l i/\gdH l i<=12)/\0<=gdS l i/\gdS l i<=9)/\(0<i->gdH l i<gdH l (i-1)/\gdS l (i-1)<=gdS l i):=fun i hi=>by
  have:=(b1 i hi).2;unfold oO at this;split at this
  ·omega
  ·rename_i h4;simp only[not_or,Bool.not_eq_false,cH] at h4;split at this
   ·omega
   ·refine⟨h4,fun hi0=>?_⟩;omega
 refine⟨by omega,by omega,by omega,fun i hi=>(b1 i hi).1,fun i hi=>(b2 i hi).1,fun i hi=>(b2 i hi).2,fun b hb=>?_,fun c hc=>?_⟩
 ·obtain⟨i,hi,rfl⟩:=List.getElem_of_mem hb;exact aJW (lB g2 i hi)
 ·obtain⟨i,hi,rfl⟩:=List.getElem_of_mem hc;have:=lB g3 i hi;unfold FO at this;split at this
  ·omega
  ·rename_i h4;rw[Bool.not_eq_false,cH] at h4;split at this
   ·rename_i h5;rw[cH] at h5;exact⟨h4,h5⟩
   ·omega
theorem EI{l:HLot}{n:Nat}(h:n<l.bunches.length):m6 l n=aW l.bunches[n].hands.lo (l.bunches[n].hands.hi+1-l.bunches[n].hands.lo).toNat:=by simp[m6,h]
theorem E4{l:HLot}(hv:Vd l)(n:Nat):(m6 l n).length<=4/\∀ x∈m6 l n,1<=x/\x<=12:=by
 unfold m6;split
 ·rename_i b hb;obtain⟨a1,a2,_⟩:=hv.bn b (List.mem_of_getElem? hb);rw[jR];refine⟨by omega,fun x hx=>?_⟩;rw[cX] at hx;omega
 ·simp
theorem qV{l:HLot}(hv:Vd l):∀ n,(fI l n).length<=4^n
 |0=>by simp[fI]
 |n+1=>by
  have h1:=qV hv n;have h2:=G7 (fun p:List Int=>(m6 l n).map fun x=>p++[x]) 4 (fI l n) fun p _=>by rw[List.length_map];exact (E4 hv n).1
  rw[Nat.pow_succ];exact Nat.le_trans h2 (Nat.mul_le_mul_right _ h1)
theorem uD{l:HLot}(hv:Vd l):∀ n,∀ p∈fI l n,p.length=n/\∀ x∈p,1<=x/\x<=12
 |0=>by simp[fI]
 |n+1=>by
  intro p hp;simp only[fI,List.mem_flatMap,List.mem_map] at hp;obtain⟨q,hq,x,hx,rfl⟩:=hp;obtain⟨h1,h2⟩:=uD hv n q hq;refine⟨by simp[h1],fun y hy=>?_⟩;rcases List.mem_append.1 hy with hy|hy
  ·exact h2 y hy
  ·have:y=x:=by simpa using hy
   subst this;exact (E4 hv n).2 y hx
theorem T3{n:Nat}(h:n<=6):4^n<=4096:=by
 calc 4^n<=4^6:=Nat.pow_le_pow_right (by omega) h
  _=4096:=by decide
theorem felt_len{l:HLot}(hv:Vd l):(iO l).length<=4096:=Nat.le_trans (qV hv _) (T3 hv.nbn)
theorem felt_in{l:HLot}(hv:Vd l){p:List Int}(hp:p∈iO l):p.length=l.bunches.length/\∀ x∈p,1<=x/\x<=12:=uD hv _ p hp
theorem aC0{n:Nat}(h:n<=6):2^n<=64:=by
 calc 2^n<=2^6:=Nat.pow_le_pow_right (by omega) h
  _=64:=by decide
theorem OD{l:HLot}(hv:Vd l){c:Ct}(hc:c∈l.counts):1<=c.bunches/\c.bunches<64:=by
 have:=(hv.ct c hc).1;have:=aC0 hv.nbn;omega
theorem yH{h:Nat->Int}(hh:∀ i,0<=h i/\h i<=12)(bits:Nat):∀ n,0<=dF bits h n/\dF bits h n<=12*n
 |0=>by simp[dF]
 |n+1=>by
  have:=yH hh bits n;have:=hh n;simp only[dF];split<;>omega
theorem gF_bd{p:List Int}(h:∀ x∈p,1<=x/\x<=12)(i:Nat):0<=gF p i/\gF p i<=12:=by
 unfold gF;cases e:p[i]? with
 |none=>simp
 |some x=>have:=h x (List.mem_of_getElem? e);simp only[Option.getD_some];omega
end Go.Am.Room.Ha
set_option maxRecDepth 4000
namespace Go.Am.Room.Ha
def aQ:=zz @encHLot_eq (zz @lotCells_eq (zz @encGd_eq (zz @encBn_eq (zz @encCt_eq (zz @aR (zz @S_mapGd (zz @S_mapBn (@S_mapCt))))))))
theorem B1(s:Span)(lo hi:Int):eH s lo hi=0\/eH s lo hi=2\/eH s lo hi=7:=by
 unfold eH;split
 ·exact .inr (.inr rfl)
 ·split
  ·exact .inr (.inl rfl)
  ·exact .inl rfl
theorem RE(x:Bn):cE T 101 [encBn x] (.int .i64 (n8 0 x)):=by
 refine aZ (af:=a101) rfl (by simp[a101]) dd ?_;have he:n8 0 x=if eH x.hands 1 12=7\/eH x.scars 0 9=7 then 7 else if eH x.hands 1 12≠0\/eH x.scars 0 9≠0\/3<x.hands.hi-x.hands.lo then 2 else 0:=rfl
 obtain⟨E,hE⟩:∃ E,n8 0 x=E:=⟨_,rfl⟩;rw[hE] at he ⊢;have e1:=qX x.hands 1 12;have e2:=qX x.scars 0 9;have c1:=B1 x.hands 1 12;have c2:=B1 x.scars 0 9;have z1:=fun h=>mO (s:=x.hands) (lo:=1) (hi:=12) h
 obtain⟨A,hA⟩:∃ A,eH x.hands 1 12=A:=⟨_,rfl⟩;obtain⟨B,hB⟩:∃ B,eH x.scars 0 9=B:=⟨_,rfl⟩;rw[hA] at e1 he c1 z1;rw[hB] at e2 he c2;simp only[aR] at e1 e2
 (repeat (first|simp only[↓QA,QB,seval,aQ,a101]|refine rd0 rfl ?_))
 ((first|refine aE (e1) rfl dd ?_|refine aN (e1) rfl dd ?_);(repeat (first|simp only[↓QA,QB,seval,aQ]|refine rd0 rfl ?_)))
 ((first|refine aE (e2) rfl dd ?_|refine aN (e2) rfl dd ?_);(repeat (first|simp only[↓QA,QB,seval,aQ]|refine rd0 rfl ?_)))
 rcases c1 with rfl|rfl|rfl
 ·have hz:=z1 rfl;have hw:IntKind.i64.wrap (x.hands.hi-x.hands.lo)=x.hands.hi-x.hands.lo:=bL ⟨by omega,by omega⟩;rcases c2 with rfl|rfl|rfl
  ·cases h3:decide (3<x.hands.hi-x.hands.lo)
   ·have h3':¬3<x.hands.hi-x.hands.lo:=by simpa using h3
    have:E=0:=by rw[he];simp[h3']
    subst this
    (repeat (first|simp only[↓QA,QB,seval,aQ,hw,h3,show ((0:Int)==7)=false from rfl,show ((0:Int)==0)=true from rfl]|refine rd0 rfl ?_))
   ·have h3':3<x.hands.hi-x.hands.lo:=by simpa using h3
    have:E=2:=by rw[he];simp[h3']
    subst this
    (repeat (first|simp only[↓QA,QB,seval,aQ,hw,h3,show ((0:Int)==7)=false from rfl,show ((0:Int)==0)=true from rfl]|refine rd0 rfl ?_))
  ·have:E=2:=by rw[he];simp
   subst this
   (repeat (first|simp only[↓QA,QB,seval,aQ,show ((0:Int)==7)=false from rfl,show ((0:Int)==0)=true from rfl,show ((2:Int)==7)=false from rfl,show ((2:Int)==0)=false from rfl]|refine rd0 rfl ?_))
  ·have:E=7:=by rw[he];simp
   subst this
   (repeat (first|simp only[↓QA,QB,seval,aQ,show ((0:Int)==7)=false from rfl,show ((7:Int)==7)=true from rfl]|refine rd0 rfl ?_))
 ·rcases c2 with rfl|rfl|rfl
  ·have:E=2:=by rw[he];simp
   subst this
   (repeat (first|simp only[↓QA,QB,seval,aQ,show ((0:Int)==7)=false from rfl,show ((2:Int)==7)=false from rfl,show ((2:Int)==0)=false from rfl]|refine rd0 rfl ?_))
  ·have:E=2:=by rw[he];simp
   subst this
   (repeat (first|simp only[↓QA,QB,seval,aQ,show ((2:Int)==7)=false from rfl,show ((2:Int)==0)=false from rfl]|refine rd0 rfl ?_))
  ·have:E=7:=by rw[he];simp
   subst this
   (repeat (first|simp only[↓QA,QB,seval,aQ,show ((2:Int)==7)=false from rfl,show ((7:Int)==7)=true from rfl]|refine rd0 rfl ?_))
 ·have:E=7:=by rw[he];simp
  subst this
  (repeat (first|simp only[↓QA,QB,seval,aQ,show ((7:Int)==7)=true from rfl]|refine rd0 rfl ?_))
theorem EY(l:HLot)(i:Nat)(hf:Fits l)(hi:i<l.grades.length):cE T 100 [encHLot l,.int .i64 i] (.int .i64 (oO l i)):=by
 refine aZ (af:=a100) rfl (by simp[a100]) dd ?_;have hfk:=hf.grades;have he:=DG hi;have he2:=BI hi;have hk:oO l i=if inR (gdH l i) 1 12=false\/inR (gdS l i) 0 9=false then 7 else if 0<i/\(gdH l (i-1)<=gdH l i\/gdS l i<gdS l (i-1)) then 2 else 0:=rfl
 obtain⟨E,hE⟩:∃ E,oO l i=E:=⟨_,rfl⟩;rw[hE] at hk ⊢;obtain⟨x,hx⟩:∃ x,l.grades[i]=x:=⟨_,rfl⟩;rw[hx] at he he2;rw[he,he2] at hk
 (repeat (first|simp only[↓QA,QB,seval,aQ,a100,hi,hx]|refine rd0 rfl ?_))
 ((first|refine aE (fK x.hands 1 12) rfl dd ?_|refine aN (fK x.hands 1 12) rfl dd ?_);(repeat (first|simp only[↓QA,QB,seval,aQ]|refine rd0 rfl ?_)))
 cases h1:inR x.hands 1 12
 ·rw[h1] at hk;simp only[true_or,if_true] at hk;subst hk
  (repeat (first|simp only[↓QA,QB,seval,aQ]|refine rd0 rfl ?_))
 ·rw[h1] at hk
  (repeat (first|simp only[↓QA,QB,seval,aQ]|refine rd0 rfl ?_))
  ((first|refine aE (fK x.scars 0 9) rfl dd ?_|refine aN (fK x.scars 0 9) rfl dd ?_);(repeat (first|simp only[↓QA,QB,seval,aQ]|refine rd0 rfl ?_)))
  cases h2:inR x.scars 0 9
  ·rw[h2] at hk;simp only[or_true,if_true] at hk;subst hk
   (repeat (first|simp only[↓QA,QB,seval,aQ]|refine rd0 rfl ?_))
  ·rw[h2] at hk;simp only[Bool.true_eq_false,or_self,if_false] at hk;by_cases h0:i=0
   ·subst h0;have:E=0:=by rw[hk,if_neg (by omega)]
    subst this
    (repeat (first|simp only[↓QA,QB,seval,aQ,show decide ((0:Int)<((0:Nat):Int))=false from rfl]|refine rd0 rfl ?_))
   ·have g1:decide ((0:Int)<(i:Int))=true:=by simp;omega
    have hw:IntKind.i64.wrap ((i:Int)-1)=((i-1:Nat):Int):=by rw[bL ⟨by omega,by omega⟩];omega
    have hi1:i-1<l.grades.length:=by omega
    have he3:=DG hi1;have he4:=BI hi1;obtain⟨y,hy⟩:∃ y,l.grades[i-1]=y:=⟨_,rfl⟩;rw[hy] at he3 he4;rw[he3,he4] at hk;cases h3:decide (y.hands<=x.hands)
    ·have h3':¬y.hands<=x.hands:=by simpa using h3
     cases h4:decide (x.scars<y.scars)
     ·have h4':¬x.scars<y.scars:=by simpa using h4
      have:E=0:=by rw[hk,if_neg (by omega)]
      subst this
      (repeat (first|simp only[↓QA,QB,seval,aQ,g1,hw,hi1,hy,h3,h4]|refine rd0 rfl ?_))
     ·have h4':x.scars<y.scars:=by simpa using h4
      have:E=2:=by rw[hk,if_pos ⟨by omega,.inr h4'⟩]
      subst this
      (repeat (first|simp only[↓QA,QB,seval,aQ,g1,hw,hi1,hy,h3,h4]|refine rd0 rfl ?_))
    ·have h3':y.hands<=x.hands:=by simpa using h3
     have:E=2:=by rw[hk,if_pos ⟨by omega,.inl h3'⟩]
     subst this
     (repeat (first|simp only[↓QA,QB,seval,aQ,g1,hw,hi1,hy,h3]|refine rd0 rfl ?_))
theorem aBN(n:Nat)(hn:n<=6):cE T 102 [.int .i64 n] (.int .i64 ((2^n-1:Nat):Int)):=by
 refine aZ (af:=a102) rfl (by simp[a102]) dd ?_;try simp only[↓QA,QB,seval,aQ,a102]
 refine b9 (S:=Nat) 0 (fun k=>k<=n) (fun k=>n-k) (fun k=>[(0,.int .i64 n),(3,.int .i64 ((2^k-1:Nat):Int)),(4,.int .i64 k)]) (fun _=>[]) (Nat.zero_le _) rfl ?_ fun k hk=>?_
 ·try simp only[aD,QE,seval,aQ]
  try simp
 try simp only[↓QA,QB,seval,aQ,XZ]
 refine aF (fun h=>?_) fun h=>?_
 ·have hk1:k<n:=by simpa using h
  have hw:=bJ hk1 (by omega);have hp:2^k<=64:=by
   calc 2^k<=2^6:=Nat.pow_le_pow_right (by omega) (by omega)
    _=64:=by decide
  have hp0:0<2^k:=Nat.pow_pos (by omega);have w1:IntKind.i64.wrap (2*((2^k-1:Nat):Int))=2*((2^k-1:Nat):Int):=bL ⟨by omega,by omega⟩;have w2:IntKind.i64.wrap (2*((2^k-1:Nat):Int)+1)=((2^(k+1)-1:Nat):Int):=by rw[bL ⟨by omega,by omega⟩,Nat.pow_succ];omega
  try simp only[↓QA,QB,seval,aQ,w1,w2]
  refine⟨k+1,by omega,by omega,?_⟩;try simp only[aD,QE,seval,aQ,hw]
  try simp[aY]
 ·have hk1:k=n:=by simp at h;omega
  subst hk1;try simp only[↓QA,QB,seval,aQ]
theorem u5{k:Nat}{ns:List ByteArray}{s:ByteArray}{b:ABlk}{ex:Bool}(hk:ns.length=k)(hn:k<16):bW 1 16 [b,.tok 1 k ex] (.lit (ns.map .str) false (some 1)) (.lit [.str s] true none)=some (.lit ((ns++[s]).map .str) false (some 1),[b,.tok 1 (k+1) true]):=by
 rw[v8 (ex:=ex) ⟨vP 1 _ ns (fun x=>XY _),by simp[aI,AV.cells,AV.cell],by simp[room,hk];omega,by simp[room,hk];omega⟩ (by simp) (by simp[hk])];simp[hk]
theorem y0{l:HLot}{k:Nat}(h:k<l.grades.length):(l.grades.take (k+1)).map Gd.name=(l.grades.take k).map Gd.name++[l.grades[k].name]:=by
 rw[List.take_succ_eq_append_getElem h,List.map_append];rfl
set_option maxHeartbeats 1000000 in
theorem refcheck_ok(v:HLot)(h:Fits v):cE T 22 [encHLot v] (enc3 (check v)):=by
 refine aZ (af:=a22) rfl (by simp[a22]) dd ?_;have hfk:=h.grades;have hfd:=h.bunches;have hfl:=h.counts
 (repeat (first|simp only[↓QA,QB,seval,aQ,a22]|refine rd0 rfl ?_))
 ((first|refine aE (fK v.grades.length 1 4) rfl dd ?_|refine aN (fK v.grades.length 1 4) rfl dd ?_);(repeat (first|simp only[↓QA,QB,seval,aQ]|refine rd0 rfl ?_)))
 cases h5:inR v.grades.length 1 4
 ·(repeat (first|simp only[↓QA,QB,seval,aQ]|refine rd0 rfl ?_))
  simp[check,h5,enc3]
 have h5':v.grades.length<=4:=by simp[inR] at h5;omega
 have hc:check v=match aS (FM v) v.grades 0 with|some (i,e)=>(1,(i:Int),e)|none=>fH v:=by simp only[check,h5,Bool.true_eq_false,if_false]<;>rfl
 rw[hc]
 (repeat (first|simp only[↓QA,QB,seval,aQ]|refine rd0 rfl ?_))
 refine oJ 5 1 [] rfl ?_;refine b9 (S:=Nat×Bool) (0,false) (fun s=>s.1<=v.grades.length/\aS (FM v) (v.grades.drop s.1) s.1=aS (FM v) v.grades 0) (fun s=>v.grades.length-s.1)
  (fun s=>[(1,.ptr 0 0),(5,.lit (((v.grades.take s.1).map Gd.name).map .str) false (some 1)),(6,.int .i64 s.1)]) (fun s=>[.cells (lotCells v),.tok 1 s.1 s.2]) ⟨Nat.zero_le _,by simp⟩ (by simp[lotCells,aG]) ?_ fun s hs=>?_
 ·try simp only[aD,QE,seval,aQ]
  try simp
 obtain⟨k,ex⟩:=s;obtain⟨hk,hb⟩:=hs;simp only at hk hb;have hlen:((v.grades.take k).map Gd.name).length=k:=by simp[hk]
 (repeat (first|simp only[↓QA,QB,seval,aQ,aCQ]|refine rd0 rfl ?_))
 refine aF (fun hd=>?_) fun hd=>?_
 ·have hk1:k<v.grades.length:=by simpa using hd
  rw[eU hk1] at hb;have hw:=bJ hk1 hfk;have hap:=u5 (k:=k) (ns:=(v.grades.take k).map Gd.name) (s:=v.grades[k].name) (b:=.cells (lotCells v)) (ex:=ex) hlen (by omega);rw[lotCells_eq] at hap;have hset:FM v k v.grades[k]=if fresh v.grades[k].name ((v.grades.take k).map Gd.name)=0 then oO v k else fresh v.grades[k].name ((v.grades.take k).map Gd.name):=rfl
  (repeat (first|simp only[↓QA,QB,seval,aQ,hk1,hw]|refine rd0 rfl ?_))
  ((first|refine PI (CB v.grades[k].name ((v.grades.take k).map Gd.name) (h.names _ (List.getElem_mem hk1)) (by rw[hlen];omega)) (by try simp only[QS,QC,seval,aQ]) trivial ?_|refine OW (CB v.grades[k].name ((v.grades.take k).map Gd.name) (h.names _ (List.getElem_mem hk1)) (by rw[hlen];omega)) (by try simp only[QS,QC,seval,aQ]) trivial ?_);(repeat (first|simp only[↓QA,QB,seval,aQ,hk1,hw,hap]|refine rd0 rfl ?_)))
  cases hf:(fresh v.grades[k].name ((v.grades.take k).map Gd.name)==0)
  ·have hf':fresh v.grades[k].name ((v.grades.take k).map Gd.name)≠0:=by simpa using hf
   rw[hset,if_neg hf',if_neg hf'] at hb;rw[<-hb]
   (repeat (first|simp only[↓QA,QB,seval,aQ,hk1,hw,hap,hf]|refine rd0 rfl ?_))
   rfl
  ·have hf':fresh v.grades[k].name ((v.grades.take k).map Gd.name)=0:=by simpa using hf
   rw[hset,if_pos hf'] at hb
   (repeat (first|simp only[↓QA,QB,seval,aQ,hf,hk1,hap]|refine rd0 rfl ?_))
   ((first|refine aE (EY v k h hk1) rfl dd ?_|refine aN (EY v k h hk1) rfl dd ?_);(repeat (first|simp only[↓QA,QB,seval,aQ]|refine rd0 rfl ?_)))
   cases hg:(oO v k==0)
   ·have hg':oO v k≠0:=by simpa using hg
    rw[if_neg hg'] at hb;rw[<-hb]
    (repeat (first|simp only[↓QA,QB,seval,aQ,hg]|refine rd0 rfl ?_))
    rfl
   ·have hg':oO v k=0:=by simpa using hg
    (repeat (first|simp only[↓QA,QB,seval,aQ,hg,hw]|refine rd0 rfl ?_))
    refine⟨(k+1,true),⟨by simp only;omega,by rw[<-hb,if_pos hg']⟩,by simp only;omega,?_⟩;try simp only[aD,QE,seval,aQ,y0 hk1,hw]
    try simp[aY]
 have hk1:k=v.grades.length:=by simp at hd;omega
 rw[fE hk1] at hb;rw[<-hb,hk1]
 (repeat (first|simp only[↓QA,QB,seval,aQ]|refine rd0 rfl ?_))
 cases h6:decide ((6:Int)<(v.bunches.length:Int))
 case' true =>
  have h6':6<v.bunches.length:=by have:=of_decide_eq_true h6;omega
  (repeat (first|simp only[↓QA,QB,seval,aQ]|refine rd0 rfl ?_))
  simp[fH,h6',enc3]
 have h6':¬6<v.bunches.length:=by have:=of_decide_eq_false h6;omega
 have hc:fH v=match aS n8 v.bunches 0 with|some (i,e)=>(2,(i:Int),e)|none=>gU v:=by simp only[fH,h6',if_false]<;>rfl
 rw[hc]
 (repeat (first|simp only[↓QA,QB,seval,aQ]|refine rd0 rfl ?_))
 refine b9 (S:=Nat) 0 (fun k=>k<=v.bunches.length/\aS n8 (v.bunches.drop k) k=aS n8 v.bunches 0) (fun k=>v.bunches.length-k)
  (fun k=>[(1,.ptr 0 0),(8,.int .i64 k)]) (fun _=>[.cells (lotCells v),.tok 1 v.grades.length ex]) ⟨Nat.zero_le _,by simp⟩ (by simp[lotCells,aG]) ?_ fun j hj=>?_
 ·try simp only[aD,QE,seval,aQ]
  try simp
 obtain⟨hj,hbj⟩:=hj
 (repeat (first|simp only[↓QA,QB,seval,aQ,aDT]|refine rd0 rfl ?_))
 refine aF (fun hd2=>?_) fun hd2=>?_
 ·have hj1:j<v.bunches.length:=by simpa using hd2
  rw[eU hj1] at hbj;have hw2:=bJ hj1 hfd;have hde:n8 j v.bunches[j]=n8 0 v.bunches[j]:=rfl;rw[hde] at hbj;have hr:=RE v.bunches[j]
  (repeat (first|simp only[↓QA,QB,seval,aQ,hj1]|refine rd0 rfl ?_))
  ((first|refine aE (hr) rfl dd ?_|refine aN (hr) rfl dd ?_);(repeat (first|simp only[↓QA,QB,seval,aQ,hj1]|refine rd0 rfl ?_)))
  cases hi:(n8 0 v.bunches[j]==0)
  ·have hi':n8 0 v.bunches[j]≠0:=by simpa using hi
   rw[if_neg hi'] at hbj;rw[<-hbj]
   (repeat (first|simp only[↓QA,QB,seval,aQ,hj1,hi]|refine rd0 rfl ?_))
   rfl
  ·have hi':n8 0 v.bunches[j]=0:=by simpa using hi
   rw[if_pos hi'] at hbj
   (repeat (first|simp only[↓QA,QB,seval,aQ,hj1,hw2,hi]|refine rd0 rfl ?_))
   refine⟨j+1,⟨by omega,hbj⟩,by omega,?_⟩;try simp only[aD,QE,seval,aQ,hw2]
   try simp
 have hj1:j=v.bunches.length:=by simp at hd2;omega
 rw[fE hj1] at hbj;rw[<-hbj]
 (repeat (first|simp only[↓QA,QB,seval,aQ]|refine rd0 rfl ?_))
 cases h7:decide ((4:Int)<(v.counts.length:Int))
 case' true =>
  have h7':4<v.counts.length:=by have:=of_decide_eq_true h7;omega
  (repeat (first|simp only[↓QA,QB,seval,aQ]|refine rd0 rfl ?_))
  simp[gU,h7',enc3]
 have h7':¬4<v.counts.length:=by have:=of_decide_eq_false h7;omega
 have hc:gU v=match aS (FO v) v.counts 0 with|some (i,e)=>(3,(i:Int),e)|none=>(0,0,0):=by simp only[gU,h7',if_false]<;>rfl
 rw[hc];have hall:=aBN v.bunches.length (by omega);obtain⟨A,hA⟩:∃ A,((2^v.bunches.length-1:Nat):Int)=A:=⟨_,rfl⟩;rw[hA] at hall
 (repeat (first|simp only[↓QA,QB,seval,aQ]|refine rd0 rfl ?_))
 refine b9 (S:=Nat) 0 (fun k=>k<=v.counts.length/\aS (FO v) (v.counts.drop k) k=aS (FO v) v.counts 0) (fun k=>v.counts.length-k)
  (fun k=>[(1,.ptr 0 0),(10,.int .i64 k)]) (fun _=>[.cells (lotCells v),.tok 1 v.grades.length ex]) ⟨Nat.zero_le _,by simp⟩ (by simp[lotCells,aG]) ?_ fun m hm=>?_
 ·try simp only[aD,QE,seval,aQ]
  try simp
 obtain⟨hm,hbm⟩:=hm
 (repeat (first|simp only[↓QA,QB,seval,aQ,aC2]|refine rd0 rfl ?_))
 refine aF (fun hd3=>?_) fun hd3=>?_
 ·have hm1:m<v.counts.length:=by simpa using hd3
  rw[eU hm1] at hbm;have hw3:=bJ hm1 hfl;obtain⟨x,hx⟩:∃ x,v.counts[m]=x:=⟨_,rfl⟩;have hle:FO v m x=if inR x.bunches 1 A=false then 4 else if inR x.hands 0 72=true then 0 else 7:=by rw[<-hA];rfl
  rw[hx,hle] at hbm
  (repeat (first|simp only[↓QA,QB,seval,aQ,hm1,hx]|refine rd0 rfl ?_))
  ((first|refine aE (hall) rfl dd ?_|refine aN (hall) rfl dd ?_);(repeat (first|simp only[↓QA,QB,seval,aQ,hm1,hx]|refine rd0 rfl ?_)))
  ((first|refine aE (fK x.bunches 1 A) rfl dd ?_|refine aN (fK x.bunches 1 A) rfl dd ?_);(repeat (first|simp only[↓QA,QB,seval,aQ,hm1,hx]|refine rd0 rfl ?_)))
  cases hi:inR x.bunches 1 A
  ·rw[hi] at hbm;rw[<-hbm]
   (repeat (first|simp only[↓QA,QB,seval,aQ,hm1,hx]|refine rd0 rfl ?_))
   rfl
  ·rw[hi] at hbm
   (repeat (first|simp only[↓QA,QB,seval,aQ,hm1,hx]|refine rd0 rfl ?_))
   ((first|refine aE (fK x.hands 0 72) rfl dd ?_|refine aN (fK x.hands 0 72) rfl dd ?_);(repeat (first|simp only[↓QA,QB,seval,aQ,hm1,hx]|refine rd0 rfl ?_)))
   cases hi2:inR x.hands 0 72
   ·rw[hi2] at hbm;rw[<-hbm]
    (repeat (first|simp only[↓QA,QB,seval,aQ,hm1,hx]|refine rd0 rfl ?_))
    rfl
   ·rw[hi2] at hbm
    (repeat (first|simp only[↓QA,QB,seval,aQ,hm1,hx,hw3]|refine rd0 rfl ?_))
    refine⟨m+1,⟨by omega,by rw[<-hbm];rfl⟩,by omega,?_⟩;try simp only[aD,QE,seval,aQ,hw3]
    try simp
 ·have hm1:m=v.counts.length:=by simp at hd3;omega
  rw[fE hm1] at hbm;rw[<-hbm]
  (repeat (first|simp only[↓QA,QB,seval,aQ]|refine rd0 rfl ?_))
  rfl
end Go.Am.Room.Ha
namespace Go.Am.Room.Ha
def gH:=zz @encHLot_eq (zz @lotCells_eq (zz @encGd_eq (zz @encBn_eq (zz @encCt_eq (zz @aR (zz @S_mapGd (zz @S_mapBn (zz @S_mapCt (zz @eJ (zz @List.length_append.{0} (zz @Nat.mul_one (@Int.toNat_natCast))))))))))))
theorem aLN(c:List Int)(hl:c.length<=100)(σ:St):bW 1 8 σ (.lit [] true none) (.lit (c.map (.int .i64)) false none)=some ((pI 1 σ (c.map (.int .i64))).1,(pI 1 σ (c.map (.int .i64))).2):=GQ ⟨rfl,mG c,by simp[room];omega,by simp[room];omega⟩
theorem aKD(c:List Int)(n:Int)(hl:c.length<=100)(σ:St):bW 1 8 (pI 1 σ (c.map (.int .i64))).2 (pI 1 σ (c.map (.int .i64))).1 (.lit [.int .i64 n] true none)=some (.lit (c.map (.int .i64)++[.int .i64 n]) false (some σ.length),σ++[.tok 1 (c.length+1) true]):=by
 rw[xZ ⟨mG c,by simp[aI,AV.cells,AV.cell],by simp[room];omega,by simp[room];omega⟩ (by simp)];simp
theorem aDR(b:ABlk)(τ:St)(ex:Bool)(xs:List AV)(m:Nat)(y:AV)(hm:xs.length=m)(hm2:m<=8000)(hal:aI 1 (xs++[y])=true):bW 1 24 (b::.tok 1 m ex::τ) (.lit xs false (some 1)) (.lit [y] true none)=some (.lit (xs++[y]) false (some 1),b::.tok 1 (m+1) true::τ):=by
 simp only[aI,List.all_append,Bool.and_eq_true] at hal;rw[yZ (t:=1) (ex:=ex) (sz:=1) ⟨hal.1,hal.2,by simp[room];omega,by simp[room];omega⟩ (by simp) m hm.symm rfl];simp
def VW(x:Bn)(p:List Int):List (List Int):=(aW x.hands.lo (x.hands.hi+1-x.hands.lo).toNat).map fun n=>p++[n]
theorem KC{l:HLot}{n:Nat}(h:n<l.bunches.length):fI l (n+1)=(fI l n).flatMap (VW l.bunches[n]):=by
 simp only[fI,EI h];rfl
set_option maxHeartbeats 2000000 in
theorem U0(c:HLot)(hv:Vd c):cE T 112 [encHLot c] (bD (iO c)):=by
 refine aZ (af:=a112) rfl (by simp[a112]) dd ?_;have hnl:=hv.nbn;obtain⟨R0,hR0⟩:∃ R,iO c=R:=⟨_,rfl⟩;rw[hR0];try simp only[↓QA,QB,seval,gH,a112]
 refine b9 (S:=Nat) 0 (fun n=>n<=c.bunches.length) (fun n=>c.bunches.length-n) (fun n=>[(1,.ptr 0 0),(3,bD (fI c n)),(4,.int .i64 n)]) (fun _=>[.cells (lotCells c)]) (Nat.zero_le _) (by simp[lotCells,aG]) ?_ fun n hn=>?_
 ·try simp only[aD,QE,seval,gH]
  simp[bD,aG,fI,clr,clrs]
 try simp only[↓QA,QB,seval,gH,WV,bD]
 refine aF (fun h=>?_) fun h=>?_
 ·have hn1:n<c.bunches.length:=by simpa using h
  have hwn:IntKind.i64.wrap ((n:Int)+1)=((n+1:Nat):Int):=bJ hn1 (by omega);have hsl:(fI c n).length<=4096:=Nat.le_trans (qV hv n) (T3 (by omega));have hsl1:(fI c (n+1)).length<=4096:=Nat.le_trans (qV hv (n+1)) (T3 (by omega));have hin:=uD hv n;have hspec:=KC (l:=c) hn1;obtain⟨⟨b1,b2,b3⟩,b4,_⟩:=hv.bn _ (List.getElem_mem hn1);obtain⟨x,hx⟩:∃ x,c.bunches[n]=x:=⟨_,rfl⟩;obtain⟨R,hR⟩:∃ R,fI c (n+1)=R:=⟨_,rfl⟩;rw[hR,hx] at hspec;rw[hR] at hsl1;rw[hx] at b1 b2 b3 b4;obtain⟨Y,hY⟩:∃ Y,x.hands.hi=Y:=⟨_,rfl⟩;rw[hY] at b2 b3 b4;obtain⟨X,hX⟩:∃ X,(Y+1-x.hands.lo).toNat=X:=⟨_,rfl⟩;have hgr:∀ p,VW x p=(aW x.hands.lo X).map fun n=>p++[n]:=fun p=>by rw[<-hX,<-hY];rfl
  have hXb:Y+1-x.hands.lo=(X:Int):=by omega
  obtain⟨Q,hQ⟩:∃ Q,fI c n=Q:=⟨_,rfl⟩;rw[hQ] at hsl hspec hin;rw[hQ];try simp only[↓QA,QB,seval,gH]
  refine oJ 5 1 [] rfl ?_;refine b9 (S:=Nat×List (List Int)×Bool) (0,[],false) (fun k=>k.1<=Q.length/\k.2.1++(Q.drop k.1).flatMap (VW x)=R) (fun k=>Q.length-k.1)
   (fun k=>[(1,.ptr 0 0),(3,bD Q),(4,.int .i64 n),(5,.lit (k.2.1.map aG) false (some 1)),(6,.int .i64 k.1)])
   (fun k=>[.cells (lotCells c),.tok 1 k.2.1.length k.2.2]) ⟨Nat.zero_le _,by simp[hspec]⟩ (by simp[lotCells,aG]) ?_ fun k hk=>?_
  ·try simp only[aD,QE,seval,gH,bD,List.map_nil]
   try simp
  obtain⟨k,acc,ex⟩:=k;obtain⟨hk,hacc⟩:=hk;simp only at hk hacc;try simp only[↓QA,QB,seval,gH,XG,bD]
  refine aF (fun h2=>?_) fun h2=>?_
  ·have hk1:k<Q.length:=by simpa using h2
   have hmem:=List.getElem_mem hk1;obtain⟨p,hp⟩:∃ p,Q[k]=p:=⟨_,rfl⟩;rw[hp] at hmem;have hpl:=(hin p hmem).1;rw[List.drop_eq_getElem_cons hk1,hp,List.flatMap_cons,hgr] at hacc;have hwk:IntKind.i64.wrap ((k:Int)+1)=((k+1:Nat):Int):=bJ hk1 (by omega);try simp only[↓QA,QB,seval,gH,hn1,hx]
   refine b9 (S:=Nat×List (List Int)×Bool) (0,acc,ex) (fun m=>m.1<=X/\m.2.1++((aW (x.hands.lo+(m.1:Int)) (X-m.1)).map (fun n=>p++[n])++(Q.drop (k+1)).flatMap (VW x))=R) (fun m=>X-m.1)
    (fun m=>[(1,.ptr 0 0),(3,bD Q),(4,.int .i64 n),(5,.lit (m.2.1.map aG) false (some 1)),(6,.int .i64 k),(7,.int .i64 (x.hands.lo+(m.1:Int)))])
    (fun m=>[.cells (lotCells c),.tok 1 m.2.1.length m.2.2]) ⟨Nat.zero_le _,by simpa using hacc⟩ (by simp[lotCells,aG]) ?_ fun m hm=>?_
   ·try simp only[aD,QE,seval,gH,bD]
    try simp
   obtain⟨m,acc1,ex1⟩:=m;obtain⟨hm,hac1⟩:=hm;simp only at hm hac1;have hacl:acc1.length<=4096:=by
    have:=congrArg List.length hac1;simp only[List.length_append] at this;omega
   obtain⟨y,hy⟩:∃ y,x.hands.lo+(m:Int)=y:=⟨_,rfl⟩;have hy1:x.hands.lo+((m+1:Nat):Int)=y+1:=by omega
   simp only[hy] at hac1 ⊢;have hwy:IntKind.i64.wrap (y+1)=y+1:=bL ⟨by omega,by omega⟩;try simp only[↓QA,QB,seval,gH,UV,bD,hn1,hx,hY]
   cases h3:decide (y<=Y)
   ·have h3':¬y<=Y:=by simpa using h3
    have hmX:X-m=0:=by omega
    rw[hmX] at hac1;simp only[aW,List.map_nil,List.nil_append] at hac1;try simp only[↓QA,QB,seval,gH,h3]
    refine⟨(k+1,acc1,ex1),⟨by simp only;omega,hac1⟩,by simp only;omega,?_⟩;try simp only[aD,QE,seval,gH,hwk,bD]
    try simp[aY,okVs,okV]
   ·have h3':y<=Y:=by simpa using h3
    have hmX:X-m=(X-(m+1))+1:=by omega
    rw[hmX] at hac1;simp only[aW,List.map_cons] at hac1;have hca:aI 1 (acc1.map aG)=true:=lC acc1;have a0:=aLN p (by omega);have a1:=aKD p y (by omega);have hap:=fun (b:ABlk) (τ:St) (ex:Bool) (l:List AV) (f:Bool) (t:Option Nat)=>aDR b τ ex (acc1.map aG) acc1.length (.lit l f t) (by simp) (by omega) (wR hca)
    try simp only[↓QA,QB,seval,gH,h3,hk1,hp,aG,a0,a1,hap]
    refine⟨(m+1,acc1++[p++[y]],true),⟨by simp only;omega,by simp only[hy1];simpa using hac1⟩,by simp only;omega,?_⟩;simp only[hy1];try simp only[aD,QE,seval,gH,hwy,List.map_append,List.length_append,List.map_cons,List.map_nil,bD]
    try simp[aY,okVs,okV]
  ·have hk1:k=Q.length:=by simp at h2;omega
   have hfin:acc=R:=by rw[<-hacc,hk1,List.drop_length];simp
   rw[hfin];try simp only[↓QA,QB,seval,gH]
   refine⟨n+1,by omega,by omega,?_⟩;try simp only[aD,QE,seval,gH,hwn,bD,hR]
   try simp[aY,okVs,okV]
 ·have hn1:n=c.bunches.length:=by simp at h;omega
  have hfin:fI c n=R0:=by rw[hn1,<-hR0];rfl
  rw[hfin];try simp only[↓QA,QB,seval,gH,bD]
end Go.Am.Room.Ha
namespace Go.Am.Room.Ha
def dE:=zz @encHLot_eq (zz @lotCells_eq (zz @encGd_eq (zz @encBn_eq (zz @encCt_eq (zz @aR (zz @S_mapGd (zz @S_mapBn (zz @S_mapCt (zz @eJ (zz @List.length_append.{0} (zz @Nat.mul_one (@Int.toNat_natCast))))))))))))
theorem JA(c:Ct)(p:List Int)(hc:0<=c.bunches/\c.bunches<64)(hl:p.length<=6)(hp:∀ x∈p,1<=x/\x<=12):cE T 113 [encCt c,aG p] (.int .i64 (dF c.bunches.toNat (gF p) p.length)):=by
 refine aZ (af:=a113) rfl (by simp[a113]) dd ?_;obtain⟨B,hB⟩:∃ B:Nat,c.bunches=B:=⟨c.bunches.toNat,by omega⟩;obtain⟨R,hR⟩:∃ R,dF c.bunches.toNat (gF p) p.length=R:=⟨_,rfl⟩;rw[hR];rw[hB,Int.toNat_natCast] at hR;try simp only[↓QA,QB,seval,dE,a113]
 refine b9 (S:=Nat) 0 (fun k=>k<=p.length) (fun k=>p.length-k) (fun k=>[(1,aG p),(2,.ptr 0 0),(5,.int .i64 (dF B (gF p) k)),(6,.int .i64 k)]) (fun _=>[.cells [.int .i64 c.bunches,.int .i64 c.hands]]) (Nat.zero_le _) (by simp) ?_ fun k hk=>?_
 ·try simp only[aD,QE,seval,dE,dF]
  try simp[dF]
 try simp only[↓QA,QB,seval,dE,WZ]
 refine aF (fun h=>?_) fun h=>?_
 ·have hk1:k<p.length:=by simpa using h
  have hw:=bJ hk1 (by omega);have hb:=aG6 B k (by omega) (by omega);have hh:=yH (gF_bd hp) B k;have hgk:=gF_bd hp k;have hge:gF p k=p[k]:=by simp[gF,hk1]
  have hsu:dF B (gF p) (k+1)=if AB B k=true then dF B (gF p) k+gF p k else dF B (gF p) k:=rfl
  rw[hge] at hsu hgk;obtain⟨z,hz⟩:∃ z,p[k]=z:=⟨_,rfl⟩;rw[hz] at hsu hgk;obtain⟨S,hS⟩:∃ S,dF B (gF p) k=S:=⟨_,rfl⟩;rw[hS] at hsu hh;rw[hS];have hws:IntKind.i64.wrap (S+z)=S+z:=bL ⟨by omega,by omega⟩;try simp only[↓QA,QB,seval,dE,hB]
  (refine aE (hb) rfl dd ?_;try simp only[↓QA,QB,seval,dE,hB])
  cases hq:AB B k
  ·rw[hq] at hsu;simp only[Bool.false_eq_true,if_false] at hsu;try simp only[↓QA,QB,seval,dE,hB]
   refine⟨k+1,by omega,by omega,?_⟩;try simp only[aD,QE,seval,dE,hw,hsu,hB]
   try simp[aY,okVs,okV]
  ·rw[hq] at hsu;simp only[if_true] at hsu;try simp only[↓QA,QB,seval,dE,hB,hk1,hz,hws]
   refine⟨k+1,by omega,by omega,?_⟩;try simp only[aD,QE,seval,dE,hw,hsu,hB]
   try simp[aY,okVs,okV]
 ·have hk1:k=p.length:=by simp at h;omega
  rw[hk1,hR];try simp only[↓QA,QB,seval,dE]
def DQ(l:HLot)(h:List Int)(n:Nat):Bool:=(l.counts.take n).all (wI h)
theorem QH{l:HLot}{k:Nat}(hk:k<l.counts.length)(h:List Int):DQ l h (k+1)=(DQ l h k&&wI h l.counts[k]):=by
 rw[DQ,DQ,List.take_add_one,List.all_append,List.getElem?_eq_getElem hk];simp
theorem UA(l:HLot)(h:List Int):DQ l h l.counts.length=uH l h:=by simp[DQ,uH]
set_option maxHeartbeats 1000000 in
theorem rways_ok(c:HLot)(hv:Vd c):cE T 24 [encHLot c,aG []] (bD (waysOf c)):=by
 refine aZ (af:=a24) rfl (by simp[a24]) dd ?_;have hall:=U0 c hv;have hwk:=fun p (h:p∈iO c)=>felt_in hv h
 have hwl:=felt_len hv;have hnc:=hv.nct;have hnb:=hv.nbn;obtain⟨R,hR⟩:∃ R,waysOf c=R:=⟨_,rfl⟩;have hRl:R.length<=4096:=by rw[<-hR];exact Nat.le_trans (List.length_filter_le _ _) hwl
 rw[hR];have hR':[]++((iO c).drop 0).filter (uH c)=R:=hR;obtain⟨W,hW⟩:∃ W,iO c=W:=⟨_,rfl⟩;rw[hW] at hall hwl hR';simp only[hW] at hwk
 (repeat (first|simp only[↓QA,QB,seval,dE,a24]|refine rd0 rfl ?_))
 ((first|refine aE (hall) rfl dd ?_|refine aN (hall) rfl dd ?_);(repeat (first|simp only[↓QA,QB,seval,dE]|refine rd0 rfl ?_)))
 refine oJ 6 1 [] rfl ?_;refine b9 (S:=Nat×List (List Int)×Bool) (0,[],false) (fun a=>a.1<=W.length/\a.2.1++(W.drop a.1).filter (uH c)=R) (fun a=>W.length-a.1)
  (fun a=>[(1,aG []),(2,.ptr 0 0),(5,bD W),(6,.lit (a.2.1.map aG) false (some 1)),(7,.int .i64 a.1)])
  (fun a=>[.cells (lotCells c),.tok 1 a.2.1.length a.2.2]) ⟨Nat.zero_le _,hR'⟩ (by simp[lotCells,aG]) ?_ fun a ha=>?_
 ·try simp only[aD,QE,seval,dE,bD]
  try simp
 obtain⟨k,acc,ex⟩:=a;obtain⟨hk,hacc⟩:=ha;simp only at hk hacc
 (repeat (first|simp only[↓QA,QB,seval,dE,aDW,bD]|refine rd0 rfl ?_))
 refine aF (fun h=>?_) fun h=>?_
 ·have hk1:k<W.length:=by simpa using h
  have hw:=bJ hk1 (by omega);have hwo:=hwk _ (List.getElem_mem hk1);obtain⟨p,hp⟩:∃ p,W[k]=p:=⟨_,rfl⟩;rw[hp] at hwo;rw[List.drop_eq_getElem_cons hk1,hp,List.filter_cons] at hacc;have hal:acc.length<=4096:=by
   have:=congrArg List.length hacc;simp only[List.length_append] at this;omega
  (repeat (first|simp only[↓QA,QB,seval,dE]|refine rd0 rfl ?_))
  refine b9 (S:=Nat) 0 (fun m=>m<=c.counts.length) (fun m=>c.counts.length-m)
   (fun m=>[(1,aG []),(2,.ptr 0 0),(5,bD W),(6,.lit (acc.map aG) false (some 1)),(7,.int .i64 k),(8,.bool (DQ c p m)),(9,.int .i64 m)])
   (fun _=>[.cells (lotCells c),.tok 1 acc.length ex]) (Nat.zero_le _) (by simp[lotCells,aG]) ?_ fun m hm=>?_
  ·try simp only[aD,QE,seval,dE,bD]
   try simp[DQ]
  (repeat (first|simp only[↓QA,QB,seval,dE,aDK,bD]|refine rd0 rfl ?_))
  refine aF (fun h2=>?_) fun h2=>?_
  ·have hm1:m<c.counts.length:=by simpa using h2
   have hwm:=bJ hm1 (by omega);have hsu:=QH hm1 p;have hbb:=OD hv (List.getElem_mem hm1);obtain⟨x,hx⟩:∃ x,c.counts[m]=x:=⟨_,rfl⟩;rw[hx] at hsu hbb;have hct:=JA x p (by omega) (by omega) hwo.2;have hco:wI p x=(dF x.bunches.toNat (gF p) p.length==x.hands):=rfl;obtain⟨S,hS⟩:∃ S,dF x.bunches.toNat (gF p) p.length=S:=⟨_,rfl⟩;rw[hS] at hct hco;rw[hco] at hsu;have hh:=NM [] (m:Int) (by simp);have hc0:([]:List Int).contains (m:Int)=false:=by simp
   obtain⟨q,hq⟩:∃ q,DQ c p m=q:=⟨_,rfl⟩;rw[hq] at hsu;rw[hq];simp only[encCt_eq] at hct;cases q
   ·rw[Bool.false_and] at hsu
    (repeat (first|simp only[↓QA,QB,seval,dE]|refine rd0 rfl ?_))
    refine⟨m+1,by omega,by omega,?_⟩;try simp only[aD,QE,seval,dE,hwm,hsu,bD]
    try simp[aY,okVs,okV]
   ·rw[Bool.true_and] at hsu;obtain⟨b,hb⟩:∃ b,(S==x.hands)=b:=⟨_,rfl⟩;rw[hb] at hsu
    (repeat (first|simp only[↓QA,QB,seval,dE,hm1,hx]|refine rd0 rfl ?_))
    ((first|refine aE (hh) rfl dd ?_|refine aN (hh) rfl dd ?_);(repeat (first|simp only[↓QA,QB,seval,dE,hm1,hx,hc0,hk1,hp]|refine rd0 rfl ?_)))
    ((first|refine aE (hct) rfl dd ?_|refine aN (hct) rfl dd ?_);(repeat (first|simp only[↓QA,QB,seval,dE,hm1,hx,hb,hk1,hp]|refine rd0 rfl ?_)))
    refine⟨m+1,by omega,by omega,?_⟩;try simp only[aD,QE,seval,dE,hwm,hsu,bD]
    try simp[aY,okVs,okV]
  ·have hm1:m=c.counts.length:=by simp at h2;omega
   have hse:DQ c p m=uH c p:=by rw[hm1,UA]
   rw[hse];cases hB:uH c p
   ·rw[hB] at hacc;simp only[Bool.false_eq_true,if_false] at hacc
    (repeat (first|simp only[↓QA,QB,seval,dE]|refine rd0 rfl ?_))
    refine⟨(k+1,acc,ex),⟨by simp only;omega,hacc⟩,by simp only;omega,?_⟩;try simp only[aD,QE,seval,dE,hw,bD]
    try simp[aY,okVs,okV]
   ·rw[hB] at hacc;simp only[if_true] at hacc;have hca:aI 1 (acc.map aG)=true:=lC acc;have hap:=fun (b:ABlk) (τ:St) (ex:Bool) (l:List AV) (f:Bool) (t:Option Nat)=>aDR b τ ex (acc.map aG) acc.length (.lit l f t) (by simp) (by omega) (wR hca)
    (repeat (first|simp only[↓QA,QB,seval,dE,hk1,hp,aG,hap]|refine rd0 rfl ?_))
    refine⟨(k+1,acc++[p],true),⟨by simp only;omega,by simpa using hacc⟩,by simp only;omega,?_⟩;try simp only[aD,QE,seval,dE,hw,List.map_append,List.length_append,List.map_cons,List.map_nil,bD]
    try simp[aY,okVs,okV]
 ·have hk1:k=W.length:=by simp at h;omega
  have hfin:acc=R:=by rw[<-hacc,hk1,List.drop_length];simp
  rw[hfin]
  (repeat (first|simp only[↓QA,QB,seval,dE,bD]|refine rd0 rfl ?_))
end Go.Am.Room.Ha
namespace Go.Am.Room.Fa
def idxOf{α:Type}(p:α->Bool):List α->Nat->Int
 |[],_=>-1
 |x::xs,k=>if p x then k else idxOf p xs (k+1)
theorem idxOf_any{α:Type}(p:α->Bool):∀ (l:List α) (k:Nat),decide (0<=idxOf p l k)=l.any p
 |[],k=>by simp[idxOf]
 |x::xs,k=>by
  cases h:p x
  ·simp[idxOf,h,idxOf_any p xs (k+1)]
  ·simp[idxOf,h]
theorem P5(σ:St)(f:AV)(l:List Int)(p:Int->Bool)(hl:l.length<9223372036854775808)(hk:n7 σ f)(h:∀ x∈l,eK T f [.int .i64 x] σ (.bool (p x))):eK T (.func 257 [] []) [aG l,f] σ (.int .i64 (idxOf p l 0)):=by
 refine cM (af:=a257) rfl (by simp[a257]) ?_;have hk0:=hk.nil;try simp only[↓QA,QB,seval,a257]
 refine b9 (S:=Nat) 0 (fun k=>k<=l.length/\idxOf p (l.drop k) k=idxOf p l 0) (fun k=>l.length-k) (fun k=>[(0,aG l),(1,f),(7,.int .i64 l.length),(8,.int .i64 k)]) (fun _=>σ) ⟨Nat.zero_le _,by simp⟩ rfl ?_ fun k hk1=>?_
 ·try simp only[aD,QE,seval]
  try simp
 ·obtain⟨hkl,hi⟩:=hk1;try simp only[↓QA,QB,seval,UI]
  refine aF (fun hd=>?_) fun hd=>?_
  ·have hlt:k<l.length:=by simpa using hd
   rw[List.drop_eq_getElem_cons hlt] at hi;simp only[idxOf] at hi;have hw:=bJ hlt hl;try simp only[↓QA,QB,seval,hlt]
   refine aT (h l[k] (List.getElem_mem hlt)) ?_;try simp only[↓QA,QB,seval]
   cases hp:p l[k]
   ·try simp only[↓QA,QB,seval,hw]
    refine⟨k+1,⟨by omega,by rw[<-hi,hp];rfl⟩,by omega,?_⟩;try simp only[aD,QE,seval,hw,hk0,Nat.le_refl]
   ·try simp only[↓QA,QB,seval]
    refine cZ [] (by first|rfl|simp) ?_;rw[<-hi,hp];try simp only[QS,QC,seval]
  ·have hlt:k=l.length:=by simp at hd;omega
   try simp only[↓QA,QB,seval]
   refine cZ [] (by first|rfl|simp) ?_;rw[<-hi,hlt,List.drop_length];try simp only[QS,QC,seval,idxOf]
theorem xO(σ:St)(f:AV)(l:List Int)(p:Int->Bool)(hl:l.length<9223372036854775808)(hk:n7 σ f)(h:∀ x∈l,eK T f [.int .i64 x] σ (.bool (p x))):eK T (.func 356 [] []) [aG l,f] σ (.bool (l.any p)):=by
 refine cM (af:=a356) rfl (by simp[a356]) ?_;try simp only[↓QA,QB,seval,a356]
 refine aT (P5 σ f l p hl hk h) ?_;try simp only[↓QA,QB,seval]
 refine cZ [] (by first|rfl|simp) ?_;rw[<-idxOf_any p l 0];try simp only[QS,QC,seval]
def mJ(lo hi n:Int):Bool:=decide (n<lo)||decide (hi<n)
theorem M6(lo hi n:Int):eK T (.func 369 [] [.ptr 0 0,.ptr 1 0]) [.int .i64 n] [.cells [.int .i64 lo],.cells [.int .i64 hi]] (.bool (mJ lo hi n)):=by
 refine cM (af:=a369) rfl (by simp[a369]) ?_;try simp only[↓QA,QB,seval,a369]
 refine aF (fun h=>?_) fun h=>?_
 all_goals
  try simp only[↓QA,QB,seval,h]
  refine cZ [] (by first|rfl|simp) ?_;try simp only[QS,QC,seval,mJ,h]
  try simp
def tA(lo hi:Int)(ns:List Int):Bool:=ns.any (mJ lo hi)
theorem gN(lo hi:Int)(ns:List Int)(hl:ns.length<9223372036854775808):cE T 232 [.int .i64 lo,.int .i64 hi,aG ns] (.bool (tA lo hi ns)):=by
 refine aZ (af:=a232) rfl (by simp[a232]) dd ?_;try simp only[↓QA,QB,seval,a232]
 refine aT (xO _ _ ns (mJ lo hi) hl (fun τ=>?_) fun x _=>M6 lo hi x) ?_
 ·try simp only[QS,QC,seval]
 ·try simp only[↓QA,QB,seval,tA]
theorem aAC(lo hi n:Int):eK T (.func 378 [] [.ptr 0 0,.ptr 1 0]) [.int .i64 n] [.cells [.int .i64 lo],.cells [.int .i64 hi]] (.bool (mJ lo hi n)):=by
 refine cM (af:=a378) rfl (by simp[a378]) ?_;try simp only[↓QA,QB,seval,a378]
 refine aF (fun h=>?_) fun h=>?_
 all_goals
  try simp only[↓QA,QB,seval,h]
  refine cZ [] (by first|rfl|simp) ?_;try simp only[QS,QC,seval,mJ,h]
  try simp
theorem off_ok(lo hi:Int)(ns:List Int)(hl:ns.length<9223372036854775808):cE T 244 [.int .i64 lo,.int .i64 hi,aG ns] (.bool (tA lo hi ns)):=by
 refine aZ (af:=a244) rfl (by simp[a244]) dd ?_;try simp only[↓QA,QB,seval,a244]
 refine aT (xO _ _ ns (mJ lo hi) hl (fun τ=>?_) fun x _=>aAC lo hi x) ?_
 ·try simp only[QS,QC,seval]
 ·try simp only[↓QA,QB,seval,tA]
theorem zV (s:ByteArray):∀ n k,k≤n→gJ s k=false→gJ s n=false
  | 0, k, h, h1 => by have : k = 0 := by omega
                      subst this;exact h1
  |n+1,k,h,h1=>by
    by_cases hk:k=n+1
    · subst hk;exact h1
    · simp [gJ,zV s n k (by omega) h1]
theorem beyond1(lo hi n:Int):tA lo hi [n] = !inR n lo hi:=by
 rw[Bool.eq_iff_iff];simp[tA,mJ,inR]
theorem beyond2(lo hi n m:Int):tA lo hi [n,m]=(!inR n lo hi||!inR m lo hi):=by
 rw[Bool.eq_iff_iff];simp[tA,mJ,inR]
theorem handname_ok(s:ByteArray)(hs:s.size<9223372036854775808):cE T 111 [.str s] (.bool (mW s)):=by
 refine aZ (af:=a111) rfl (by simp[a111]) dd ?_;try simp only[↓QA,QB,seval,a111]
 refine b9 (S:=Nat) 0 (fun k=>k<=s.size/\gJ s k=true) (fun k=>s.size-k) (fun k=>[(0,.str s),(7,.ptr 0 0)]) (fun k=>[.siter s k]) ⟨Nat.zero_le _,rfl⟩ rfl ?_ fun k hk=>?_
 ·try simp only[aD,QE,seval]
  try simp
 ·obtain⟨hkl,hok⟩:=hk;by_cases hk1:k<s.size
  ·obtain⟨R,hR⟩:∃ R:Int,((Utf8.decode s k).1:Int)=R:=⟨_,rfl⟩;obtain⟨W,hW⟩:∃ W,(Utf8.decode s k).2=W:=⟨_,rfl⟩;have hstep:gJ s (k+1)=CG k (eE s k):=by simp[gJ,hok]
   have hbl:=E1 s k;have key:(97<=R/\R<=122\/0<k/\(R=46\/48<=R/\R<=57))->W=1/\gJ s (k+1)=true:=by
    intro h;by_cases hb:eE s k<128
    ·have:=wK hk1 hb;rw[this] at hR hW;have hR':R=eE s k:=by simp at hR;omega
     refine⟨hW.symm,?_⟩;rw[hstep,CG,<-hR'];simp[inR];omega
    ·have:=JU hk1 (by omega);omega
   have key2:¬(97<=R/\R<=122\/0<k/\(R=46\/48<=R/\R<=57))->mW s=false:=by
    intro h;have:gJ s (k+1)=false:=by
     rw[hstep,CG];by_cases hb:eE s k<128
     ·have:=wK hk1 hb;rw[this] at hR hW;have hR':R=eE s k:=by simp at hR;omega
      rw[<-hR'];simp[inR];omega
     ·simp[inR];omega
    simp[mW,zV s s.size (k+1) (by omega) this]
   have go:∀ (e:Env),W=1/\gJ s (k+1)=true->Env.get e 0 = .str s->Env.get e 7 = .ptr 0 0->∃ s',(s'<=s.size/\gJ s s'=true)/\s.size-s'<s.size-k/\aD [.siter s k] e [.siter s (k+W)] [(0,.str s),(7,.ptr 0 0)] [.siter s s']:=by
    intro e h e0 e7;refine⟨k+1,⟨by omega,h.2⟩,by omega,?_⟩;try simp only[aD,QE,seval,e0,e7,h.1]
    try simp[aY]
   try simp only[↓QA,QB,seval,LP,UG hk1,hR,hW]
   cases h1:decide (97<=R)
   ·have h1':¬97<=R:=by simpa using h1
    try simp only[↓QA,QB,seval,h1]
    cases h3:((k:Int)==0)
    ·have h3':0<k:=by simp at h3;omega
     try simp only[↓QA,QB,seval,h3]
     cases h4:(R==46)
     ·have h4':R≠46:=by simpa using h4
      try simp only[↓QA,QB,seval,h4]
      cases h5:decide (R<48)
      ·have h5':¬R<48:=by simpa using h5
       try simp only[↓QA,QB,seval,h5]
       cases h6:decide (57<R)
       ·have h6':¬57<R:=by simpa using h6
        try simp only[↓QA,QB,seval,h6]
        exact go _ (key (by omega)) (by try simp only[aD,QE,seval]) (by try simp only[aD,QE,seval])
       ·have h6':57<R:=by simpa using h6
        rw[key2 (by omega)];try simp only[↓QA,QB,seval,h6]
      ·have h5':R<48:=by simpa using h5
       rw[key2 (by omega)];try simp only[↓QA,QB,seval,h5]
     ·have h4':R=46:=by simpa using h4
      try simp only[↓QA,QB,seval,h4]
      exact go _ (key (by omega)) (by try simp only[aD,QE,seval]) (by try simp only[aD,QE,seval])
    ·have h3':k=0:=by simp at h3;omega
     rw[key2 (by omega)];try simp only[↓QA,QB,seval,h3]
   ·have h1':97<=R:=by simpa using h1
    try simp only[↓QA,QB,seval,h1]
    cases h2:decide (R<=122)
    ·have h2':¬R<=122:=by simpa using h2
     try simp only[↓QA,QB,seval,h2]
     cases h3:((k:Int)==0)
     ·have h3':0<k:=by simp at h3;omega
      try simp only[↓QA,QB,seval,h3]
      cases h4:(R==46)
      ·have h4':R≠46:=by simpa using h4
       try simp only[↓QA,QB,seval,h4]
       cases h5:decide (R<48)
       ·have h5':¬R<48:=by simpa using h5
        try simp only[↓QA,QB,seval,h5]
        cases h6:decide (57<R)
        ·have h6':¬57<R:=by simpa using h6
         try simp only[↓QA,QB,seval,h6]
         exact go _ (key (by omega)) (by try simp only[aD,QE,seval]) (by try simp only[aD,QE,seval])
        ·have h6':57<R:=by simpa using h6
         rw[key2 (by omega)];try simp only[↓QA,QB,seval,h6]
       ·have h5':R<48:=by simpa using h5
        rw[key2 (by omega)];try simp only[↓QA,QB,seval,h5]
      ·have h4':R=46:=by simpa using h4
       try simp only[↓QA,QB,seval,h4]
       exact go _ (key (by omega)) (by try simp only[aD,QE,seval]) (by try simp only[aD,QE,seval])
     ·have h3':k=0:=by simp at h3;omega
      rw[key2 (by omega)];try simp only[↓QA,QB,seval,h3]
    ·have h2':R<=122:=by simpa using h2
     try simp only[↓QA,QB,seval,h2]
     exact go _ (key (by omega)) (by try simp only[aD,QE,seval]) (by try simp only[aD,QE,seval])
  ·have hk2:k=s.size:=by omega
   try simp only[↓QA,QB,seval,LP,VU hk1]
   (refine bE (off_ok 1 16 [(s.size:Int)] (by simp)) (by simp[clr,clrs,aG]) (by simp[okV,okVs]) ?_;try simp only[↓QA,QB,seval])
   rw[beyond1];try simp only[↓QA,QB,seval]
   simp[mW,<-hk2,hok]
def vX(x:Int×Int):AV:=.tuple [.int .i64 x.1,.int .i64 x.2]
theorem any_nameOf{α:Type}(f:α->ByteArray)(s:ByteArray):∀ l:List α,l.any (fun x=>decide (f x=s))=decide (jA s (l.map f)≠(l.map f).length)
 |[]=>by simp[jA]
 |x::xs=>by
  simp only[List.any_cons,any_nameOf f s xs,List.map_cons,jA,List.length_cons];by_cases h:f x=s
  ·simp[h]
  ·simp[h]
end Go.Am.Room.Fa
namespace Go.Am.Room
theorem mQ{a:Nat}(h:a<9223372036854775808):(BitVec.ofInt 64 (a:Int)).toNat=a:=by
 rw[BitVec.toNat_ofInt];omega
theorem aKO(a b:Nat)(ha:a<9223372036854775808)(hb:b<9223372036854775808):cY .and (.int .i64 (a:Int)) (.int .i64 (b:Int))=some (.int .i64 ((a &&& b:Nat):Int)):=by
 have h1:(BitVec.ofInt 64 (a:Int) &&& BitVec.ofInt 64 (b:Int)).toNat=a &&& b:=by rw[BitVec.toNat_and,mQ ha,mQ hb]
 have h2:a &&& b<=a:=Nat.and_le_left;have h3:Go.Am.bits .and .i64 (a:Int) (b:Int)=((a &&& b:Nat):Int):=by
  show IntKind.i64.wrap (((BitVec.ofInt 64 (a:Int) &&& BitVec.ofInt 64 (b:Int)).toNat:Nat):Int)=_
  rw[h1];exact bL ⟨by omega,by omega⟩
 simp[cY,fF,h3]
theorem WG(a b:Nat)(ha:a<4611686018427387904)(hb:b<4611686018427387904):cY .or (.int .i64 (a:Int)) (.int .i64 (b:Int))=some (.int .i64 ((a|||b:Nat):Int)):=by
 have h1:(BitVec.ofInt 64 (a:Int)|||BitVec.ofInt 64 (b:Int)).toNat=a|||b:=by rw[BitVec.toNat_or,mQ (by omega),mQ (by omega)]
 have h2:a|||b<2^62:=Nat.or_lt_two_pow (by omega) (by omega);have h3:Go.Am.bits .or .i64 (a:Int) (b:Int)=((a|||b:Nat):Int):=by
  show IntKind.i64.wrap (((BitVec.ofInt 64 (a:Int)|||BitVec.ofInt 64 (b:Int)).toNat:Nat):Int)=_
  rw[h1];exact bL ⟨by omega,by omega⟩
 simp[cY,fF,h3]
def HB(a b:Nat):Nat:=a &&& (2^64-(b+1))
theorem XR{b:Nat}(hb:b<9223372036854775808)(a i:Nat)(ha:a<9223372036854775808):(HB a b).testBit i=(a.testBit i&&!b.testBit i):=by
 rw[HB,Nat.testBit_and,Nat.testBit_two_pow_sub_succ (by omega)];by_cases hi:i<64
 ·simp[hi]
 ·have:a.testBit i=false:=Nat.testBit_lt_two_pow (Nat.lt_of_lt_of_le (show a<2^63 by omega) (Nat.pow_le_pow_right (by omega) (by omega)));simp[this]
theorem aBU(a b:Nat):HB a b<=a:=Nat.and_le_left
theorem T4(a b:Nat)(ha:a<9223372036854775808)(hb:b<9223372036854775808):cY .andNot (.int .i64 (a:Int)) (.int .i64 (b:Int))=some (.int .i64 ((HB a b:Nat):Int)):=by
 have h1:(BitVec.ofInt 64 (a:Int) &&& ~~~BitVec.ofInt 64 (b:Int)).toNat=HB a b:=by
  rw[BitVec.toNat_and,BitVec.toNat_not,mQ ha,mQ hb,HB]
  congr 1
  omega
 have h2:=aBU a b;have h3:Go.Am.bits .andNot .i64 (a:Int) (b:Int)=((HB a b:Nat):Int):=by
  show IntKind.i64.wrap (((BitVec.ofInt 64 (a:Int) &&& ~~~BitVec.ofInt 64 (b:Int)).toNat:Nat):Int)=_
  rw[h1];exact bL ⟨by omega,by omega⟩
 simp[cY,fF,h3]
theorem yO{i:Nat}(h:i<=60):2^i<=1152921504606846976:=by
 calc 2^i<=2^60:=Nat.pow_le_pow_right (by omega) h
  _=1152921504606846976:=by decide
theorem yM(i:Nat)(h:i<=60):cY .shl (.int .i64 1) (.int .i64 (i:Int))=some (.int .i64 ((2^i:Nat):Int)):=by
 have hm:Nat.min i 64=i:=Nat.min_eq_left (by omega);have h0:¬(i:Int)<0:=by omega
 have hp:=yO h;have hc:(1:Int)*2^i=((2^i:Nat):Int):=by rw[Int.one_mul];exact (Int.natCast_pow 2 i).symm
 simp only[cY,h0,if_false,IntKind.bits,Int.toNat_natCast,hm,hc];generalize 2^i=q at hp;rw[bL ⟨by omega,by omega⟩]
theorem uE(a i:Nat):a.testBit i=decide (a/2^i%2=1):=Nat.testBit_eq_decide_div_mod_eq
end Go.Am.Room
namespace Go.Am.Room.Ha
def aK:=zz @encHLot_eq (zz @lotCells_eq (zz @encGd_eq (zz @encBn_eq (zz @encCt_eq (zz @aR (zz @S_mapGd (zz @S_mapBn (@S_mapCt))))))))
theorem JD(σ:St)(f:AV)(l:List Gd)(p:Gd->Bool)(hl:l.length<9223372036854775808)(hk:n7 σ f)(h:∀ x∈l,eK T f [encGd x] σ (.bool (p x))):eK T (.func 376 [] []) [.lit (l.map encGd) false none,f] σ (.int .i64 (Fa.idxOf p l 0)):=by
 refine cM (af:=a376) rfl (by simp[a376]) ?_;have hk0:=hk.nil;try simp only[↓QA,QB,seval,aK,a376]
 refine b9 (S:=Nat) 0 (fun k=>k<=l.length/\Fa.idxOf p (l.drop k) k=Fa.idxOf p l 0) (fun k=>l.length-k) (fun k=>[(0,.lit (l.map encGd) false none),(1,f),(7,.int .i64 l.length),(8,.int .i64 k)]) (fun _=>σ) ⟨Nat.zero_le _,by simp⟩ rfl ?_ fun k hk1=>?_
 ·try simp only[aD,QE,seval,aK]
  try simp
 ·obtain⟨hkl,hi⟩:=hk1;try simp only[↓QA,QB,seval,aK,X6]
  refine aF (fun hd=>?_) fun hd=>?_
  ·have hlt:k<l.length:=by simpa using hd
   rw[List.drop_eq_getElem_cons hlt] at hi;simp only[Fa.idxOf] at hi;have hw:=bJ hlt hl;try simp only[↓QA,QB,seval,aK,hlt]
   refine aT (h l[k] (List.getElem_mem hlt)) ?_;try simp only[↓QA,QB,seval,aK]
   cases hp:p l[k]
   ·try simp only[↓QA,QB,seval,aK,hw]
    refine⟨k+1,⟨by omega,by rw[<-hi,hp];rfl⟩,by omega,?_⟩;try simp only[aD,QE,seval,aK,hw,hk0,Nat.le_refl,S_mapGd]
   ·try simp only[↓QA,QB,seval,aK]
    refine cZ [] (by first|rfl|simp) ?_;rw[<-hi,hp];try simp only[QS,QC,seval,aK]
  ·have hlt:k=l.length:=by simp at hd;omega
   try simp only[↓QA,QB,seval,aK]
   refine cZ [] (by first|rfl|simp) ?_;rw[<-hi,hlt,List.drop_length];try simp only[QS,QC,seval,aK,Fa.idxOf]
theorem JW(σ:St)(f:AV)(l:List Gd)(p:Gd->Bool)(hl:l.length<9223372036854775808)(hk:n7 σ f)(h:∀ x∈l,eK T f [encGd x] σ (.bool (p x))):eK T (.func 474 [] []) [.lit (l.map encGd) false none,f] σ (.bool (l.any p)):=by
 refine cM (af:=a474) rfl (by simp[a474]) ?_;try simp only[↓QA,QB,seval,aK,a474]
 refine aT (JD σ f l p hl hk h) ?_;try simp only[↓QA,QB,seval,aK]
 refine cZ [] (by first|rfl|simp) ?_;rw[<-Fa.idxOf_any p l 0];try simp only[QS,QC,seval,aK]
theorem MD(σ:St)(f:AV)(l:List Gd)(hl:l.length<9223372036854775808)(hk:n7 σ f)(h:∀ i (hi:i<l.length),eK T f [.int .i64 i,encGd l[i]] (σ++[.cells (encGd l[i]).cells]) (.int .i64 0)):eK T (.func 379 [] []) [.lit (l.map encGd) false none,f] σ (.tuple [.int .i64 0,.int .i64 0]):=by
 refine cM (af:=a379) rfl (by simp[a379]) ?_;have hk0:=hk.nil;have hk2:∀ τ,b8 (σ++τ) σ.length 20 f=some f:=hk;try simp only[↓QA,QB,seval,aK,a379]
 refine b9 (S:=Nat) 0 (fun k=>k<=l.length) (fun k=>l.length-k) (fun k=>[(1,f),(9,.lit (l.map encGd) false none),(10,.int .i64 l.length),(11,.int .i64 k)]) (fun _=>σ) (Nat.zero_le _) rfl ?_ fun k hkl=>?_
 ·try simp only[aD,QE,seval,aK]
  try simp
 ·try simp only[↓QA,QB,seval,aK,YJ]
  refine aF (fun hd=>?_) fun hd=>?_
  ·have hlt:k<l.length:=by simpa using hd
   have hs:=h k hlt;have hw:=bJ hlt hl;try simp only[↓QA,QB,seval,aK,hlt] at hs
   try simp only[↓QA,QB,seval,aK,hlt]
   refine aT hs ?_;try simp only[↓QA,QB,seval,aK,hw,show ((0:Int)==0)=true from rfl]
   refine⟨k+1,by omega,by omega,?_⟩;try simp only[aD,QE,seval,aK,hw,hk0,hk2,Nat.le_refl,S_mapGd]
  ·have hlt:k=l.length:=by simp at hd;omega
   try simp only[↓QA,QB,seval,aK]
   refine cZ [] (by first|rfl|simp) ?_;try simp only[QS,QC,seval,aK]
theorem NW(σ:St)(f:AV)(l:List Bn)(hl:l.length<9223372036854775808)(hk:n7 σ f)(h:∀ i (hi:i<l.length),eK T f [.int .i64 i,encBn l[i]] (σ++[.cells (encBn l[i]).cells]) (.int .i64 0)):eK T (.func 382 [] []) [.lit (l.map encBn) false none,f] σ (.tuple [.int .i64 0,.int .i64 0]):=by
 refine cM (af:=a382) rfl (by simp[a382]) ?_;have hk0:=hk.nil;have hk2:∀ τ,b8 (σ++τ) σ.length 20 f=some f:=hk;try simp only[↓QA,QB,seval,aK,a382]
 refine b9 (S:=Nat) 0 (fun k=>k<=l.length) (fun k=>l.length-k) (fun k=>[(1,f),(9,.lit (l.map encBn) false none),(10,.int .i64 l.length),(11,.int .i64 k)]) (fun _=>σ) (Nat.zero_le _) rfl ?_ fun k hkl=>?_
 ·try simp only[aD,QE,seval,aK]
  try simp
 ·try simp only[↓QA,QB,seval,aK,W1]
  refine aF (fun hd=>?_) fun hd=>?_
  ·have hlt:k<l.length:=by simpa using hd
   have hs:=h k hlt;have hw:=bJ hlt hl;try simp only[↓QA,QB,seval,aK,hlt] at hs
   try simp only[↓QA,QB,seval,aK,hlt]
   refine aT hs ?_;try simp only[↓QA,QB,seval,aK,hw,show ((0:Int)==0)=true from rfl]
   refine⟨k+1,by omega,by omega,?_⟩;try simp only[aD,QE,seval,aK,hw,hk0,hk2,Nat.le_refl,S_mapBn]
  ·have hlt:k=l.length:=by simp at hd;omega
   try simp only[↓QA,QB,seval,aK]
   refine cZ [] (by first|rfl|simp) ?_;try simp only[QS,QC,seval,aK]
theorem N2(σ:St)(f:AV)(l:List Ct)(hl:l.length<9223372036854775808)(hk:n7 σ f)(h:∀ i (hi:i<l.length),eK T f [.int .i64 i,encCt l[i]] (σ++[.cells (encCt l[i]).cells]) (.int .i64 0)):eK T (.func 384 [] []) [.lit (l.map encCt) false none,f] σ (.tuple [.int .i64 0,.int .i64 0]):=by
 refine cM (af:=a384) rfl (by simp[a384]) ?_;have hk0:=hk.nil;have hk2:∀ τ,b8 (σ++τ) σ.length 20 f=some f:=hk;try simp only[↓QA,QB,seval,aK,a384]
 refine b9 (S:=Nat) 0 (fun k=>k<=l.length) (fun k=>l.length-k) (fun k=>[(1,f),(9,.lit (l.map encCt) false none),(10,.int .i64 l.length),(11,.int .i64 k)]) (fun _=>σ) (Nat.zero_le _) rfl ?_ fun k hkl=>?_
 ·try simp only[aD,QE,seval,aK]
  try simp
 ·try simp only[↓QA,QB,seval,aK,UB]
  refine aF (fun hd=>?_) fun hd=>?_
  ·have hlt:k<l.length:=by simpa using hd
   have hs:=h k hlt;have hw:=bJ hlt hl;try simp only[↓QA,QB,seval,aK,hlt] at hs
   try simp only[↓QA,QB,seval,aK,hlt]
   refine aT hs ?_;try simp only[↓QA,QB,seval,aK,hw,show ((0:Int)==0)=true from rfl]
   refine⟨k+1,by omega,by omega,?_⟩;try simp only[aD,QE,seval,aK,hw,hk0,hk2,Nat.le_refl,S_mapCt]
  ·have hlt:k=l.length:=by simp at hd;omega
   try simp only[↓QA,QB,seval,aK]
   refine cZ [] (by first|rfl|simp) ?_;try simp only[QS,QC,seval,aK]
theorem OU{l:HLot}(hv:Vd l){i:Nat}(hi:i<l.grades.length):mW l.grades[i].name=true/\jA l.grades[i].name ((l.grades.take i).map Gd.name)=((l.grades.take i).map Gd.name).length:=by
 have:=hv.name i hi;unfold fresh at this;split at this
 ·omega
 ·rename_i h;split at this
  ·rename_i h2;exact⟨by simpa using h,h2⟩
  ·omega
theorem aHY(l:HLot)(hf:Fits l)(hv:Vd l)(i:Nat)(hi:i<l.grades.length):cE T 472 [.lit (l.grades.map encGd) false none,.int .i64 i] (.bool false):=by
 refine aZ (af:=a472) rfl (by simp[a472]) dd ?_;have h1:=(OU hv hi).1;have hsz:=hf.names _ (List.getElem_mem hi);obtain⟨x,hx⟩:∃ x,l.grades[i]=x:=⟨_,rfl⟩;rw[hx] at h1 hsz;try simp only[↓QA,QB,seval,aK,a472,hi,hx]
 (refine aE (Fa.handname_ok x.name hsz) rfl dd ?_;try simp only[↓QA,QB,seval,aK,h1])
theorem aCC(g:List Gd)(i:Nat)(hi:i<g.length)(x:Gd):eK T (.func 475 [] [.ptr 0 0,.ptr 1 0]) [encGd x] [.cells [.lit (g.map encGd) false none],.cells [.int .i64 i]] (.bool (decide (x.name=g[i].name))):=by
 refine cM (af:=a475) rfl (by simp[a475]) ?_;obtain⟨y,hy⟩:∃ y,g[i]=y:=⟨_,rfl⟩;rw[hy]
 (repeat (first|simp only[↓QA,QB,seval,aK,a475,hi,hy,AU]|refine rd0 rfl ?_))
 refine cZ _ rfl ?_;try simp only[QS,QC,seval,aK]
theorem aE7(l:HLot)(hf:Fits l)(hv:Vd l)(i:Nat)(hi:i<l.grades.length):cE T 473 [.lit (l.grades.map encGd) false none,.int .i64 i] (.bool false):=by
 refine aZ (af:=a473) rfl (by simp[a473]) dd ?_;have h1:=(OU hv hi).2;have hfg:=hf.grades;have hc:=JW [.cells [.lit (l.grades.map encGd) false none],.cells [.int .i64 i]] (.func 475 [] [.ptr 0 0,.ptr 1 0]) (l.grades.take i) (fun x=>decide (x.name=l.grades[i].name)) (by simp;omega) (fun τ=>by try simp only[QS,QC,seval,aK]) fun x _=>aCC l.grades i hi x
 rw[Fa.any_nameOf] at hc;have h2:decide (jA l.grades[i].name ((l.grades.take i).map Gd.name)≠((l.grades.take i).map Gd.name).length)=false:=by rw[decide_eq_false_iff_not];exact fun h=>h h1
 rw[h2] at hc;try simp only[↓QA,QB,seval,aK,a473,VZ (enc:=encGd) (l:=l.grades) (Nat.le_of_lt hi)]
 refine aT hc ?_;try simp only[↓QA,QB,seval,aK]
theorem aHU(l:HLot)(hf:Fits l)(hv:Vd l)(i:Nat)(hi:i<l.grades.length):cE T 476 [.lit (l.grades.map encGd) false none,.int .i64 i] (.bool false):=by
 refine aZ (af:=a476) rfl (by simp[a476]) dd ?_;obtain⟨g1,g2⟩:=hv.gr i hi;rw[DG hi] at g1;rw[BI hi] at g2;obtain⟨x,hx⟩:∃ x,l.grades[i]=x:=⟨_,rfl⟩;rw[hx] at g1 g2;have b1:=cH.2 g1;have b2:=cH.2 g2;try simp only[↓QA,QB,seval,aK,a476,hi,hx]
 (refine bE (Fa.off_ok 1 12 [x.hands] (by simp)) (by simp[clr,clrs,aG]) (by simp[okV,okVs]) ?_;try simp only[↓QA,QB,seval,aK,Fa.beyond1,b1,hi,hx])
 (refine bE (Fa.off_ok 0 9 [x.scars] (by simp)) (by simp[clr,clrs,aG]) (by simp[okV,okVs]) ?_;try simp only[↓QA,QB,seval,aK,Fa.beyond1,b2,hi,hx])
theorem aGJ(l:HLot)(hf:Fits l)(hv:Vd l)(i:Nat)(hi:i<l.grades.length):cE T 477 [.lit (l.grades.map encGd) false none,.int .i64 i] (.bool false):=by
 refine aZ (af:=a477) rfl (by simp[a477]) dd ?_;have hn:=hv.ngr;by_cases h0:i=0
 ·subst h0
  (repeat (first|simp only[↓QA,QB,seval,aK,a477,show decide ((0:Int)<((0:Nat):Int))=false from rfl]|refine rd0 rfl ?_))
 ·have g1:decide ((0:Int)<(i:Int))=true:=by simp;omega
  have hw:IntKind.i64.wrap ((i:Int)-1)=((i-1:Nat):Int):=by rw[bL ⟨by omega,by omega⟩];omega
  have hi1:i-1<l.grades.length:=by omega
  obtain⟨a1,a2⟩:=hv.asc i hi (by omega);rw[DG hi,DG hi1] at a1;rw[BI hi,BI hi1] at a2;obtain⟨x,hx⟩:∃ x,l.grades[i]=x:=⟨_,rfl⟩;obtain⟨y,hy⟩:∃ y,l.grades[i-1]=y:=⟨_,rfl⟩;rw[hx,hy] at a1 a2;have h3:decide (y.hands<=x.hands)=false:=by simp;omega
  have h4:decide (x.scars<y.scars)=false:=by simp;omega
  (repeat (first|simp only[↓QA,QB,seval,aK,a477,g1,hw,hi,hx,hi1,hy,h3,h4]|refine rd0 rfl ?_))
def zM:List (Int×Nat):=[(6,472),(5,473),(7,476),(2,477)]
def BV(p:Int×Nat):AV:=.agg [.int .i64 p.1,.func p.2 [] []]
theorem V9(p:Int×Nat):BV p = .agg [.int .i64 p.1,.func p.2 [] []]:=by simp only[BV]
theorem V6:cE T 381 [] (.lit (zM.map BV) false none):=by
 refine aZ (af:=a381) rfl (by simp[a381]) bA ?_;try simp only[↓QA,QB,seval,aK,a381,zM,BV,List.map_cons,List.map_nil]
 try simp[okV,okVs,bZ,b8,snap,snaps]
theorem GP(l:HLot)(hf:Fits l)(hv:Vd l)(i:Nat)(hi:i<l.grades.length):eK T (.func 380 [] [.ptr 0 0]) [.int .i64 i,encGd l.grades[i]] [.cells (lotCells l),.cells (encGd l.grades[i]).cells] (.int .i64 0):=by
 refine cM (af:=a380) rfl (by simp[a380]) ?_;obtain⟨x,hx⟩:∃ x,l.grades[i]=x:=⟨_,rfl⟩;rw[hx];have hlen:(zM.map BV).length=4:=rfl;have hle2:zM.length=4:=rfl;try simp only[↓QA,QB,seval,aK,a380]
 refine aE V6 rfl bA ?_;try simp only[↓QA,QB,seval,aK,hlen,hle2]
 refine b9 (S:=Nat) 0 (fun k=>k<=4) (fun k=>4-k) (fun k=>[(0,.int .i64 i),(2,.ptr 0 0),(8,.lit (zM.map BV) false none),(9,.int .i64 4),(10,.int .i64 k)]) (fun _=>[.cells (lotCells l),.cells (encGd x).cells,.cells (encGd x).cells]) (by omega) (by simp[lotCells,encGd,AV.cells]) ?_ fun k hk=>?_
 ·try simp only[aD,QE,seval,aK]
  try simp
 try simp only[↓QA,QB,seval,aK,WO]
 refine aF (fun hd=>?_) fun hd=>?_
 ·have hk1:k<4:=by simp at hd;omega
  have hw:=bJ hk1 (by omega);have hlk:k<zM.length:=hk1;have hpk:∃ e id,zM[k]=(e,id)/\cE T id [.lit (l.grades.map encGd) false none,.int .i64 i] (.bool false):=by
   match k,hlk with
   |0,_=>exact⟨_,_,rfl,aHY l hf hv i hi⟩
   |1,_=>exact⟨_,_,rfl,aE7 l hf hv i hi⟩
   |2,_=>exact⟨_,_,rfl,aHU l hf hv i hi⟩
   |3,_=>exact⟨_,_,rfl,aGJ l hf hv i hi⟩
  obtain⟨e,id,hid,hp⟩:=hpk;have hcl:cG 2 (.agg [.int .i64 e,.func id [] []])=true:=by simp[cG,AV.cells,AV.cell]
  try simp only[↓QA,QB,seval,aK,hlk,hid,hcl,V9]
  (refine aE (hp) rfl dd ?_;try simp only[↓QA,QB,seval,aK])
  refine⟨k+1,by omega,by omega,?_⟩;try simp only[aD,QE,seval,aK,hw]
  try simp[aY,zM,BV,okV,okVs,bZ,b8,snap,snaps,clrs,clr]
 ·try simp only[↓QA,QB,seval,aK]
  refine cZ _ rfl ?_;try simp only[QS,QC,seval,aK]
theorem FY(i:Int)(b:Bn)(cs:List AV)(h:(1<=b.hands.lo/\b.hands.lo<=b.hands.hi/\b.hands.hi<=12)/\b.hands.hi-b.hands.lo<=3/\0<=b.scars.lo/\b.scars.lo<=b.scars.hi/\b.scars.hi<=9):eK T (.func 383 [] []) [.int .i64 i,encBn b] [.cells cs,.cells (encBn b).cells] (.int .i64 0):=by
 refine cM (af:=a383) rfl (by simp[a383]) ?_;obtain⟨h1,h2,h3,h4,h5⟩:=h;have b1:inR b.hands.lo 1 12=true:=cH.2 (by omega);have b2:inR b.hands.hi 1 12=true:=cH.2 (by omega);have b3:inR b.scars.lo 0 9=true:=cH.2 (by omega);have b4:inR b.scars.hi 0 9=true:=cH.2 (by omega);have c1:(!inR b.hands.lo 1 12||!inR b.hands.hi 1 12)=false:=by rw[b1,b2];rfl
 have c2:(!inR b.scars.lo 0 9||!inR b.scars.hi 0 9)=false:=by rw[b3,b4];rfl
 have b5:inR (b.hands.hi-b.hands.lo) 0 3=true:=cH.2 (by omega);have b6:decide (b.scars.hi<b.scars.lo)=false:=by simp;omega
 have hw:IntKind.i64.wrap (b.hands.hi-b.hands.lo)=b.hands.hi-b.hands.lo:=bL ⟨by omega,by omega⟩;try simp only[↓QA,QB,seval,aK,a383]
 (refine bE (Fa.off_ok 1 12 [b.hands.lo,b.hands.hi] (by simp)) (by simp[clr,clrs,aG]) (by simp[okV,okVs]) ?_;try simp only[↓QA,QB,seval,aK,Fa.beyond2,c1])
 (refine bE (Fa.off_ok 0 9 [b.scars.lo,b.scars.hi] (by simp)) (by simp[clr,clrs,aG]) (by simp[okV,okVs]) ?_;try simp only[↓QA,QB,seval,aK,Fa.beyond2,c2,hw])
 (refine bE (Fa.off_ok 0 3 [b.hands.hi-b.hands.lo] (by simp)) (by simp[clr,clrs,aG]) (by simp[okV,okVs]) ?_;try simp only[↓QA,QB,seval,aK,Fa.beyond1,b5,b6])
 refine cZ _ rfl ?_;try simp only[QS,QC,seval,aK]
theorem GW(l:HLot)(hv:Vd l)(i:Int)(c:Ct)(hc:c∈l.counts):eK T (.func 385 [] [.ptr 0 0]) [.int .i64 i,encCt c] [.cells (lotCells l),.cells (encCt c).cells] (.int .i64 0):=by
 refine cM (af:=a385) rfl (by simp[a385]) ?_;have hnb:=hv.nbn;obtain⟨h1,h2⟩:=hv.ct c hc;have hp:=aC0 hnb;have hp0:0<2^l.bunches.length:=Nat.pow_pos (by omega);have vs:=yM l.bunches.length (by omega);have hw:IntKind.i64.wrap (((2^l.bunches.length:Nat):Int)-1)=((2^l.bunches.length-1:Nat):Int):=by rw[bL ⟨by omega,by omega⟩];omega
 obtain⟨A,hA⟩:∃ A,((2^l.bunches.length-1:Nat):Int)=A:=⟨_,rfl⟩;rw[hA] at hw h1;have b1:=cH.2 h1;have b2:=cH.2 h2
 (repeat (first|simp only[↓QA,QB,seval,aK,a385,vs,hw]|refine rd0 rfl ?_))
 ((first|refine bE (Fa.off_ok 1 A [c.bunches] (by simp)) (by simp[clr,clrs,aG]) (by simp[okV,okVs]) ?_|refine fZ (Fa.off_ok 1 A [c.bunches] (by simp)) (by simp[clr,clrs,aG]) (by simp[okV,okVs]) ?_);(repeat (first|simp only[↓QA,QB,seval,aK,Fa.beyond1,b1]|refine rd0 rfl ?_)))
 ((first|refine bE (Fa.off_ok 0 72 [c.hands] (by simp)) (by simp[clr,clrs,aG]) (by simp[okV,okVs]) ?_|refine fZ (Fa.off_ok 0 72 [c.hands] (by simp)) (by simp[clr,clrs,aG]) (by simp[okV,okVs]) ?_);(repeat (first|simp only[↓QA,QB,seval,aK,Fa.beyond1,b2]|refine rd0 rfl ?_)))
 refine cZ _ rfl ?_;try simp only[QS,QC,seval,aK]
theorem SE(l:HLot)(hf:Fits l)(hv:Vd l):cE T 248 [encHLot l] (enc3 (0,0,0)):=by
 refine aZ (af:=a248) rfl (by simp[a248]) dd ?_;have hng:=hv.ngr;have hnb:=hv.nbn;have hnc:=hv.nct;have b1:inR (l.grades.length:Int) 1 4=true:=cH.2 (by omega);have b2:decide ((6:Int)<(l.bunches.length:Int))=false:=by simp;omega
 have b3:decide ((4:Int)<(l.counts.length:Int))=false:=by simp;omega
 have f1:=MD [.cells (lotCells l)] (.func 380 [] [.ptr 0 0]) l.grades hf.grades (fun τ=>by try simp only[QS,QC,seval,aK]) fun i hi=>GP l hf hv i hi
 have f2:=NW [.cells (lotCells l)] (.func 383 [] []) l.bunches hf.bunches (fun τ=>by try simp only[QS,QC,seval,aK]) fun i hi=>FY i l.bunches[i] (lotCells l) (hv.bn _ (List.getElem_mem hi))
 have f3:=N2 [.cells (lotCells l)] (.func 385 [] [.ptr 0 0]) l.counts hf.counts (fun τ=>by try simp only[QS,QC,seval,aK]) fun i hi=>GW l hv i l.counts[i] (List.getElem_mem hi)
 try simp only[↓QA,QB,seval,aK] at f1
 try simp only[↓QA,QB,seval,aK] at f2
 try simp only[↓QA,QB,seval,aK] at f3
 try simp only[↓QA,QB,seval,aK,a248]
 (refine bE (Fa.off_ok 1 4 [(l.grades.length:Int)] (by simp)) (by simp[clr,clrs,aG]) (by simp[okV,okVs]) ?_;try simp only[↓QA,QB,seval,aK,Fa.beyond1,b1])
 refine aT f1 ?_;try simp only[↓QA,QB,seval,aK,b2,show ((0:Int)==0)=true from rfl]
 refine aT f2 ?_;try simp only[↓QA,QB,seval,aK,b3,show ((0:Int)==0)=true from rfl]
 refine aT f3 ?_;try simp only[↓QA,QB,seval,aK,show ((0:Int)==0)=true from rfl,enc3]
end Go.Am.Room.Ha
namespace Go.Am.Room
structure ObjAt {X:Type} (S:X->St) (obj:List AV) (p N:Nat):Prop where
 len:∀ x,(S x).length=N
 at0:∀ x,aM (S x) p=some obj
 pl:p<N
def j3{X:Type}(Z ZD:X->St)(r:X×Bool):St:=if r.2=true then Z r.1 else ZD r.1
def mN{A X:Type}(Z ZD:X->St)(id:Nat)(args:A->List AV)(P:A->Prop)(f:A->X->X×Bool):Prop :=
 ∀ t,P t->∀ x τ,Run T (.callv (.yield id) (args t) (Z x++τ)) fun o=>o.v = .bool (f t x).2/\∃ τ',o.σ=j3 Z ZD (f t x)++(τ++τ')
theorem RF{X:Type}{S:X->St}{obj:List AV}{p N:Nat}(hS:ObjAt S obj p N)(U UD:X->St)(n:Nat)(hU:∀ x,(U x).length=n)(hUD:∀ x,(UD x).length=n)(J:AJump)(e:Env)(k:Nat)(ps:List Nat)(a bb:ACode)(g:FuncId)(ek:Env.get e k = .func g [] [.ptr (N+n) 0])(r:X×Bool)(x:X)(hrun:Run T (.call g [.yield (N+n+1),.ptr (N+n) 0] (S x++(U x++[.cells [.ptr p 0],.loop .ready none e ps a bb]))) fun o=>∃ τ',o.σ=j3 (fun x=>S x++(U x++[.cells [.ptr p 0],.loop .ready none e ps a bb])) (fun x=>S x++(UD x++[.cells [.ptr p 0],.loop .done (some J) e ps a bb])) r++τ')(K:KJ)(hT:∀ τ,r.2=true->K none e (S r.1++(U r.1++(.cells [.ptr p 0]::.dead::τ))))(hD:∀ τ,r.2=false->K (some J) e (S r.1++(UD r.1++(.cells [.ptr p 0]::.dead::τ)))):
  rK (K:=⟨K⟩) T (.rangeFunc (.t k) ps a bb) e (S x++(U x++[.cells [.ptr p 0]])):=by
 have hlen:(S x++(U x++[ABlk.cells [.ptr p 0]])).length=N+n+1:=by simp[hS.len,hU];omega
 have hout:∀ (A W:St) (lp:ABlk) (τ':St),A.length=N->W.length=n->(A++(W++[ABlk.cells [.ptr p 0],lp])++τ')[N+n+1]? = some lp/\(A++(W++[ABlk.cells [.ptr p 0],lp])++τ').set (N+n+1) .dead=A++(W++(.cells [.ptr p 0]::.dead::τ')):=by
  intro A W lp τ' hA hW;have h1:N+n+1=(A++W).length+1:=by simp[hA,hW]
  have h2:A++(W++[ABlk.cells [.ptr p 0],lp])++τ'=(A++W)++(.cells [.ptr p 0]::lp::τ'):=by simp
  rw[h1,h2];constructor
  ·rw[sO];rfl
  ·rw[pA];simp
 refine K4 (by rw[O7,ek]) (by
  rw[hlen,List.append_assoc (S x),List.append_assoc (U x)]
  exact hrun) fun o ho=>?_
 obtain⟨τ',hσ⟩:=ho;rw[hlen,hσ];cases hr2:r.2
 ·have hD':=hD τ' hr2;obtain⟨g1,g2⟩:=hout (S r.1) (UD r.1) (.loop .done (some J) e ps a bb) τ' (hS.len _) (hUD _);simp only[j3,hr2,Bool.false_eq_true,if_false];rw[g1,g2];exact⟨_,_,_,_,_,_,rfl,by simp,hD'⟩
 ·have hT':=hT τ' hr2;obtain⟨g1,g2⟩:=hout (S r.1) (U r.1) (.loop .ready none e ps a bb) τ' (hS.len _) (hU _);simp only[j3,hr2,if_true];rw[g1,g2];exact⟨_,_,_,_,_,_,rfl,by simp,hT'⟩
theorem LG{X A:Type}{S:X->St}{obj:List AV}{p N:Nat}(hS:ObjAt S obj p N)(U UD:X->St)(n:Nat)(hU:∀ x,(U x).length=n)(hUD:∀ x,(UD x).length=n)(J:AJump)(e:Env)(ps:List Nat)(args:A->List AV)(hps:∀ t,ps.length=(args t).length)(a bb:ACode){P:A->Prop}{f:A->X->X×Bool}(h:∀ t,P t->∀ x τ,wp T a (j5 e ps (args t)) (S x++(U x++(.cells [.ptr p 0]::.loop .ready none e ps a bb::τ))) (fun j e' σ'=>j=none/\∃ τ1,σ'=S x++(U x++(.cells [.ptr p 0]::.loop .ready none e ps a bb::(τ++τ1))) /\
   wp T bb e' (S x++(U x++(.cells [.ptr p 0]::.loop .busy none e ps a bb::(τ++τ1)))) (fun j e'' σ''=>((f t x).2=true/\j=none/\∃ τ',σ''=S (f t x).1++(U (f t x).1++(.cells [.ptr p 0]::.loop .busy none e ps a bb::(τ++τ')))) \/
    ((f t x).2=false/\j=some J/\∃ τ',σ''=S (f t x).1++(UD (f t x).1++(.cells [.ptr p 0]::.loop .busy none e ps a bb::(τ++τ'))))))):
  mN (fun x=>S x++(U x++[.cells [.ptr p 0],.loop .ready none e ps a bb])) (fun x=>S x++(UD x++[.cells [.ptr p 0],.loop .done (some J) e ps a bb])) (N+n+1) args P f:=by
 intro t ht x τ;have hget:∀ (A W:St) (lp:ABlk) (υ:St),A.length=N->W.length=n->(A++(W++(ABlk.cells [.ptr p 0]::lp::υ)))[N+n+1]? = some lp:=by
  intro A W lp υ hA hW;have h1:N+n+1=(A++W).length+1:=by simp[hA,hW]
  rw[h1,<-List.append_assoc,sO];rfl
 have hset:∀ (A W:St) (lp l2:ABlk) (υ:St),A.length=N->W.length=n->(A++(W++(ABlk.cells [.ptr p 0]::lp::υ))).set (N+n+1) l2=A++(W++(ABlk.cells [.ptr p 0]::l2::υ)):=by
  intro A W lp l2 υ hA hW;have h1:N+n+1=(A++W).length+1:=by simp[hA,hW]
  rw[h1,<-List.append_assoc,pA];simp
 obtain⟨r,hr⟩:∃ r,f t x=r:=⟨_,rfl⟩;have h:=h t ht x τ;rw[hr] at h ⊢;have hst:(fun x=>S x++(U x++[ABlk.cells [.ptr p 0],.loop .ready none e ps a bb])) x++τ=S x++(U x++(.cells [.ptr p 0]::.loop .ready none e ps a bb::τ)):=by simp
 rw[hst];refine .round (env:=e) (ps:=ps) (a:=a) (b:=bb)
  (R:=fun o=>o.j=none/\∃ τ1,o.σ=S x++(U x++(.cells [.ptr p 0]::.loop .ready none e ps a bb::(τ++τ1)))/\wp T bb o.env (S x++(U x++(.cells [.ptr p 0]::.loop .busy none e ps a bb::(τ++τ1)))) (fun j e'' σ''=>(r.2=true/\j=none/\∃ τ',σ''=S r.1++(U r.1++(.cells [.ptr p 0]::.loop .busy none e ps a bb::(τ++τ')))) \/
    (r.2=false/\j=some J/\∃ τ',σ''=S r.1++(UD r.1++(.cells [.ptr p 0]::.loop .busy none e ps a bb::(τ++τ'))))))
  (S:=fun o=>(r.2=true/\o.j=none/\∃ τ',o.σ=S r.1++(U r.1++(.cells [.ptr p 0]::.loop .busy none e ps a bb::(τ++τ'))))\/(r.2=false/\o.j=some J/\∃ τ',o.σ=S r.1++(UD r.1++(.cells [.ptr p 0]::.loop .busy none e ps a bb::(τ++τ'))))) (hget _ _ _ _ (hS.len _) (hU _)) (by rw[hps t]) (eP h fun o ho=>ho) ?_ ?_ ?_
 ·rintro o ⟨hj,τ1,hσ,_⟩;exact⟨hj,by rw[hσ];exact hget _ _ _ _ (hS.len _) (hU _)⟩
 ·rintro o ⟨_,τ1,hσ,hw⟩;rw[hσ,hset _ _ _ _ _ (hS.len _) (hU _)];exact eP hw fun o ho=>ho
 ·rintro o (⟨hr2,hj,τ',hσ⟩|⟨hr2,hj,τ',hσ⟩)
  ·rw[hσ,hj,hget _ _ _ _ (hS.len _) (hU _),hset _ _ _ _ _ (hS.len _) (hU _)];refine⟨rfl,by rw[hr2];rfl,τ',?_⟩;simp[j3,hr2]
  ·rw[hσ,hj,hget _ _ _ _ (hS.len _) (hUD _),hset _ _ _ _ _ (hS.len _) (hUD _)];refine⟨rfl,by rw[hr2];rfl,τ',?_⟩;simp[j3,hr2]
end Go.Am.Room
namespace Go.Am.Room.Ha
theorem PB:∀ (k n:Nat),AB n k=decide (n/2^k%2=1)
 |0,n=>by
  simp only[AB,Nat.pow_zero,Nat.div_one];rw[Bool.eq_iff_iff];simp<;>omega
 |k+1,n=>by
  simp only[AB];rw[PB k,Nat.pow_succ,Nat.mul_comm,Nat.div_div_eq_div_mul]
theorem zG(bits:Nat){f:Nat->Int}{n:Nat}(h:∀ i,n<=i->f i=0):∀ k,dF bits f (n+k)=dF bits f n
 |0=>rfl
 |k+1=>by
  rw[<-Nat.add_assoc];simp only[dF,zG bits h k,h (n+k) (by omega)];split<;>omega
theorem aDP{p:List Int}{i:Nat}(h:p.length<=i):gF p i=0:=by simp[gF,List.getElem?_eq_none h]
theorem NI(bits:Nat)(p:List Int)(h:p.length<=6):dF bits (gF p) 6=dF bits (gF p) p.length:=by
 have:=zG bits (f:=gF p) (n:=p.length) (fun i hi=>aDP hi) (6-p.length)
 rwa [show p.length+(6-p.length)=6 by omega] at this
def QG(A:Nat->Int)(c:Ct):Bool:=dF c.bunches.toNat A 6==c.hands
def soA(l:HLot)(A:Nat->Int):Bool:=l.counts.all (QG A)
theorem aGQ(l:HLot){p:List Int}(h:p.length<=6):soA l (gF p)=uH l p:=by
 unfold soA uH
 congr 1
 funext c;rw[QG,wI,NI _ _ h]
def lv:List (List Int)->List Int->List (List Int)
 |[],l=>[l]
 |xs::rs,l=>xs.flatMap fun n=>lv rs (l++[n])
def gis(c:HLot):List (List Int):=(List.range c.bunches.length).map (m6 c)
theorem A6(c:HLot):(gis c).length=c.bunches.length:=by simp[gis]
theorem JL{c:HLot}{n:Nat}(hn:n<c.bunches.length):(gis c).drop n=m6 c n::(gis c).drop (n+1):=by
 rw[List.drop_eq_getElem_cons (by rw[A6];exact hn)];simp[gis]
theorem aDI(c:HLot):∀ k n,n+k=c.bunches.length->(fI c n).flatMap (lv ((gis c).drop n))=iO c
 |0,n,h=>by
  have h1:(gis c).drop n=[]:=List.drop_eq_nil_of_le (by rw[A6];omega);rw[h1,show n=c.bunches.length by omega];show (iO c).flatMap (fun l=>[l])=iO c
  simp
 |k+1,n,h=>by
  rw[JL (show n<c.bunches.length by omega),<-aDI c k (n+1) (by omega)];simp only[fI,List.flatMap_assoc,List.flatMap_map];rfl
theorem aFE(c:HLot):lv (gis c) []=iO c:=by
 have:=aDI c c.bunches.length 0 (by omega);simpa[fI] using this
theorem uM:∀ (k:Nat) (n:Int),(aW n k).Nodup
 |0,n=>by simp[aW]
 |k+1,n=>by
  simp only[aW,List.nodup_cons];refine⟨fun h=>?_,uM k (n+1)⟩;rw[cX] at h;omega
theorem VX{α β:Type}(f:α->β){l:List α}(h:l.Nodup)(hi:∀ a∈l,∀ b∈l,f a=f b->a=b):(l.map f).Nodup:=by
 unfold List.Nodup at h ⊢;rw[List.pairwise_map];exact h.imp_of_mem fun ha hb hne e=>hne (hi _ ha _ hb e)
theorem HN(c:HLot)(n:Nat):(m6 c n).Nodup:=by
 unfold m6;split
 ·exact uM _ _
 ·simp
theorem w9{c:HLot}(hv:Vd c):∀ n,(fI c n).Nodup
 |0=>by simp[fI]
 |n+1=>by
  have ih:=w9 hv n;have hin:=uD hv n;simp only[fI];unfold List.Nodup;rw[List.pairwise_flatMap];refine⟨fun p _=>VX _ (HN c n) fun a _ b _ e=>?_,?_⟩
  ·simpa using e
  ·refine List.Pairwise.imp_of_mem ?_ ih;intro p q hp hq hne x hx y hy e;obtain⟨a,_,rfl⟩:=List.mem_map.1 hx;obtain⟨b,_,rfl⟩:=List.mem_map.1 hy;refine hne (List.append_inj_left e ?_);rw[(hin p hp).1,(hin q hq).1]
structure WOk (c:HLot) (w:List Int):Prop where
 len:w.length=c.bunches.length
 bd:∀ x∈w,1<=x/\x<=12
theorem KG{c:HLot}(hv:Vd c){w:List Int}(h:w∈iO c):WOk c w:=⟨(felt_in hv h).1,(felt_in hv h).2⟩
def rF(w:List Int)(la:Nat->Int):Bool:=(List.range 6).all fun i=>gF w i==la i
section
variable {Y:Type} (c:HLot) (f:List Int->Y->Y×Bool)
def WE(w:List Int)(z:Y):Y×Bool:=if uH c w=true then f w z else (z,true)
def vK(w:List Int)(x:(Nat->Int)×Y):((Nat->Int)×Y)×Bool :=
 if (decide (0<c.bunches.length)&&rF w x.1)=true then (x,true) else if uH c w=true then ((gF w,(f w x.2).1),(f w x.2).2) else (x,true)
theorem W6{c:HLot}(hb:c.bunches.length<=6){v w:List Int}(hv:v.length=c.bunches.length)(hw:w.length=c.bunches.length)(h:rF v (gF w)=true):v=w:=by
 simp only[rF,List.all_eq_true,List.mem_range,beq_iff_eq] at h;refine List.ext_getElem (by omega) fun i h1 h2=>?_
 have:=h i (by omega);simpa[gF,h1,h2] using this
theorem vC(hb:c.bunches.length<=6):∀ (az:List (List Int)) (la:Nat->Int) (z:Y),(∀ a∈az,WOk c a)->az.Nodup->(∀ a∈az,(decide (0<c.bunches.length)&&rF a la)=false)->(bK (vK c f) az (la,z)).1.2=(bK (WE c f) az z).1/\(bK (vK c f) az (la,z)).2=(bK (WE c f) az z).2
 |[],la,z,_,_,_=>⟨rfl,rfl⟩
 |a::az,la,z,hw,hn,hl=>by
  simp only[List.nodup_cons] at hn;have hne:¬(decide (0<c.bunches.length)&&rF a la)=true:=by rw[hl a (by simp)];simp
  simp only[bK,vK,WE,hne,if_false];by_cases hs:uH c a=true
  ·simp only[hs,if_true];obtain⟨r,hr⟩:∃ r,f a z=r:=⟨_,rfl⟩;rw[hr];cases h2:r.2
   ·simp
   ·simp only[if_true];refine vC hb az _ _ (fun b hb2=>hw b (by simp[hb2])) hn.2 fun b hb2=>?_
    cases hq:rF b (gF a)
    ·simp
    ·have:=W6 hb (hw b (by simp[hb2])).len (hw a (by simp)).len hq;rw[this] at hb2;exact absurd hb2 hn.1
  ·simp only[hs,if_false,if_true];exact vC hb az la _ (fun b hb2=>hw b (by simp[hb2])) hn.2 fun b hb2=>hl b (by simp[hb2])
theorem qO:∀ (az:List (List Int)) (z:Y),bK (WE c f) az z=bK f (az.filter (uH c)) z
 |[],z=>rfl
 |a::az,z=>by
  simp only[bK,WE,List.filter_cons];by_cases hs:uH c a=true
  ·simp only[hs,if_true,bK,qO az]
  ·simp only[hs,if_false,if_true,qO az];simp
end
theorem ZF{c:HLot}(hb:c.bunches.length<=6){a:List Int}(h:WOk c a):(decide (0<c.bunches.length)&&rF a fun _=>0)=false:=by
 by_cases h0:0<c.bunches.length
 ·simp only[h0,decide_true,Bool.true_and];cases hq:rF a fun _=>0
  ·rfl
  ·simp only[rF,List.all_eq_true,List.mem_range,beq_iff_eq] at hq;have hl:=h.len;have h1:=hq 0 (by omega);have ha:0<a.length:=by omega
   have h2:=h.bd _ (List.getElem_mem ha);simp only[gF,List.getElem?_eq_getElem ha,Option.getD_some] at h1;omega
 ·simp[h0]
theorem SH{Y:Type}{c:HLot}(hv:Vd c)(f:List Int->Y->Y×Bool)(z:Y):(bK (vK c f) (iO c) (fun _=>0,z)).1.2=(bK f (waysOf c) z).1/\(bK (vK c f) (iO c) (fun _=>0,z)).2=(bK f (waysOf c) z).2:=by
 have:=vC c f hv.nbn (iO c) (fun _=>0) z (fun a ha=>KG hv ha) (w9 hv _) fun a ha=>ZF hv.nbn (KG hv ha)
 rw[qO] at this;exact this
end Go.Am.Room.Ha
namespace Go.Am.Room.Ha
def iJ:=zz @encGd_eq (zz @encBn_eq (zz @encCt_eq (zz @aR (zz @S_mapGd (zz @S_mapBn (zz @S_mapCt (zz @List.length_append.{0} (zz @Nat.mul_one (zz @Int.toNat_natCast (zz @eM (zz @fV (zz @fU (zz @fT (zz @lV (zz @O3 (zz @eJ (zz @Nat.add_lt_add_iff_left (@Nat.lt_add_right_iff_pos))))))))))))))))))
def lb(l:HLot)(m:Nat):List AV:=lotCells l++[.int .i64 0,.map m]
theorem rQ(l:HLot)(m:Nat):(lb l m)[0]? = some (.lit (l.grades.map encGd) false none):=rfl
theorem rP(l:HLot)(m:Nat):(lb l m)[1]? = some (.lit (l.bunches.map encBn) false none):=rfl
theorem rO(l:HLot)(m:Nat):(lb l m)[2]? = some (.lit (l.counts.map encCt) false none):=rfl
theorem rM(l:HLot)(m:Nat):(lb l m)[3]? = some (.int .i64 0):=rfl
theorem rN(l:HLot)(m:Nat):(lb l m)[4]? = some (.map m):=rfl
structure LAt {Y:Type} (Z:Y->St) (l:HLot) (m p N:Nat):Prop where
 len:∀ z,(Z z).length=N
 atp:∀ z τ,aM (Z z++τ) p=some (lb l m)
 pl:p<N
namespace LAt
variable {Y:Type} {Z:Y->St} {l:HLot} {m p N:Nat}
theorem base(h:LAt Z l m p N)(z:Y)(τ:St)(k:Nat):aM (Z z++τ) (N+k)=aM τ k:=by rw[<-h.len z];exact lW _ _ _
theorem base0(h:LAt Z l m p N)(z:Y)(τ:St):aM (Z z++τ) N=aM τ 0:=h.base z τ 0
theorem bset(h:LAt Z l m p N)(z:Y)(τ:St)(k:Nat)(y:ABlk):(Z z++τ).set (N+k) y=Z z++τ.set k y:=by rw[<-h.len z];exact pA _ _ _ _
theorem bset0(h:LAt Z l m p N)(z:Y)(τ:St)(y:ABlk):(Z z++τ).set N y=Z z++τ.set 0 y:=h.bset z τ 0 y
theorem app(h:LAt Z l m p N)(τ:St):LAt (fun z=>Z z++τ) l m p (N+τ.length):=⟨fun z=>by rw[List.length_append,h.len],fun z υ=>by rw[List.append_assoc];exact h.atp z _,by have:=h.pl;omega⟩
end LAt
theorem aO3(k:Nat)(hk:k<60):cY .shr (.int .i64 0) (.int .i64 (k:Int))=some (.int .i64 0):=by
 have:=OR 0 k (by omega);simpa using this
theorem aC6:cY .and (.int .i64 0) (.int .i64 1)=some (.int .i64 0):=by
 have:=GA 0 (by omega);simpa using this
def soB(l:HLot)(A:Nat->Int)(n:Nat):Bool:=(l.counts.take n).all (QG A)
theorem U2{l:HLot}{k:Nat}(hk:k<l.counts.length)(A:Nat->Int):soB l A (k+1)=(soB l A k&&QG A l.counts[k]):=by
 rw[soB,soB,List.take_add_one,List.all_append,List.getElem?_eq_getElem hk];simp
theorem PK(l:HLot)(A:Nat->Int):soB l A l.counts.length=soA l A:=by simp[soB,soA]
theorem aGW{l:HLot}{A:Nat->Int}{k:Nat}(h:soB l A k=false):soA l A=false:=by
 rw[<-PK];cases e:soB l A l.counts.length
 ·rfl
 ·rw[<-h];symm;simp only[soB,List.all_eq_true] at e ⊢;exact fun x hx=>e x (by rw[List.take_length];exact List.mem_of_mem_take hx)
set_option maxHeartbeats 1000000 in
theorem aF3{Y:Type}{Z:Y->St}{l:HLot}{m p N:Nat}(hR:LAt Z l m p N)(hv:Vd l)(z:Y)(A:Nat->Int)(hA:∀ i,0<=A i/\A i<=12):eK T (.func 374 [.ptr p 0] []) [.agg (bP 6 A)] (Z z) (.bool (soA l A)):=by
 refine cM (af:=a374) rfl (by simp[a374]) ?_;have hnc:=hv.nct;have hpl:=hR.pl;obtain⟨R,hRe⟩:∃ R,soA l A=R:=⟨_,rfl⟩;rw[hRe]
 (repeat (first|simp only[↓QA,QB,reduceLT,reduceIte,reduceEqDiff,reduceAdd,reduceLeDiff,reduceMul,Nat.reduceBEq,iJ,hR.len,hR.base,hR.base0,hR.bset,hR.bset0,hR.atp,rQ,rP,rO,rM,rN,a374]|refine rd0 rfl ?_))
 refine b9 (S:=Nat) 0 (fun k=>k<=l.counts.length/\soB l A k=true) (fun k=>l.counts.length-k)
  (fun k=>[(0,.ptr p 0),(3,.ptr N 0),(14,.lit (l.counts.map encCt) false none),(15,.int .i64 l.counts.length),(16,.int .i64 k)]) (fun _=>Z z++[.cells (bP 6 A)]) ⟨Nat.zero_le _,by simp[soB]⟩ rfl ?_ fun k hk=>?_
 ·try simp only[aD,QE,reduceLT,reduceIte,reduceEqDiff,reduceAdd,reduceLeDiff,reduceMul,Nat.reduceBEq,iJ,hR.len,hR.base,hR.base0,hR.bset,hR.bset0,hR.atp,rQ,rP,rO,rM,rN]
  try simp
 obtain⟨hk,hso⟩:=hk
 (repeat (first|simp only[↓QA,QB,reduceLT,reduceIte,reduceEqDiff,reduceAdd,reduceLeDiff,reduceMul,Nat.reduceBEq,iJ,hR.len,hR.base,hR.base0,hR.bset,hR.bset0,hR.atp,rQ,rP,rO,rM,rN,WH]|refine rd0 rfl ?_))
 refine aF (fun h=>?_) fun h=>?_
 ·have hk1:k<l.counts.length:=by simpa using h
  have hw:=bJ hk1 (by omega);have hsu:=U2 hk1 A;rw[hso,Bool.true_and] at hsu;have hbb:=OD hv (List.getElem_mem hk1);obtain⟨x,hx⟩:∃ x,l.counts[k]=x:=⟨_,rfl⟩;rw[hx] at hsu hbb;obtain⟨B,hB⟩:∃ B:Nat,x.bunches=B:=⟨x.bunches.toNat,by omega⟩;have hcn:QG A x=(dF B A 6==x.hands):=by simp only[QG,hB,Int.toNat_natCast]
  rw[hcn] at hsu
  (repeat (first|simp only[↓QA,QB,reduceLT,reduceIte,reduceEqDiff,reduceAdd,reduceLeDiff,reduceMul,Nat.reduceBEq,iJ,hR.len,hR.base,hR.base0,hR.bset,hR.bset0,hR.atp,rQ,rP,rO,rM,rN,hk1,hx,hB]|refine rd0 rfl ?_))
  refine b9 (S:=Nat) 0 (fun b=>b<=6) (fun b=>6-b)
   (fun b=>[(0,.ptr p 0),(3,.ptr N 0),(5,.int .i64 k),(6,.ptr (N+1) 0),(7,.int .i64 (dF B A b)),(14,.lit (l.counts.map encCt) false none),(15,.int .i64 l.counts.length),(16,.int .i64 k),(21,.agg (bP 6 A)),(22,.int .i64 b)])
   (fun _=>Z z++[.cells (bP 6 A),.cells [.int .i64 (B:Int),.int .i64 x.hands]]) (by omega) (by rfl) ?_ fun b hb=>?_
  ·try simp only[aD,QE,reduceLT,reduceIte,reduceEqDiff,reduceAdd,reduceLeDiff,reduceMul,Nat.reduceBEq,iJ,hR.len,hR.base,hR.base0,hR.bset,hR.bset0,hR.atp,rQ,rP,rO,rM,rN,dF]
   try simp[dF]
  (repeat (first|simp only[↓QA,QB,reduceLT,reduceIte,reduceEqDiff,reduceAdd,reduceLeDiff,reduceMul,Nat.reduceBEq,iJ,hR.len,hR.base,hR.base0,hR.bset,hR.bset0,hR.atp,rQ,rP,rO,rM,rN,VR]|refine rd0 rfl ?_))
  refine aF (fun h2=>?_) fun h2=>?_
  ·have hb1:b<6:=by simp at h2;omega
   have hwb:=bJ hb1 (by omega);have ib:(0:Int)<=(b:Int)/\(b:Int)<((6:Nat):Int):=⟨by omega,by omega⟩;have hg:=iP 6 A hb1;have vs:=OR B b (by omega);have va:=GA (B/2^b) (Nat.lt_of_le_of_lt (Nat.div_le_self _ _) (by omega));have hh:=yH hA B b;have hAb:=hA b;have hst:dF B A (b+1)=dF B A b+A b*((B/2^b%2:Nat):Int):=by
    show (if AB B b=true then dF B A b+A b else dF B A b)=_
    rw[PB];rcases Nat.mod_two_eq_zero_or_one (B/2^b) with h|h<;>simp[h]
   have hmb:0<=A b*((B/2^b%2:Nat):Int)/\A b*((B/2^b%2:Nat):Int)<=12:=by
    rcases Nat.mod_two_eq_zero_or_one (B/2^b) with h|h<;>simp[h]<;>omega
   obtain⟨U,hU⟩:∃ U,A b*((B/2^b%2:Nat):Int)=U:=⟨_,rfl⟩;rw[hU] at hst hmb;have w1:IntKind.i64.wrap (A b*((B/2^b%2:Nat):Int))=U:=by rw[hU];exact bL ⟨by omega,by omega⟩
   have w2:IntKind.i64.wrap (dF B A b+U)=dF B A (b+1):=by rw[hst];exact bL ⟨by omega,by omega⟩
   (repeat (first|simp only[↓QA,QB,reduceLT,reduceIte,reduceEqDiff,reduceAdd,reduceLeDiff,reduceMul,Nat.reduceBEq,iJ,hR.len,hR.base,hR.base0,hR.bset,hR.bset0,hR.atp,rQ,rP,rO,rM,rN,ib,hg,vs,va,w1,w2]|refine rd0 rfl ?_))
   refine⟨b+1,by omega,by omega,?_⟩;try simp only[aD,QE,reduceLT,reduceIte,reduceEqDiff,reduceAdd,reduceLeDiff,reduceMul,Nat.reduceBEq,iJ,hR.len,hR.base,hR.base0,hR.bset,hR.bset0,hR.atp,rQ,rP,rO,rM,rN,hwb]
   try simp[aY,okVs,okV,n6]
   try omega
  ·have hb1:b=6:=by simp at h2;omega
   subst hb1;have vs:=aO3 k (by omega);obtain⟨S,hS⟩:∃ S,dF B A 6=S:=⟨_,rfl⟩;rw[hS] at hsu;rw[hS];cases hq:(S==x.hands)
   ·rw[hq] at hsu;have hfin:R=false:=by rw[<-hRe];exact aGW hsu
    subst hfin
    (repeat (first|simp only[↓QA,QB,reduceLT,reduceIte,reduceEqDiff,reduceAdd,reduceLeDiff,reduceMul,Nat.reduceBEq,iJ,hR.len,hR.base,hR.base0,hR.bset,hR.bset0,hR.atp,rQ,rP,rO,rM,rN,vs,aC6,show ((0:Int)==0)=true from rfl,hq]|refine rd0 rfl ?_))
    refine cZ _ rfl ?_;try simp only[QS,QC,reduceLT,reduceIte,reduceEqDiff,reduceAdd,reduceLeDiff,reduceMul,Nat.reduceBEq,iJ,hR.len,hR.base,hR.base0,hR.bset,hR.bset0,hR.atp,rQ,rP,rO,rM,rN]
   ·rw[hq] at hsu
    (repeat (first|simp only[↓QA,QB,reduceLT,reduceIte,reduceEqDiff,reduceAdd,reduceLeDiff,reduceMul,Nat.reduceBEq,iJ,hR.len,hR.base,hR.base0,hR.bset,hR.bset0,hR.atp,rQ,rP,rO,rM,rN,vs,aC6,show ((0:Int)==0)=true from rfl,hq]|refine rd0 rfl ?_))
    refine⟨k+1,⟨by omega,hsu⟩,by omega,?_⟩;try simp only[aD,QE,reduceLT,reduceIte,reduceEqDiff,reduceAdd,reduceLeDiff,reduceMul,Nat.reduceBEq,iJ,hR.len,hR.base,hR.base0,hR.bset,hR.bset0,hR.atp,rQ,rP,rO,rM,rN,hw]
    try simp[aY,okVs,okV,n6]
    try omega
 ·have hk1:k=l.counts.length:=by simp at h;omega
  have hfin:R=true:=by rw[<-hRe,<-PK,<-hk1,hso]
  subst hfin
  (repeat (first|simp only[↓QA,QB,reduceLT,reduceIte,reduceEqDiff,reduceAdd,reduceLeDiff,reduceMul,Nat.reduceBEq,iJ,hR.len,hR.base,hR.base0,hR.bset,hR.bset0,hR.atp,rQ,rP,rO,rM,rN]|refine rd0 rfl ?_))
  refine cZ _ rfl ?_;try simp only[QS,QC,reduceLT,reduceIte,reduceEqDiff,reduceAdd,reduceLeDiff,reduceMul,Nat.reduceBEq,iJ,hR.len,hR.base,hR.base0,hR.bset,hR.bset0,hR.atp,rQ,rP,rO,rM,rN]
end Go.Am.Room.Ha
