/-
  What the statements' arguments hold, read off the form's own reading of them: events.
-/
import Derived.Test.YtlafbakoefcifaaGreatGa12
import Derived.Test.YtlafbakoefcifaaGreatGa08
import Derived.ProofKit
import Derived.SliceStrings
import Derived.Deep.Slices
import Derived.Deep.Fields
import Derived.Test.YtlafbakoefcifaaGreatGa38
import Derived.Test.YtlafbakoefcifaaGreatRows
import Derived.JoinedOf
set_option linter.unusedVariables false
set_option linter.unusedSimpArgs false
namespace Go.Proofs.YtlafbakoefcifaaGreat
open Go.ChangeShapes Go.WideShapes Go.ChangeAt Go.RowKit Go.Deep
section
theorem below_size_of_cell{w:World}{a:Addr}{v:Value}(h:w.cell? a=some v):a.block<w.heap.size:=World.block_lt_of_cell? w _ h
def NilOk(A:Option Addr)(n c:Nat):Prop:=A=none→n=0∧c=0
section
variable {H:Type} {enc:TypeId×Value→H} {W:World} {base:Nat} {sp:Nat→Bool} {held:Bool} {fuel:Nat} {cs:List Value} {x:DataW H×List MemPlace}
theorem wf_i64{n:Int}(h:(Lit.int .i64 n).wf=true): -9223372036854775808≤n∧n≤9223372036854775807:=by
 simp[Lit.wf,IntKind.min,IntKind.max,IntKind.signed,IntKind.bits] at h;omega
theorem vInt(h:DataW.trod enc Tryz.prog W base sp held fuel 3 cs=some x):∃ n,cs=[.int .i64 n]∧ -9223372036854775808≤n∧n≤9223372036854775807:=by
 obtain⟨n,h1,-,h3⟩:=DataW.trod_int Tryz.underlying3 h;exact⟨n,h1,wf_i64 h3⟩
theorem vStr(h:DataW.trod enc Tryz.prog W base sp held fuel 9 cs=some x):∃ s:ByteArray,cs=[.string s]∧s.size≤maxLen:=by
 obtain⟨s,h1,-,h3⟩:=DataW.trod_string Tryz.underlying9 h;exact⟨s,h1,h3⟩
def OldB(W:World):Nat→Prop:=fun k=>k<W.heap.size
theorem rd_take_str{ss:List ByteArray}{a:Addr}{len:Nat}(hl:len≤ss.length)(hc:∀ i,i<ss.length→W.cell? (a.add i)=some (.string (ss.getD i ByteArray.empty))):Rd W (OldB W) 1 (some a) len ((ss.take len).map Value.string):=by
 refine⟨by simp[Nat.min_eq_left hl],fun hn=>⟨a,rfl,?_,?_,fun j u hu=>?_⟩⟩
 ·have:=below_size_of_cell (hc 0 (by omega))
  rw[block_of_add] at this;exact this
 ·have:=below_size_of_cell (hc 0 (by omega))
  rw[block_of_add] at this;exact this
 ·have hj:j<len:=by
   have:=(List.getElem?_eq_some_iff.1 hu).1;simp at this;omega
  rw[hc j (by omega),← hu];simp only[List.getElem?_map,List.getElem?_take,hj,if_true,List.getD_eq_getElem?_getD];rw[List.getElem?_eq_getElem (by omega)];rfl
theorem vStrs(h:DataW.trod enc Tryz.prog W base sp held fuel 52 cs=some x):
  ∃ A n c,∃ l:List ByteArray,cs=[.slice A n c]∧l.length=n∧Rd W (OldB W) 1 A n (l.map Value.string)∧NilOk A n c∧n≤c∧c≤maxLen∧∀ s ∈ l,s.size≤maxLen:=by
 rcases open_strings Tryz.underlying52 Tryz.underlying9 (by kernel_rfl) h with ⟨rfl,-⟩ | ⟨a,len,cap,ss,rfl,-,hl,hm,hz,-,hc,hw⟩
 ·exact⟨none,0,0,[],rfl,rfl,Rd.none_,fun _=>⟨rfl,rfl⟩,Nat.le_refl _,Nat.zero_le _,by simp⟩
 ·have hzl:len≤ss.length:=by rw[hz];split<;>omega
  exact⟨some a,len,cap,ss.take len,rfl,by simp[Nat.min_eq_left hzl],rd_take_str hzl hc,(fun e=>by cases e),hl,hm,fun k hk=>hw k (List.mem_of_mem_take hk)⟩
structure EvIs(e:Ev):Prop where
 kind: -9223372036854775808≤e.kind∧e.kind≤9223372036854775807
 a: -9223372036854775808≤e.a∧e.a≤9223372036854775807
 b: -9223372036854775808≤e.b∧e.b≤9223372036854775807
 n: -9223372036854775808≤e.n∧e.n≤9223372036854775807
 s:e.s.size≤maxLen
 t:e.t.size≤maxLen
 u:e.u.size≤maxLen
theorem list7{α:Type}{l:List α}(h:l.length=7):∃ a b c d e f g,l=[a,b,c,d,e,f,g]:=by
 match l,h with
 | [a,b,c,d,e,f,g],_=>exact⟨a,b,c,d,e,f,g,rfl⟩
theorem field_of{n i t:Nat}{f:Field}{xs:List (DataW H×List MemPlace)}{fs:Array Field}(hg:∀ (i:Nat) (f:Field),fs[i]? =some f→DataW.trod enc Tryz.prog W base sp held n f.type ((cs.drop f.offset).take (Tryz.prog.cellsOf f.type))=xs[i]?)(hxl:xs.length=fs.size)
  (hi:fs[i]? =some f) (ht:f.type=t) (h1:Tryz.prog.cellsOf t=1) (ho:f.offset=i) {v:Value} (hv:(cs.drop i).take 1=[v]):∃ y,DataW.trod enc Tryz.prog W base sp held n t [v]=some y:=by
 have h:=hg i f hi;rw[ht,h1,ho,hv] at h;have hlt:i<xs.length:=by rw[hxl];exact(Array.getElem?_eq_some_iff.1 hi).1
 exact⟨xs[i],by rw[h,List.getElem?_eq_getElem hlt]⟩
theorem one_int:Tryz.prog.cellsOf 3=1:=by kernel_rfl
theorem one_string:Tryz.prog.cellsOf 9=1:=by kernel_rfl
theorem vEv(h:DataW.trod enc Tryz.prog W base sp held fuel 38 cs=some x):∃ o:Ev,cs=o.cells∧EvIs o:=by
 have hC:Tryz.prog.cellsOf 38=7:=by kernel_rfl
 obtain⟨xs,n,-,-,hlen,hxl,hg⟩:=DataW.trod_struct Tryz.underlying38 h;rw[hC] at hlen;obtain⟨c0,c1,c2,c3,c4,c5,c6,rfl⟩:=list7 hlen;obtain⟨y0,h0⟩:=field_of (i:=0) hg hxl rfl rfl one_int rfl rfl;obtain⟨y1,h1⟩:=field_of (i:=1) hg hxl rfl rfl one_int rfl rfl;obtain⟨y2,h2⟩:=field_of (i:=2) hg hxl rfl rfl one_int rfl rfl;obtain⟨y3,h3⟩:=field_of (i:=3) hg hxl rfl rfl one_int rfl rfl;obtain⟨y4,h4⟩:=field_of (i:=4) hg hxl rfl rfl one_string rfl rfl;obtain⟨y5,h5⟩:=field_of (i:=5) hg hxl rfl rfl one_string rfl rfl;obtain⟨y6,h6⟩:=field_of (i:=6) hg hxl rfl rfl one_string rfl rfl;obtain⟨k,e0,w0⟩:=vInt h0;obtain⟨a,e1,w1⟩:=vInt h1;obtain⟨b,e2,w2⟩:=vInt h2;obtain⟨m,e3,w3⟩:=vInt h3;obtain⟨s,e4,w4⟩:=vStr h4;obtain⟨t,e5,w5⟩:=vStr h5;obtain⟨u,e6,w6⟩:=vStr h6;injection e0 with e0;injection e1 with e1;injection e2 with e2;injection e3 with e3;injection e4 with e4;injection e5 with e5;injection e6 with e6;subst e0;subst e1;subst e2;subst e3;subst e4;subst e5;subst e6;exact⟨⟨k,a,b,m,s,t,u⟩,rfl,⟨w0,w1,w2,w3,w4,w5,w6⟩⟩
theorem evs_len(l:List Ev):(l.flatMap Ev.cells).length=l.length * 7:=by
 induction l with
 | nil=>rfl
 | cons o l ih=>
   rw[List.flatMap_cons,List.length_append,ih,List.length_cons];have:o.cells.length=7:=rfl;omega
theorem vEvs(h:DataW.trod enc Tryz.prog W base sp held fuel 22 cs=some x):
  ∃ A n c,∃ l:List Ev,cs=[.slice A n c]∧l.length=n∧Rd W (OldB W) 7 A n (l.flatMap Ev.cells)∧(∀ o ∈ l,EvIs o)∧NilOk A n c∧n≤c∧c≤maxLen:=by
 have hC:Tryz.prog.cellsOf 38=7:=by kernel_rfl
 rcases open_slice Tryz.underlying22 h with ⟨rfl,-⟩ | ⟨a,len,cap,m,n,D,Pl,rfl,-,hl,hm,hmm,-,hi⟩
 ·exact⟨none,0,0,[],rfl,rfl,Rd.none_,by simp,fun _=>⟨rfl,rfl⟩,Nat.le_refl _,Nat.zero_le _⟩
 ·have hml:len≤m:=by rw[hmm];split<;>omega
  rw[hC] at hi
  have hex:∀ i,i<len→∃ o:Ev,EvIs o∧∀ j u,o.cells[j]? =some u→W.cell? (a.add (i * 7+j))=some u:=by
   intro i hlt;obtain⟨cs',hc,ht⟩:=hi i (by omega);obtain⟨o,rfl,ho⟩:=vEv ht;obtain⟨-,-,hat⟩:=World.cells?_some hc;refine⟨o,ho,fun j u hu=>?_⟩
   have hj:j<7:=by
    have:=(List.getElem?_eq_some_iff.1 hu).1
    simpa [Ev.cells] using this
   rw[← add_of_add,hat j hj,hu]
  obtain⟨l,hll,hlo⟩:∃ l:List Ev,l.length=len∧∀ i (h:i<l.length),EvIs l[i]∧∀ j u,l[i].cells[j]? =some u→W.cell? (a.add (i * 7+j))=some u:=by
   clear hm hmm hi hl hml h
   induction len with
   | zero=>exact⟨[],rfl,fun i h=>by simp at h⟩
   | succ len ih=>
     obtain⟨l,h1,h2⟩:=ih fun i hi=>hex i (by omega)
     obtain⟨o,ho⟩:=hex len (by omega);refine⟨l++[o],by simp[h1],fun i hi=>?_⟩
     by_cases e:i<l.length
     ·rw[List.getElem_append_left e]
      exact h2 i e
     ·have e2:i=l.length:=by simp at hi;omega
      subst e2;rw[List.getElem_append_right (Nat.le_refl _)];simp only[Nat.sub_self,List.getElem_cons_zero];rw[h1];exact ho
  refine⟨some a,len,cap,l,rfl,hll,⟨by rw[evs_len,hll],fun hn=>⟨a,rfl,?_,?_,?_⟩⟩,fun o ho=>?_,(fun e=>by cases e),hl,hm⟩
  ·have:=below_size_of_cell ((hlo 0 (by omega)).2 0 _ rfl)
   rw[block_of_add] at this;exact this
  ·have:=below_size_of_cell ((hlo 0 (by omega)).2 0 _ rfl)
   rw[block_of_add] at this;exact this
  ·intro j u hu
   have hsplit:∀ (l:List Ev) (j:Nat) (u:Value),(l.flatMap Ev.cells)[j]? =some u→∃ (i:Nat) (h:i<l.length) (r:Nat),j=i * 7+r∧l[i].cells[r]? =some u:=by
    intro l
    induction l with
    | nil=>intro j u hu;simp at hu
    | cons o l ih=>
      intro j u hu;rw[List.flatMap_cons] at hu;have h7:o.cells.length=7:=rfl
      by_cases hj:j<7
      ·rw[List.getElem?_append_left (by omega)] at hu
       exact⟨0,by simp,j,by omega,hu⟩
      ·rw[List.getElem?_append_right (by omega),h7] at hu
       obtain⟨i,hi,r,e,hr⟩:=ih _ _ hu;exact⟨i+1,by simpa using hi,r,by omega,by simpa using hr⟩
   obtain⟨i,hi,r,rfl,hr⟩:=hsplit l j u hu;exact(hlo i hi).2 r u hr
  ·obtain⟨i,hi,rfl⟩:=List.mem_iff_getElem.1 ho
   exact(hlo i hi).1
end
end
section
section
variable {H:Type} {enc:TypeId×Value→H} {W:World} {base:Nat} {sp:Nat→Bool} {held:Bool} {fuel:Nat} {cs:List Value} {x:DataW H×List MemPlace}
theorem slIn_of{s n c:Nat}{A:Option Addr}{xs:List Value}(h:Rd W (OldB W) s A n xs)(hn:NilOk A n c)(h1:n≤c)(h2:c≤maxLen):SlIn W (OldB W) s (A,c) n xs:=⟨h,fun e=>(hn e).2,h1,h2⟩
theorem vBool(h:DataW.trod enc Tryz.prog W base sp held fuel 4 cs=some x):∃ b:Bool,cs=[.bool b]:=by
 obtain⟨b,h1,-⟩:=DataW.trod_bool Tryz.underlying4 h;exact⟨b,h1⟩
theorem vList{α:Type}{f:α→List Value}{OK:α→Prop}{s st et:Nat}(hs:∀ a,(f a).length=s)(h0:0<s)(hu:Tryz.prog.underlying st=some (.slice et))(hC:Tryz.prog.cellsOf et=s)
  (hone:∀ {fu:Nat} {cs:List Value} {x:DataW H×List MemPlace},DataW.trod enc Tryz.prog W base sp held fu et cs=some x→∃ o,cs=f o∧OK o) (h:DataW.trod enc Tryz.prog W base sp held fuel st cs=some x):
  ∃ A n c,∃ l:List α,cs=[.slice A n c]∧l.length=n∧SlIn W (OldB W) s (A,c) n (l.flatMap f)∧∀ o ∈ l,OK o:=by
 rcases open_slice hu h with ⟨rfl,-⟩ | ⟨a,len,cap,m,n,D,Pl,rfl,-,hl,hm,hmm,-,hi⟩
 ·exact⟨none,0,0,[],rfl,rfl,SlIn.none_ _ _ _,by simp⟩
 ·have hml:len≤m:=by rw[hmm];split<;>omega
  rw[hC] at hi
  have hex:∀ i,i<len→∃ o:α,OK o∧∀ j u,(f o)[j]? =some u→W.cell? (a.add (i * s+j))=some u:=by
   intro i hlt;obtain⟨cs',hc,ht⟩:=hi i (by omega);obtain⟨o,rfl,ho⟩:=hone ht;obtain⟨-,-,hat⟩:=World.cells?_some hc;refine⟨o,ho,fun j u hu=>?_⟩
   have hj:j<s:=by
    have:=(List.getElem?_eq_some_iff.1 hu).1
    rwa [hs] at this
   rw[← add_of_add,hat j hj,hu]
  obtain⟨l,hll,hlo⟩:∃ l:List α,l.length=len∧∀ i (h:i<l.length),OK l[i]∧∀ j u,(f l[i])[j]? =some u→W.cell? (a.add (i * s+j))=some u:=by
   clear hm hmm hi hl hml h
   induction len with
   | zero=>exact⟨[],rfl,fun i h=>by simp at h⟩
   | succ len ih=>
     obtain⟨l,h1,h2⟩:=ih fun i hi=>hex i (by omega)
     obtain⟨o,ho⟩:=hex len (by omega);refine⟨l++[o],by simp[h1],fun i hi=>?_⟩
     by_cases e:i<l.length
     ·rw[List.getElem_append_left e]
      exact h2 i e
     ·have e2:i=l.length:=by simp at hi;omega
      subst e2;rw[List.getElem_append_right (Nat.le_refl _)];simp only[Nat.sub_self,List.getElem_cons_zero];rw[h1];exact ho
  refine⟨some a,len,cap,l,rfl,hll,⟨⟨by rw[flat_len hs,hll],fun hn=>?_⟩,(fun e=>by cases e),hl,hm⟩,fun o ho=>?_⟩
  ·have hlt:0<(f (l[0]'(by omega))).length:=by rw[hs];exact h0
   have hb:=below_size_of_cell ((hlo 0 (by omega)).2 0 _ (List.getElem?_eq_getElem hlt));rw[block_of_add] at hb;refine⟨a,rfl,hb,hb,?_⟩;intro j u hu
   have hj:j<l.length * s:=by
    have:=(List.getElem?_eq_some_iff.1 hu).1
    rwa [flat_len hs] at this
   have hq:j / s<l.length:=Nat.div_lt_of_lt_mul (by rw[Nat.mul_comm];exact hj);have hr:j % s<s:=Nat.mod_lt _ h0;have hjq:j / s * s+j % s=j:=by rw[Nat.mul_comm];exact Nat.div_add_mod j s
   rw[← hjq,flat_at hs l (j / s) hq (j % s) hr] at hu;have:=(hlo (j / s) hq).2 (j % s) u hu
   rwa [hjq] at this
  ·obtain⟨i,hi,rfl⟩:=List.mem_iff_getElem.1 ho
   exact(hlo i hi).1
theorem one_bool:Tryz.prog.cellsOf 4=1:=by kernel_rfl
theorem one_strs:Tryz.prog.cellsOf 52=1:=by kernel_rfl
theorem vlFol{α:Type}{l:List α}(h:l.length=3):∃ c0 c1 c2,l=[c0,c1,c2]:=by
 match l,h with
 | [c0,c1,c2],_=>exact⟨c0,c1,c2,rfl⟩
theorem vFol(h:DataW.trod enc Tryz.prog W base sp held fuel 49 cs=some x):∃ o:Fol,cs=o.cells∧I64 o.id∧I64 o.inn:=by
 have hC:Tryz.prog.cellsOf 49=3:=by kernel_rfl
 obtain⟨xs,n,-,-,hlen,hxl,hg⟩:=DataW.trod_struct Tryz.underlying49 h;rw[hC] at hlen;obtain⟨c0,c1,c2,rfl⟩:=vlFol hlen;obtain⟨y0,h0⟩:=field_of (i:=0) hg hxl rfl rfl one_int rfl rfl;obtain⟨y1,h1⟩:=field_of (i:=1) hg hxl rfl rfl one_int rfl rfl;obtain⟨y2,h2⟩:=field_of (i:=2) hg hxl rfl rfl one_string rfl rfl;obtain⟨a0,e0,w0⟩:=vInt h0;obtain⟨a1,e1,w1⟩:=vInt h1;obtain⟨a2,e2,w2⟩:=vStr h2;injection e0 with e0;subst e0;injection e1 with e1;subst e1;injection e2 with e2;subst e2;exact⟨⟨a0,a1,a2⟩,rfl,w0,w1⟩
theorem vlFee{α:Type}{l:List α}(h:l.length=4):∃ c0 c1 c2 c3,l=[c0,c1,c2,c3]:=by
 match l,h with
 | [c0,c1,c2,c3],_=>exact⟨c0,c1,c2,c3,rfl⟩
theorem vFee(h:DataW.trod enc Tryz.prog W base sp held fuel 51 cs=some x):∃ o:Fee,cs=o.cells∧I64 o.id∧I64 o.inn:=by
 have hC:Tryz.prog.cellsOf 51=4:=by kernel_rfl
 obtain⟨xs,n,-,-,hlen,hxl,hg⟩:=DataW.trod_struct Tryz.underlying51 h;rw[hC] at hlen;obtain⟨c0,c1,c2,c3,rfl⟩:=vlFee hlen;obtain⟨y0,h0⟩:=field_of (i:=0) hg hxl rfl rfl one_int rfl rfl;obtain⟨y1,h1⟩:=field_of (i:=1) hg hxl rfl rfl one_int rfl rfl;obtain⟨y2,h2⟩:=field_of (i:=2) hg hxl rfl rfl one_string rfl rfl;obtain⟨y3,h3⟩:=field_of (i:=3) hg hxl rfl rfl one_string rfl rfl;obtain⟨a0,e0,w0⟩:=vInt h0;obtain⟨a1,e1,w1⟩:=vInt h1;obtain⟨a2,e2,w2⟩:=vStr h2;obtain⟨a3,e3,w3⟩:=vStr h3;injection e0 with e0;subst e0;injection e1 with e1;subst e1;injection e2 with e2;subst e2;injection e3 with e3;subst e3;exact⟨⟨a0,a1,a2,a3⟩,rfl,w0,w1⟩
theorem vlSea{α:Type}{l:List α}(h:l.length=3):∃ c0 c1 c2,l=[c0,c1,c2]:=by
 match l,h with
 | [c0,c1,c2],_=>exact⟨c0,c1,c2,rfl⟩
theorem vSea(h:DataW.trod enc Tryz.prog W base sp held fuel 56 cs=some x):∃ o:Sea,cs=o.cells∧I64 o.id:=by
 have hC:Tryz.prog.cellsOf 56=3:=by kernel_rfl
 obtain⟨xs,n,-,-,hlen,hxl,hg⟩:=DataW.trod_struct Tryz.underlying56 h;rw[hC] at hlen;obtain⟨c0,c1,c2,rfl⟩:=vlSea hlen;obtain⟨y0,h0⟩:=field_of (i:=0) hg hxl rfl rfl one_int rfl rfl;obtain⟨y1,h1⟩:=field_of (i:=1) hg hxl rfl rfl one_string rfl rfl;obtain⟨y2,h2⟩:=field_of (i:=2) hg hxl rfl rfl one_string rfl rfl;obtain⟨a0,e0,w0⟩:=vInt h0;obtain⟨a1,e1,w1⟩:=vStr h1;obtain⟨a2,e2,w2⟩:=vStr h2;injection e0 with e0;subst e0;injection e1 with e1;subst e1;injection e2 with e2;subst e2;exact⟨⟨a0,a1,a2⟩,rfl,w0⟩
theorem vlItm{α:Type}{l:List α}(h:l.length=9):∃ c0 c1 c2 c3 c4 c5 c6 c7 c8,l=[c0,c1,c2,c3,c4,c5,c6,c7,c8]:=by
 match l,h with
 | [c0,c1,c2,c3,c4,c5,c6,c7,c8],_=>exact⟨c0,c1,c2,c3,c4,c5,c6,c7,c8,rfl⟩
theorem vItm(h:DataW.trod enc Tryz.prog W base sp held fuel 54 cs=some x):∃ o:Sl×Itm,cs=itmC o∧(I64 o.2.id∧I64 o.2.feed)∧SlIn W (OldB W) 1 o.1 o.2.tags.length (o.2.tags.map Value.string):=by
 have hC:Tryz.prog.cellsOf 54=9:=by kernel_rfl
 obtain⟨xs,n,-,-,hlen,hxl,hg⟩:=DataW.trod_struct Tryz.underlying54 h;rw[hC] at hlen;obtain⟨c0,c1,c2,c3,c4,c5,c6,c7,c8,rfl⟩:=vlItm hlen;obtain⟨y0,h0⟩:=field_of (i:=0) hg hxl rfl rfl one_int rfl rfl;obtain⟨y1,h1⟩:=field_of (i:=1) hg hxl rfl rfl one_int rfl rfl;obtain⟨y2,h2⟩:=field_of (i:=2) hg hxl rfl rfl one_int rfl rfl;obtain⟨y3,h3⟩:=field_of (i:=3) hg hxl rfl rfl one_string rfl rfl;obtain⟨y4,h4⟩:=field_of (i:=4) hg hxl rfl rfl one_string rfl rfl;obtain⟨y5,h5⟩:=field_of (i:=5) hg hxl rfl rfl one_string rfl rfl;obtain⟨y6,h6⟩:=field_of (i:=6) hg hxl rfl rfl one_bool rfl rfl;obtain⟨y7,h7⟩:=field_of (i:=7) hg hxl rfl rfl one_bool rfl rfl;obtain⟨y8,h8⟩:=field_of (i:=8) hg hxl rfl rfl one_strs rfl rfl;obtain⟨a0,e0,w0⟩:=vInt h0;obtain⟨a1,e1,w1⟩:=vInt h1;obtain⟨a2,e2,w2⟩:=vInt h2;obtain⟨a3,e3,w3⟩:=vStr h3;obtain⟨a4,e4,w4⟩:=vStr h4;obtain⟨a5,e5,w5⟩:=vStr h5;obtain⟨a6,e6⟩:=vBool h6;obtain⟨a7,e7⟩:=vBool h7;obtain⟨A,nn,cc,a8,e8,hn,hr,hk,k1,k2,hw⟩:=vStrs h8;injection e0 with e0;subst e0;injection e1 with e1;subst e1;injection e2 with e2;subst e2;injection e3 with e3;subst e3;injection e4 with e4;subst e4;injection e5 with e5;subst e5;injection e6 with e6;subst e6;injection e7 with e7;subst e7;injection e8 with e8;subst e8;subst hn;exact⟨⟨(A,cc),⟨a0,a1,a2,a3,a4,a5,a6,a7,a8⟩⟩,rfl,⟨w0,w1⟩,slIn_of hr hk k1 k2⟩
theorem vFols(h:DataW.trod enc Tryz.prog W base sp held fuel 25 cs=some x):∃ A n c,∃ l:List Fol,cs=[.slice A n c]∧l.length=n∧SlIn W (OldB W) 3 (A,c) n (l.flatMap Fol.cells)∧∀ o ∈ l,I64 o.id∧I64 o.inn:=
 vList Fol.clen (by decide) Tryz.underlying25 (by kernel_rfl) (fun h=>vFol h) h
theorem vFees(h:DataW.trod enc Tryz.prog W base sp held fuel 26 cs=some x):∃ A n c,∃ l:List Fee,cs=[.slice A n c]∧l.length=n∧SlIn W (OldB W) 4 (A,c) n (l.flatMap Fee.cells)∧∀ o ∈ l,I64 o.id∧I64 o.inn:=
 vList Fee.clen (by decide) Tryz.underlying26 (by kernel_rfl) (fun h=>vFee h) h
theorem vSeas(h:DataW.trod enc Tryz.prog W base sp held fuel 28 cs=some x):∃ A n c,∃ l:List Sea,cs=[.slice A n c]∧l.length=n∧SlIn W (OldB W) 3 (A,c) n (l.flatMap Sea.cells)∧∀ o ∈ l,I64 o.id:=
 vList Sea.clen (by decide) Tryz.underlying28 (by kernel_rfl) (fun h=>vSea h) h
theorem vItms(h:DataW.trod enc Tryz.prog W base sp held fuel 27 cs=some x):∃ A n c,∃ l:List (Sl×Itm),cs=[.slice A n c]∧l.length=n∧SlIn W (OldB W) 9 (A,c) n (l.flatMap itmC)∧∀ o ∈ l,(I64 o.2.id∧I64 o.2.feed)∧SlIn W (OldB W) 1 o.1 o.2.tags.length (o.2.tags.map Value.string):=
 vList itmC_len (by decide) Tryz.underlying27 (by kernel_rfl) (fun h=>vItm h) h
theorem one_fols:Tryz.prog.cellsOf 25=1:=by kernel_rfl
theorem one_fees:Tryz.prog.cellsOf 26=1:=by kernel_rfl
theorem one_itms:Tryz.prog.cellsOf 27=1:=by kernel_rfl
theorem one_seas:Tryz.prog.cellsOf 28=1:=by kernel_rfl
structure StIs(W:World)(fo fe it se:Sl)(ts:List (Sl×Itm))(x:St):Prop where
 st:StIn W (OldB W) fo fe it se ts x
 nums:StNums x
theorem vSt(h:DataW.trod enc Tryz.prog W base sp held fuel 30 cs=some x):∃ fo fe it se:Sl,∃ ts:List (Sl×Itm),∃ s:St,Value.agg cs.toArray=stV fo fe it se s∧StIs W fo fe it se ts s:=by
 have hC:Tryz.prog.cellsOf 30=9:=by kernel_rfl
 obtain⟨xs,n,-,-,hlen,hxl,hg⟩:=DataW.trod_struct Tryz.underlying30 h;rw[hC] at hlen;obtain⟨c0,c1,c2,c3,c4,c5,c6,c7,c8,rfl⟩:=vlItm hlen;obtain⟨y0,h0⟩:=field_of (i:=0) hg hxl rfl rfl one_int rfl rfl;obtain⟨y1,h1⟩:=field_of (i:=1) hg hxl rfl rfl one_fols rfl rfl;obtain⟨y2,h2⟩:=field_of (i:=2) hg hxl rfl rfl one_fees rfl rfl;obtain⟨y3,h3⟩:=field_of (i:=3) hg hxl rfl rfl one_itms rfl rfl;obtain⟨y4,h4⟩:=field_of (i:=4) hg hxl rfl rfl one_seas rfl rfl;obtain⟨y5,h5⟩:=field_of (i:=5) hg hxl rfl rfl one_int rfl rfl;obtain⟨y6,h6⟩:=field_of (i:=6) hg hxl rfl rfl one_int rfl rfl;obtain⟨y7,h7⟩:=field_of (i:=7) hg hxl rfl rfl one_int rfl rfl;obtain⟨y8,h8⟩:=field_of (i:=8) hg hxl rfl rfl one_int rfl rfl;obtain⟨a0,e0,w0⟩:=vInt h0;obtain⟨A1,n1,k1,l1,e1,hn1,hs1,ho1⟩:=vFols h1;obtain⟨A2,n2,k2,l2,e2,hn2,hs2,ho2⟩:=vFees h2;obtain⟨A3,n3,k3,l3,e3,hn3,hs3,ho3⟩:=vItms h3;obtain⟨A4,n4,k4,l4,e4,hn4,hs4,ho4⟩:=vSeas h4;obtain⟨a5,e5,w5⟩:=vInt h5;obtain⟨a6,e6,w6⟩:=vInt h6;obtain⟨a7,e7,w7⟩:=vInt h7;obtain⟨a8,e8,w8⟩:=vInt h8;injection e0 with e0;injection e1 with e1;injection e2 with e2;injection e3 with e3;injection e4 with e4;injection e5 with e5;injection e6 with e6;injection e7 with e7;injection e8 with e8;subst e0;subst e1;subst e2;subst e3;subst e4;subst e5;subst e6;subst e7;subst e8;subst hn1;subst hn2;subst hn3;subst hn4;refine⟨(A1,k1),(A2,k2),(A3,k3),(A4,k4),l3,⟨a0,l1,l2,l3.map (·.2),l4,a5,a6,a7,a8⟩,?_,⟨hs1,hs2,⟨hs3,fun p hp=>(ho3 p hp).2⟩,rfl,hs4⟩,⟨ho1,ho2,fun t ht=>?_,ho4,w5,w6,w7,w8⟩⟩
 ·unfold stV
  simp
 ·obtain⟨p,hp,rfl⟩:=List.mem_map.1 ht
  exact(ho3 p hp).1
end
end
namespace stateHistory
theorem closed1:laidOutB Tryz.pinned.checked.prog=true:=by kernel_rfl
theorem closed2:mapsRowed Tryz.pinned.checked.prog=true:=by kernel_rfl
theorem closed3:(Rows.stateHistoryRow.inPlace==Tryz.pinned.checked.prog.inPlace 4)=true:=by kernel_rfl
theorem closed4:(Rows.stateHistoryRow.unfollowed==Tryz.pinned.checked.prog.unfollowed 4)=true:=by kernel_rfl
theorem closed5:(Rows.stateHistoryRow.recurses==Tryz.pinned.checked.prog.recurses 4)=true:=by kernel_rfl
theorem closed6:(Rows.stateHistoryRow.named==Tryz.pinned.checked.prog.varsNamed 4)=true:=by kernel_rfl
theorem closed:joinedFacts Tryz.pinned.checked.prog 4 Tryz.f4 Rows.stateHistorySpec Rows.stateHistoryRow=true:=by
 unfold joinedFacts;rw[closed1,closed2,closed3,closed4,closed5,closed6]
 kernel_rfl
end stateHistory
end Go.Proofs.YtlafbakoefcifaaGreat
