/-
  What the statements' arguments hold, read off the form's own reading of them: events.
-/
import Derived.Test.YtlafbakoefcifaaGreatGa12
import Derived.Test.YtlafbakoefcifaaGreatGa08
import Derived.ProofKit
import Derived.SliceStrings
import Derived.Deep.Slices
import Derived.Deep.Fields
set_option linter.unusedVariables false
set_option linter.unusedSimpArgs false
namespace Go.Proofs.YtlafbakoefcifaaGreat
open Go.ChangeShapes Go.WideShapes Go.ChangeAt Go.RowKit Go.Deep
theorem below_size_of_cell {w:World} {a:Addr} {v:Value} (h:w.cell? a=some v):a.block<w.heap.size:=World.block_lt_of_cell? w _ h
def NilOk (A:Option Addr) (n c:Nat):Prop:=A=none→n=0∧c=0
theorem Frm.below {F:Nat→Prop} {w w1:World} {B:Nat} (h:Frm F w w1) (hF:∀ i,F i→B≤i) (hB:B≤w.heap.size):Below B w w1:=
 ⟨h.os,h.tape,h.output,h.size,fun i hi=>h.block i (by omega) (fun hf=>by have:=hF i hf;omega)⟩
section
variable {H:Type} {enc:TypeId×Value→H} {W:World} {base:Nat} {sp:Nat→Bool} {held:Bool} {fuel:Nat} {cs:List Value} {x:DataW H×List MemPlace}
theorem wf_i64 {n:Int} (h:(Lit.int .i64 n).wf=true): -9223372036854775808≤n∧n≤9223372036854775807:=by
 simp[Lit.wf,IntKind.min,IntKind.max,IntKind.signed,IntKind.bits] at h
 omega
theorem vInt (h:DataW.trod enc Tryz.prog W base sp held fuel 3 cs=some x):∃ n,cs=[.int .i64 n]∧ -9223372036854775808≤n∧n≤9223372036854775807:=by
 obtain⟨n,h1,-,h3⟩:=DataW.trod_int Tryz.underlying3 h
 exact⟨n,h1,wf_i64 h3⟩
theorem vStr (h:DataW.trod enc Tryz.prog W base sp held fuel 9 cs=some x):∃ s:ByteArray,cs=[.string s]∧s.size≤maxLen:=by
 obtain⟨s,h1,-,h3⟩:=DataW.trod_string Tryz.underlying9 h
 exact⟨s,h1,h3⟩
def OldB (W:World):Nat→Prop:=fun k=>k<W.heap.size
theorem rd_take {zs:List Int} {f:Int→Value} {a:Addr} {len:Nat} (hl:len≤zs.length) (hc:∀ i,i<zs.length→W.cell? (a.add i)=some (f (zs.getD i 0))):Rd W (OldB W) 1 (some a) len ((zs.take len).map f):=by
 refine⟨by simp[Nat.min_eq_left hl],fun hn=>⟨a,rfl,?_,?_,fun j u hu=>?_⟩⟩
 ·have:=below_size_of_cell (hc 0 (by omega))
  rw[block_of_add] at this
  exact this
 ·have:=below_size_of_cell (hc 0 (by omega))
  rw[block_of_add] at this
  exact this
 ·have hj:j<len:=by
   have:=(List.getElem?_eq_some_iff.1 hu).1
   simp at this
   omega
  rw[hc j (by omega),← hu]
  simp only[List.getElem?_map,List.getElem?_take,hj,if_true,List.getD_eq_getElem?_getD]
  rw[List.getElem?_eq_getElem (by omega)]
  rfl
theorem rd_take_str {ss:List ByteArray} {a:Addr} {len:Nat} (hl:len≤ss.length) (hc:∀ i,i<ss.length→W.cell? (a.add i)=some (.string (ss.getD i ByteArray.empty))):Rd W (OldB W) 1 (some a) len ((ss.take len).map Value.string):=by
 refine⟨by simp[Nat.min_eq_left hl],fun hn=>⟨a,rfl,?_,?_,fun j u hu=>?_⟩⟩
 ·have:=below_size_of_cell (hc 0 (by omega))
  rw[block_of_add] at this
  exact this
 ·have:=below_size_of_cell (hc 0 (by omega))
  rw[block_of_add] at this
  exact this
 ·have hj:j<len:=by
   have:=(List.getElem?_eq_some_iff.1 hu).1
   simp at this
   omega
  rw[hc j (by omega),← hu]
  simp only[List.getElem?_map,List.getElem?_take,hj,if_true,List.getD_eq_getElem?_getD]
  rw[List.getElem?_eq_getElem (by omega)]
  rfl
theorem vStrs (h:DataW.trod enc Tryz.prog W base sp held fuel 52 cs=some x):
  ∃ A n c,∃ l:List ByteArray,cs=[.slice A n c]∧l.length=n∧Rd W (OldB W) 1 A n (l.map Value.string)∧NilOk A n c∧n≤c∧c≤maxLen∧∀ s ∈ l,s.size≤maxLen:=by
 rcases open_strings Tryz.underlying52 Tryz.underlying9 (by kernel_rfl) h with ⟨rfl,-⟩ | ⟨a,len,cap,ss,rfl,-,hl,hm,hz,-,hc,hw⟩
 ·exact⟨none,0,0,[],rfl,rfl,Rd.none_,fun _=>⟨rfl,rfl⟩,Nat.le_refl _,Nat.zero_le _,by simp⟩
 ·have hzl:len≤ss.length:=by rw[hz];split<;>omega
  exact⟨some a,len,cap,ss.take len,rfl,by simp[Nat.min_eq_left hzl],rd_take_str hzl hc,(fun e=>by cases e),hl,hm,fun k hk=>hw k (List.mem_of_mem_take hk)⟩
structure EvIs (e:Ev):Prop where
 kind: -9223372036854775808≤e.kind∧e.kind≤9223372036854775807
 a: -9223372036854775808≤e.a∧e.a≤9223372036854775807
 b: -9223372036854775808≤e.b∧e.b≤9223372036854775807
 n: -9223372036854775808≤e.n∧e.n≤9223372036854775807
 s:e.s.size≤maxLen
 t:e.t.size≤maxLen
 u:e.u.size≤maxLen
theorem list7 {α:Type} {l:List α} (h:l.length=7):∃ a b c d e f g,l=[a,b,c,d,e,f,g]:=by
 match l,h with
 | [a,b,c,d,e,f,g],_=>exact⟨a,b,c,d,e,f,g,rfl⟩
theorem field_of {n i t:Nat} {f:Field} {xs:List (DataW H×List MemPlace)} {fs:Array Field} (hg:∀ (i:Nat) (f:Field),fs[i]? =some f→DataW.trod enc Tryz.prog W base sp held n f.type ((cs.drop f.offset).take (Tryz.prog.cellsOf f.type))=xs[i]?) (hxl:xs.length=fs.size)
  (hi:fs[i]? =some f) (ht:f.type=t) (h1:Tryz.prog.cellsOf t=1) (ho:f.offset=i) {v:Value} (hv:(cs.drop i).take 1=[v]):∃ y,DataW.trod enc Tryz.prog W base sp held n t [v]=some y:=by
 have h:=hg i f hi
 rw[ht,h1,ho,hv] at h
 have hlt:i<xs.length:=by rw[hxl];exact(Array.getElem?_eq_some_iff.1 hi).1
 exact⟨xs[i],by rw[h,List.getElem?_eq_getElem hlt]⟩
theorem one_int:Tryz.prog.cellsOf 3=1:=by kernel_rfl
theorem one_string:Tryz.prog.cellsOf 9=1:=by kernel_rfl
theorem vEv (h:DataW.trod enc Tryz.prog W base sp held fuel 38 cs=some x):∃ o:Ev,cs=o.cells∧EvIs o:=by
 have hC:Tryz.prog.cellsOf 38=7:=by kernel_rfl
 obtain⟨xs,n,-,-,hlen,hxl,hg⟩:=DataW.trod_struct Tryz.underlying38 h
 rw[hC] at hlen
 obtain⟨c0,c1,c2,c3,c4,c5,c6,rfl⟩:=list7 hlen
 obtain⟨y0,h0⟩:=field_of (i:=0) hg hxl rfl rfl one_int rfl rfl
 obtain⟨y1,h1⟩:=field_of (i:=1) hg hxl rfl rfl one_int rfl rfl
 obtain⟨y2,h2⟩:=field_of (i:=2) hg hxl rfl rfl one_int rfl rfl
 obtain⟨y3,h3⟩:=field_of (i:=3) hg hxl rfl rfl one_int rfl rfl
 obtain⟨y4,h4⟩:=field_of (i:=4) hg hxl rfl rfl one_string rfl rfl
 obtain⟨y5,h5⟩:=field_of (i:=5) hg hxl rfl rfl one_string rfl rfl
 obtain⟨y6,h6⟩:=field_of (i:=6) hg hxl rfl rfl one_string rfl rfl
 obtain⟨k,e0,w0⟩:=vInt h0
 obtain⟨a,e1,w1⟩:=vInt h1
 obtain⟨b,e2,w2⟩:=vInt h2
 obtain⟨m,e3,w3⟩:=vInt h3
 obtain⟨s,e4,w4⟩:=vStr h4
 obtain⟨t,e5,w5⟩:=vStr h5
 obtain⟨u,e6,w6⟩:=vStr h6
 injection e0 with e0;injection e1 with e1;injection e2 with e2;injection e3 with e3;injection e4 with e4;injection e5 with e5;injection e6 with e6
 subst e0;subst e1;subst e2;subst e3;subst e4;subst e5;subst e6
 exact⟨⟨k,a,b,m,s,t,u⟩,rfl,⟨w0,w1,w2,w3,w4,w5,w6⟩⟩
theorem evs_len (l:List Ev):(l.flatMap Ev.cells).length=l.length * 7:=by
 induction l with
 | nil=>rfl
 | cons o l ih=>
   rw[List.flatMap_cons,List.length_append,ih,List.length_cons]
   have:o.cells.length=7:=rfl
   omega
theorem vEvs (h:DataW.trod enc Tryz.prog W base sp held fuel 22 cs=some x):
  ∃ A n c,∃ l:List Ev,cs=[.slice A n c]∧l.length=n∧Rd W (OldB W) 7 A n (l.flatMap Ev.cells)∧(∀ o ∈ l,EvIs o)∧NilOk A n c∧n≤c∧c≤maxLen:=by
 have hC:Tryz.prog.cellsOf 38=7:=by kernel_rfl
 rcases open_slice Tryz.underlying22 h with ⟨rfl,-⟩ | ⟨a,len,cap,m,n,D,Pl,rfl,-,hl,hm,hmm,-,hi⟩
 ·exact⟨none,0,0,[],rfl,rfl,Rd.none_,by simp,fun _=>⟨rfl,rfl⟩,Nat.le_refl _,Nat.zero_le _⟩
 ·have hml:len≤m:=by rw[hmm];split<;>omega
  rw[hC] at hi
  have hex:∀ i,i<len→∃ o:Ev,EvIs o∧∀ j u,o.cells[j]? =some u→W.cell? (a.add (i * 7+j))=some u:=by
   intro i hlt
   obtain⟨cs',hc,ht⟩:=hi i (by omega)
   obtain⟨o,rfl,ho⟩:=vEv ht
   obtain⟨-,-,hat⟩:=World.cells?_some hc
   refine⟨o,ho,fun j u hu=>?_⟩
   have hj:j<7:=by
    have:=(List.getElem?_eq_some_iff.1 hu).1
    simpa [Ev.cells] using this
   rw[← add_of_add,hat j hj,hu]
  obtain⟨l,hll,hlo⟩:∃ l:List Ev,l.length=len∧∀ i (h:i<l.length),EvIs l[i]∧∀ j u,l[i].cells[j]? =some u→W.cell? (a.add (i * 7+j))=some u:=by
   clear hm hmm hi hl hml h
   induction len with
   | zero=>exact⟨[],rfl,fun i h=>by simp at h⟩
   | succ len ih=>
     obtain⟨l,h1,h2⟩:=ih fun i hi=>hex i (by omega)
     obtain⟨o,ho⟩:=hex len (by omega)
     refine⟨l++[o],by simp[h1],fun i hi=>?_⟩
     by_cases e:i<l.length
     ·rw[List.getElem_append_left e]
      exact h2 i e
     ·have e2:i=l.length:=by simp at hi;omega
      subst e2
      rw[List.getElem_append_right (Nat.le_refl _)]
      simp only[Nat.sub_self,List.getElem_cons_zero]
      rw[h1]
      exact ho
  refine⟨some a,len,cap,l,rfl,hll,⟨by rw[evs_len,hll],fun hn=>⟨a,rfl,?_,?_,?_⟩⟩,fun o ho=>?_,(fun e=>by cases e),hl,hm⟩
  ·have:=below_size_of_cell ((hlo 0 (by omega)).2 0 _ rfl)
   rw[block_of_add] at this
   exact this
  ·have:=below_size_of_cell ((hlo 0 (by omega)).2 0 _ rfl)
   rw[block_of_add] at this
   exact this
  ·intro j u hu
   have hsplit:∀ (l:List Ev) (j:Nat) (u:Value),(l.flatMap Ev.cells)[j]? =some u→∃ (i:Nat) (h:i<l.length) (r:Nat),j=i * 7+r∧l[i].cells[r]? =some u:=by
    intro l
    induction l with
    | nil=>intro j u hu;simp at hu
    | cons o l ih=>
      intro j u hu
      rw[List.flatMap_cons] at hu
      have h7:o.cells.length=7:=rfl
      by_cases hj:j<7
      ·rw[List.getElem?_append_left (by omega)] at hu
       exact⟨0,by simp,j,by omega,hu⟩
      ·rw[List.getElem?_append_right (by omega),h7] at hu
       obtain⟨i,hi,r,e,hr⟩:=ih _ _ hu
       exact⟨i+1,by simpa using hi,r,by omega,by simpa using hr⟩
   obtain⟨i,hi,r,rfl,hr⟩:=hsplit l j u hu
   exact(hlo i hi).2 r u hr
  ·obtain⟨i,hi,rfl⟩:=List.mem_iff_getElem.1 ho
   exact(hlo i hi).1
end
end Go.Proofs.YtlafbakoefcifaaGreat
