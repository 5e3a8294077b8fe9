/-
  Contracts: slices.Equal of folders, feeds, searches, tags.
-/
import Derived.Test.YtdihmpakglakdaaGreatGp14
import Derived.Test.YtdihmpakglakdaaGreatGp12
import Derived.BigQuiet
import Derived.Deep.QuietTactic
set_option linter.unusedVariables false
set_option linter.unusedSimpArgs false
namespace Go.Proofs.YtdihmpakglakdaaGreat
open Go.RowKit Go.Lib
theorem Folcs{w:World}{b off:Nat}{e:Fol}(h:∀ (j:Nat) (u:Value),e.cells[j]? =some u→w.cell? ⟨b,off+j,none⟩=some u):
  w.cell? ⟨b,off,none⟩=some (.int .i64 e.id)∧w.cell? ⟨b,off+1,none⟩=some (.int .i64 e.inn)∧w.cell? ⟨b,off+2,none⟩=some (.string e.name):=
 ⟨h 0 _ rfl,h 1 _ rfl,h 2 _ rfl⟩
theorem Feecs{w:World}{b off:Nat}{e:Fee}(h:∀ (j:Nat) (u:Value),e.cells[j]? =some u→w.cell? ⟨b,off+j,none⟩=some u):
  w.cell? ⟨b,off,none⟩=some (.int .i64 e.id)∧w.cell? ⟨b,off+1,none⟩=some (.int .i64 e.inn)∧w.cell? ⟨b,off+2,none⟩=some (.string e.url)∧w.cell? ⟨b,off+3,none⟩=some (.string e.title):=
 ⟨h 0 _ rfl,h 1 _ rfl,h 2 _ rfl,h 3 _ rfl⟩
theorem Seacs{w:World}{b off:Nat}{e:Sea}(h:∀ (j:Nat) (u:Value),e.cells[j]? =some u→w.cell? ⟨b,off+j,none⟩=some u):
  w.cell? ⟨b,off,none⟩=some (.int .i64 e.id)∧w.cell? ⟨b,off+1,none⟩=some (.string e.name)∧w.cell? ⟨b,off+2,none⟩=some (.string e.query):=
 ⟨h 0 _ rfl,h 1 _ rfl,h 2 _ rfl⟩
theorem itmcs{w:World}{b off:Nat}{p:Sl×Itm}(h:∀ (j:Nat) (u:Value),(itmC p)[j]? =some u→w.cell? ⟨b,off+j,none⟩=some u):
  w.cell? ⟨b,off,none⟩=some (.int .i64 p.2.id)∧w.cell? ⟨b,off+1,none⟩=some (.int .i64 p.2.feed)∧w.cell? ⟨b,off+2,none⟩=some (.int .i64 p.2.date)∧w.cell? ⟨b,off+3,none⟩=some (.string p.2.guid)∧w.cell? ⟨b,off+4,none⟩=some (.string p.2.title)∧w.cell? ⟨b,off+5,none⟩=some (.string p.2.link)∧w.cell? ⟨b,off+6,none⟩=some (.bool p.2.read)∧w.cell? ⟨b,off+7,none⟩=some (.bool p.2.star)∧w.cell? ⟨b,off+8,none⟩=some (.slice p.1.1 p.2.tags.length p.1.2):=
 ⟨h 0 _ rfl,h 1 _ rfl,h 2 _ rfl,h 3 _ rfl,h 4 _ rfl,h 5 _ rfl,h 6 _ rfl,h 7 _ rfl,h 8 _ rfl⟩
theorem blk9{W:World}{g:Nat}{t:TypeId}{a0 a1 a2 a3 a4 a5 a6 a7 a8:Value}(h:Blk W g t #[a0,a1,a2,a3,a4,a5,a6,a7,a8]):
  W.cell? ⟨g,0,none⟩=some a0∧W.cell? ⟨g,1,none⟩=some a1∧W.cell? ⟨g,2,none⟩=some a2∧W.cell? ⟨g,3,none⟩=some a3∧W.cell? ⟨g,4,none⟩=some a4∧W.cell? ⟨g,5,none⟩=some a5∧W.cell? ⟨g,6,none⟩=some a6∧W.cell? ⟨g,7,none⟩=some a7∧W.cell? ⟨g,8,none⟩=some a8:=
 ⟨h.cell 0,h.cell 1,h.cell 2,h.cell 3,h.cell 4,h.cell 5,h.cell 6,h.cell 7,h.cell 8⟩
structure StSmall(x:St):Prop where
 fols:x.fols.length≤100000
 fees:x.fees.length≤100000
 itms:x.itms.length≤100000
 seas:x.seas.length≤100000
 tags:∀ t ∈ x.itms,t.tags.length≤1000
section
section
variable {α:Type} {f:α→List Value} {s:Nat}
theorem flat_set(hs:∀ a,(f a).length=s)(y:α):∀ (l:List α) (i:Nat),i<l.length→∀ j:Nat,((l.set i y).flatMap f)[j]? =if i * s≤j∧j<i * s+s then (f y)[j - i * s]? else (l.flatMap f)[j]?
 | [],i,h,j=>by simp at h
 | a::l,0,h,j=>by
   rw[List.set_cons_zero,List.flatMap_cons,List.flatMap_cons,Nat.zero_mul,Nat.zero_add,Nat.sub_zero];have h1:=hs y;have h2:=hs a
   by_cases hj:j<s
   ·rw[if_pos ⟨Nat.zero_le _,hj⟩,List.getElem?_append_left (by omega)]
   ·rw[if_neg (by omega),List.getElem?_append_right (by omega),List.getElem?_append_right (by omega),h1,h2]
 | a::l,i+1,h,j=>by
   rw[List.set_cons_succ,List.flatMap_cons,List.flatMap_cons];have h2:=hs a;have e:(i+1) * s=i * s+s:=Nat.succ_mul i s;rw[e]
   by_cases hj:j<s
   ·rw[if_neg (by omega),List.getElem?_append_left (by omega),List.getElem?_append_left (by omega)]
   ·rw[List.getElem?_append_right (by omega),List.getElem?_append_right (by omega),h2,flat_set hs y l i (by simpa using h) (j - s)]
    by_cases hc:i * s≤j - s∧j - s<i * s+s
    ·rw[if_pos hc,if_pos (by omega),show j - s - i * s=j - (i * s+s) by omega]
    ·rw[if_neg hc,if_neg (by omega)]
theorem RowK.elem{e:TypeId}{w0 w1:World}{A:Option Addr}{n c:Nat}{l:List α}(h:RowK e s w0 w1 (.slice A n c) n (l.flatMap f))(hs:∀ a,(f a).length=s)(hl:l.length=n)(hn:0<n):
  ∃ g,A=some ⟨g,0,none⟩∧w0.heap.size≤g∧g<w1.heap.size∧(∃ cs,Blk w1 g e cs)∧(∀ (i:Nat) (hi:i<l.length) (j:Nat) (u:Value),(f l[i])[j]? =some u→w1.cell? ⟨g,i * s+j,none⟩=some u)∧
    (∀ j,w1.frozen? ⟨g,j,none⟩=false)∧∀ (i:Nat),i<l.length→∀ y,RowK e s w0 (w1.setCells g (i * s) (f y)) (.slice A n c) n ((l.set i y).flatMap f)∧Frm (·=g) w1 (w1.setCells g (i * s) (f y)):=by
 rcases h.own.2 with ⟨hv,hn0⟩ | ⟨g,cap,cur,hv,hg,hh,hnc,hm,hcs,ht⟩
 ·injection hv with _ e2 _
  omega
 ·injection hv with e1 e2 e3
  subst e1;subst e3;have hb:Blk w1 g e cur:=hh;have hlen:=flat_len hs l;rw[hl] at hlen;have hcn:n * s≤cur.size:=by rw[hcs];exact Nat.mul_le_mul_right _ hnc
  refine⟨g,rfl,hg,hb.lt,⟨cur,hb⟩,fun i hi j u hu=>?_,fun j=>hb.frozen j,fun i hi y=>⟨⟨⟨by rw[flat_len hs,List.length_set,hl],.inr ⟨g,c,putL cur (i * s) (f y),rfl,hg,Blk.putL (f y) (i * s) hb,hnc,hm,by rw[putL_size];exact hcs,?_⟩⟩,Frm.setCells (f y) (i * s) h.frm (.inr hg)⟩,Frm.setCells (f y) (i * s) (Frm.refl _ _) (.inl rfl)⟩⟩
  ·have hj:j<s:=by
    have:=(List.getElem?_eq_some_iff.1 hu).1
    rwa [hs] at this
   have hlt:i * s+j<n * s:=by
    have h1:(i+1) * s≤n * s:=Nat.mul_le_mul_right _ (by omega);rw[Nat.succ_mul] at h1;omega
   rw[hb.cell];have:=flat_at hs l i hi j hj;rw[← ht,List.getElem?_take,if_pos hlt,hu] at this
   simpa using this
  ·refine List.ext_getElem? fun j=>?_
   rw[List.getElem?_take,flat_set hs y l i hi j];have hfy:=hs y
   have his:i * s+s≤n * s:=by
    have h1:(i+1) * s≤n * s:=Nat.mul_le_mul_right _ (by omega)
    rwa [Nat.succ_mul] at h1
   by_cases hj:j<n * s
   ·rw[if_pos hj]
    have hp:=putL_get (f y) (i * s) cur j;have:(putL cur (i * s) (f y)).toList[j]? =(putL cur (i * s) (f y))[j]?:=by simp
    rw[this,hp]
    by_cases hc:i * s≤j∧j<i * s+s
    ·rw[if_pos (by omega),if_pos hc]
    ·rw[if_neg (by omega),if_neg hc,← ht,List.getElem?_take,if_pos hj]
     simp
   ·rw[if_neg hj,if_neg (by omega)]
    symm;rw[List.getElem?_eq_none];omega
end
end
theorem box_st(w:World)(fo fe it se:Sl)(x:St):∃ w0,w0=w.alloc (.cells #[.int .i64 x.clock,.slice fo.1 x.fols.length fo.2,.slice fe.1 x.fees.length fe.2,.slice it.1 x.itms.length it.2,.slice se.1 x.seas.length se.2,.int .i64 x.tFol,.int .i64 x.tFee,.int .i64 x.tItm,.int .i64 x.tSea] 37)∧Frm Nix w w0∧Blk w0 w.heap.size 37 #[.int .i64 x.clock,.slice fo.1 x.fols.length fo.2,.slice fe.1 x.fees.length fe.2,.slice it.1 x.itms.length it.2,.slice se.1 x.seas.length se.2,.int .i64 x.tFol,.int .i64 x.tFee,.int .i64 x.tItm,.int .i64 x.tSea]:=
 ⟨_,rfl,(fR w).alloc _,Blk.new w _ _⟩
end Go.Proofs.YtdihmpakglakdaaGreat
