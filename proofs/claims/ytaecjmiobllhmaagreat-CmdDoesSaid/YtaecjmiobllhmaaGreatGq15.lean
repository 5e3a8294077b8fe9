/- Words. -/
import Derived.Test.YtaecjmiobllhmaaGreatGq14
set_option linter.unusedVariables false
set_option linter.unusedSimpArgs false
set_option maxRecDepth 100000
set_option maxHeartbeats 16000000
namespace Go.Proofs.YtaecjmiobllhmaaGreat
open Go.Value renaming int→I,string→V,slice→U
open Go.IntKind renaming i64→J
open Tryz renaming prog→pQ
open Go.RowKit Go.Lib
variable {k:Nat}{w:World}{b off:Nat}
theorem vg{α:Type}{l l':List α}(h:k<l.length)(h':k<l'.length)(hne:l[k]≠l'[k]):l≠l':=λe=>hne (by subst e;rfl)
theorem vh{α:Type}{l l':List α}(h:k<l.length)(h':k<l'.length)(ht:l.take k=l'.take k)(he:l[k]=l'[k]):l.take (k+1)=l'.take (k+1):=by
 rw[List.take_succ_eq_append_getElem h,List.take_succ_eq_append_getElem h',ht,he]
theorem F8(e e':bg):decide (e=e')=(decide (e.id=e'.id)&&(decide (e.inn=e'.inn)&&decide (e.name=e'.name))):=by
 rw[Bool.eq_iff_iff];simp only[Bool.and_eq_true,decide_eq_true_eq];constructor
 ·rintro rfl;simp
 ·rintro⟨h0,h1,h2⟩
  cases e
  cases e'
  simp_all
theorem Ky(e e':bg)(w:World):(Op.equalIn 10000 79 (oh e) (oh e')).run pQ w=.ok (decide (e=e')) w:=by
 have u3:=Tryz.underlying3;have a3:=Tryz.isAgg3;have z3:=Tryz.sizeOf3;have u9:=Tryz.underlying9;have a9:=Tryz.isAgg9;have z9:=Tryz.sizeOf9;have hS:pQ.underlying 79=some (.struct (pQ.fieldsOf 79)):=by kernel_rfl
 unfold oh;rw[show (10000:Nat)=9999+1 from rfl,run_equalIn_agg w 9999 79 _ _ hS (by kernel_rfl)];simp only[Program.fieldsOf,Tryz.underlying79];rw[F8];go_simp;simp only[gv]
 repeat' split
 all_goals simp[*]
theorem Dq(e e':bg)(w:World):(binOp .neq 79 (oh e) (oh e')).run pQ w=.ok (.bool (!decide (e=e'))) w:=by
 unfold oh;rw[run_neq_struct];have:=Ky e e' w;unfold oh at this;rw[this];rfl
theorem Bh{e:bg}(h:∀(j:Nat) (u:Value),e.cells[j]? =some u→w.cell? ⟨b,off+j,none⟩=some u):
  w.cell? ⟨b,off,none⟩=some (I J e.id)∧w.cell? ⟨b,off+1,none⟩=some (I J e.inn)∧w.cell? ⟨b,off+2,none⟩=some (V e.name):=
 ⟨h 0 _ rfl,h 1 _ rfl,h 2 _ rfl⟩
theorem F9(e e':aP):decide (e=e')=(decide (e.id=e'.id)&&(decide (e.inn=e'.inn)&&(decide (e.url=e'.url)&&decide (e.title=e'.title)))):=by
 rw[Bool.eq_iff_iff];simp only[Bool.and_eq_true,decide_eq_true_eq];constructor
 ·rintro rfl;simp
 ·rintro⟨h0,h1,h2,h3⟩
  cases e
  cases e'
  simp_all
theorem Kz(e e':aP)(w:World):(Op.equalIn 10000 64 (lp e) (lp e')).run pQ w=.ok (decide (e=e')) w:=by
 have u3:=Tryz.underlying3;have a3:=Tryz.isAgg3;have z3:=Tryz.sizeOf3;have u9:=Tryz.underlying9;have a9:=Tryz.isAgg9;have z9:=Tryz.sizeOf9;have hS:pQ.underlying 64=some (.struct (pQ.fieldsOf 64)):=by kernel_rfl
 unfold lp;rw[show (10000:Nat)=9999+1 from rfl,run_equalIn_agg w 9999 64 _ _ hS (by kernel_rfl)];simp only[Program.fieldsOf,Tryz.underlying64];rw[F9];go_simp;simp only[gv]
 repeat' split
 all_goals simp[*]
theorem Dr(e e':aP)(w:World):(binOp .neq 64 (lp e) (lp e')).run pQ w=.ok (.bool (!decide (e=e'))) w:=by
 unfold lp;rw[run_neq_struct];have:=Kz e e' w;unfold lp at this;rw[this];rfl
theorem Bi{e:aP}(h:∀(j:Nat) (u:Value),e.cells[j]? =some u→w.cell? ⟨b,off+j,none⟩=some u):
  w.cell? ⟨b,off,none⟩=some (I J e.id)∧w.cell? ⟨b,off+1,none⟩=some (I J e.inn)∧w.cell? ⟨b,off+2,none⟩=some (V e.url)∧w.cell? ⟨b,off+3,none⟩=some (V e.title):=
 ⟨h 0 _ rfl,h 1 _ rfl,h 2 _ rfl,h 3 _ rfl⟩
theorem Ga(e e':dE):decide (e=e')=(decide (e.id=e'.id)&&(decide (e.name=e'.name)&&decide (e.query=e'.query))):=by
 rw[Bool.eq_iff_iff];simp only[Bool.and_eq_true,decide_eq_true_eq];constructor
 ·rintro rfl;simp
 ·rintro⟨h0,h1,h2⟩
  cases e
  cases e'
  simp_all
theorem KE(e e':dE)(w:World):(Op.equalIn 10000 84 (om e) (om e')).run pQ w=.ok (decide (e=e')) w:=by
 have u3:=Tryz.underlying3;have a3:=Tryz.isAgg3;have z3:=Tryz.sizeOf3;have u9:=Tryz.underlying9;have a9:=Tryz.isAgg9;have z9:=Tryz.sizeOf9;have hS:pQ.underlying 84=some (.struct (pQ.fieldsOf 84)):=by kernel_rfl
 unfold om;rw[show (10000:Nat)=9999+1 from rfl,run_equalIn_agg w 9999 84 _ _ hS (by kernel_rfl)];simp only[Program.fieldsOf,Tryz.underlying84];rw[Ga];go_simp;simp only[gv]
 repeat' split
 all_goals simp[*]
theorem Ds(e e':dE)(w:World):(binOp .neq 84 (om e) (om e')).run pQ w=.ok (.bool (!decide (e=e'))) w:=by
 unfold om;rw[run_neq_struct];have:=KE e e' w;unfold om at this;rw[this];rfl
theorem Iz{e:dE}(h:∀(j:Nat) (u:Value),e.cells[j]? =some u→w.cell? ⟨b,off+j,none⟩=some u):
  w.cell? ⟨b,off,none⟩=some (I J e.id)∧w.cell? ⟨b,off+1,none⟩=some (V e.name)∧w.cell? ⟨b,off+2,none⟩=some (V e.query):=
 ⟨h 0 _ rfl,h 1 _ rfl,h 2 _ rfl⟩
theorem wn{p:Sl×aJ}(h:∀(j:Nat) (u:Value),(iY p)[j]? =some u→w.cell? ⟨b,off+j,none⟩=some u):
  w.cell? ⟨b,off,none⟩=some (I J p.2.id)∧w.cell? ⟨b,off+1,none⟩=some (I J p.2.feed)∧w.cell? ⟨b,off+2,none⟩=some (I J p.2.date)∧w.cell? ⟨b,off+3,none⟩=some (V p.2.guid)∧w.cell? ⟨b,off+4,none⟩=some (V p.2.title)∧w.cell? ⟨b,off+5,none⟩=some (V p.2.link)∧w.cell? ⟨b,off+6,none⟩=some (.bool p.2.read)∧w.cell? ⟨b,off+7,none⟩=some (.bool p.2.star)∧w.cell? ⟨b,off+8,none⟩=some (U p.1.1 p.2.tags.length p.1.2):=
 ⟨h 0 _ rfl,h 1 _ rfl,h 2 _ rfl,h 3 _ rfl,h 4 _ rfl,h 5 _ rfl,h 6 _ rfl,h 7 _ rfl,h 8 _ rfl⟩
theorem ak{W:World}{g:Nat}{t:TypeId}{a0 a1 a2 a3 a4 a5 a6 a7 a8:Value}(h:ai W g t #[a0,a1,a2,a3,a4,a5,a6,a7,a8]):
  W.cell? ⟨g,0,none⟩=some a0∧W.cell? ⟨g,1,none⟩=some a1∧W.cell? ⟨g,2,none⟩=some a2∧W.cell? ⟨g,3,none⟩=some a3∧W.cell? ⟨g,4,none⟩=some a4∧W.cell? ⟨g,5,none⟩=some a5∧W.cell? ⟨g,6,none⟩=some a6∧W.cell? ⟨g,7,none⟩=some a7∧W.cell? ⟨g,8,none⟩=some a8:=
 ⟨h.cell 0,h.cell 1,h.cell 2,h.cell 3,h.cell 4,h.cell 5,h.cell 6,h.cell 7,h.cell 8⟩
theorem Nf{l l':List (Sl×aJ)}(h:k<l.length)(h':k<l'.length)(hne:l[k].2≠l'[k].2):l.map (·.2)≠l'.map (·.2):=λe=>hne (by
 have h1:(l.map (·.2))[k]? =some l[k].2:=by rw[List.getElem?_map,List.getElem?_eq_getElem h];rfl
 have h2:(l'.map (·.2))[k]? =some l'[k].2:=by rw[List.getElem?_map,List.getElem?_eq_getElem h'];rfl
 rw[e,h2] at h1;exact(Option.some.inj h1).symm)
theorem Ng{l l':List (Sl×aJ)}(h:k<l.length)(h':k<l'.length)(ht:(l.take k).map (·.2)=(l'.take k).map (·.2))(he:l[k].2=l'[k].2):(l.take (k+1)).map (·.2)=(l'.take (k+1)).map (·.2):=by
 rw[List.take_succ_eq_append_getElem h,List.take_succ_eq_append_getElem h',List.map_append,List.map_append,ht];simp[he]
theorem Nh(x y:St):decide (x=y)=(decide (x.clock=y.clock)&&(decide (x.tFol=y.tFol)&&(decide (x.tFee=y.tFee)&&(decide (x.tItm=y.tItm)&&(decide (x.tSea=y.tSea)&&(decide (x.fols=y.fols)&&(decide (x.fees=y.fees)&&(decide (x.seas=y.seas)&&decide (x.itms=y.itms))))))))):=by
 rw[Bool.eq_iff_iff];simp only[Bool.and_eq_true,decide_eq_true_eq];constructor
 ·rintro rfl;simp
 ·rintro⟨h1,h2,h3,h4,h5,h6,h7,h8,h9⟩
  cases x
  cases y
  simp_all
structure aH(x:St):Prop where
 fols:x.fols.length≤100000
 fees:x.fees.length≤100000
 itms:x.itms.length≤100000
 seas:x.seas.length≤100000
 tags:∀t∈x.itms,t.tags.length≤1000
section
section
variable {α:Type} {f:α→List Value} {s:Nat}
theorem wo(hs:∀a,(f a).length=s)(y:α):∀(l:List α) (i:Nat),i<l.length→∀j:Nat,((l.set i y).flatMap f)[j]? =if i * s≤j∧j<i * s+s then (f y)[j-i * s]? else (l.flatMap f)[j]?
 | [],i,h,j=>by simp at h
 | a::l,0,h,j=>by
   rw[List.set_cons_zero,List.flatMap_cons,List.flatMap_cons,Nat.zero_mul,Nat.zero_add,Nat.sub_zero];have h1:=hs y;have h2:=hs a
   by_cases hj:j<s
   ·rw[if_pos ⟨Nat.zero_le _,hj⟩,List.getElem?_append_left (by omega)]
   ·rw[if_neg (by omega),List.getElem?_append_right (by omega),List.getElem?_append_right (by omega),h1,h2]
 | a::l,i+1,h,j=>by
   rw[List.set_cons_succ,List.flatMap_cons,List.flatMap_cons];have h2:=hs a;have e:(i+1) * s=i * s+s:=Nat.succ_mul i s;rw[e]
   by_cases hj:j<s
   ·rw[if_neg (by omega),List.getElem?_append_left (by omega),List.getElem?_append_left (by omega)]
   ·rw[List.getElem?_append_right (by omega),List.getElem?_append_right (by omega),h2,wo hs y l i (by simpa using h) (j-s)]
    by_cases hc:i * s≤j-s∧j-s<i * s+s
    ·rw[if_pos hc,if_pos (by omega),show j-s-i * s=j-(i * s+s) by omega]
    ·rw[if_neg hc,if_neg (by omega)]
theorem aO.elem{e:TypeId}{w0 w1:World}{A:Option Addr}{n c:Nat}{l:List α}(h:aO e s w0 w1 (U A n c) n (l.flatMap f))(hs:∀a,(f a).length=s)(hl:l.length=n)(hn:0<n):
  ∃g,A=some ⟨g,0,none⟩∧w0.heap.size≤g∧g<w1.heap.size∧(∃cs,ai w1 g e cs)∧(∀(i:Nat) (hi:i<l.length) (j:Nat) (u:Value),(f l[i])[j]? =some u→w1.cell? ⟨g,i * s+j,none⟩=some u)∧
    (∀j,w1.frozen? ⟨g,j,none⟩=false)∧∀(i:Nat),i<l.length→∀y,aO e s w0 (w1.setCells g (i * s) (f y)) (U A n c) n ((l.set i y).flatMap f)∧aa (·=g) w1 (w1.setCells g (i * s) (f y)):=by
 rcases h.own.2 with ⟨hv,F2⟩|⟨g,cap,cur,hv,hg,hh,Fo,hm,hcs,ht⟩
 ·injection hv with _ e2 _
  omega
 ·injection hv with e1 e2 e3
  subst e1;subst e3;have hb:ai w1 g e cur:=hh;have hlen:=qM hs l;rw[hl] at hlen;have Sb:n * s≤cur.size:=by rw[hcs];exact Nat.mul_le_mul_right _ Fo
  refine⟨g,rfl,hg,hb.lt,⟨cur,hb⟩,λi hi j u hu=>?_,λj=>hb.frozen j,λi hi y=>⟨⟨⟨by rw[qM hs,List.length_set,hl],.inr ⟨g,c,putL cur (i * s) (f y),rfl,hg,ai.putL (f y) (i * s) hb,Fo,hm,by rw[eC];exact hcs,?_⟩⟩,aa.setCells (f y) (i * s) h.frm (.inr hg)⟩,aa.setCells (f y) (i * s) (aa.refl _ _) (.inl rfl)⟩⟩
  ·have hj:j<s:=by
    have:=(List.getElem?_eq_some_iff.1 hu).1
    rwa [hs] at this
   have hlt:i * s+j<n * s:=by
    have h1:(i+1) * s≤n * s:=Nat.mul_le_mul_right _ (by omega);rw[Nat.succ_mul] at h1;omega
   rw[hb.cell];have:=l4 hs l i hi j hj;rw[←ht,List.getElem?_take,if_pos hlt,hu] at this
   simpa using this
  ·refine List.ext_getElem? λj=>?_
   rw[List.getElem?_take,wo hs y l i hi j];have UX:=hs y
   have tJ:i * s+s≤n * s:=by
    have h1:(i+1) * s≤n * s:=Nat.mul_le_mul_right _ (by omega)
    rwa [Nat.succ_mul] at h1
   by_cases hj:j<n * s
   ·rw[if_pos hj]
    have hp:=gN (f y) (i * s) cur j;have:(putL cur (i * s) (f y)).toList[j]? =(putL cur (i * s) (f y))[j]?:=by simp
    rw[this,hp]
    by_cases hc:i * s≤j∧j<i * s+s
    ·rw[if_pos (by omega),if_pos hc]
    ·rw[if_neg (by omega),if_neg hc,←ht,List.getElem?_take,if_pos hj]
     simp
   ·rw[if_neg hj,if_neg (by omega)]
    symm;rw[List.getElem?_eq_none];omega
end
end
theorem nM(w:World)(fo fe it se:Sl)(x:St):∃w0,w0=w.alloc (.cells #[I J x.clock,U fo.1 x.fols.length fo.2,U fe.1 x.fees.length fe.2,U it.1 x.itms.length it.2,U se.1 x.seas.length se.2,I J x.tFol,I J x.tFee,I J x.tItm,I J x.tSea] 36)∧aa ac w w0∧ai w0 w.heap.size 36 #[I J x.clock,U fo.1 x.fols.length fo.2,U fe.1 x.fees.length fe.2,U it.1 x.itms.length it.2,U se.1 x.seas.length se.2,I J x.tFol,I J x.tFee,I J x.tItm,I J x.tSea]:=
 ⟨_,rfl,(fR w).alloc _,ai.new w _ _⟩
end Go.Proofs.YtaecjmiobllhmaaGreat
