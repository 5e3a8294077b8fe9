/-
  Rows of elements of several cells that a call has made since it came into world w0: what append makes of them. Over any program; no condition.
-/
import Derived.Test.YtdihmpakglakdaaGreatGa04
import Derived.Test.YtdihmpakglakdaaGreatGa11
set_option linter.unusedVariables false
set_option linter.unusedSimpArgs false
namespace Go.Proofs.YtdihmpakglakdaaGreat
open Go.RowKit Go.Lib
section
structure RowK(e:TypeId)(s:Nat)(w0 w1:World)(v:Value)(n:Nat)(xs:List Value):Prop where
 own:w1.ownsRow w0.heap.size e s v n xs
 frm:Frm Nix w0 w1
section
variable {P:Program} {e:TypeId} {s:Nat} {w0 w1 w2:World} {v:Value} {n:Nat} {xs:List Value}
theorem RowIn.toK(h:RowIn e w0 w1 v n xs):RowK e 1 w0 w1 v n xs:=⟨h.own,h.frm⟩
theorem RowK.to1(h:RowK e 1 w0 w1 v n xs):RowIn e w0 w1 v n xs:=⟨h.own,h.frm⟩
theorem RowK.nil_(e:TypeId)(s:Nat)(h:Frm Nix w0 w1):RowK e s w0 w1 (.slice none 0 0) 0 []:=⟨World.ownsRow_nil _ _ _ _,h⟩
theorem RowK.empty(e:TypeId)(s:Nat)(h:Frm Nix w0 w1):RowK e s w0 (w1.alloc (.cells #[] e)) (.slice (some ⟨w1.heap.size,0,none⟩) 0 0) 0 []:=
 ⟨⟨by simp,.inr ⟨_,0,#[],rfl,h.size,heap_alloc_new w1 _,Nat.le_refl _,Nat.zero_le _,by simp,by simp⟩⟩,h.alloc _⟩
theorem RowK.lit(e:TypeId)(h:Frm Nix w0 w1)(n:Nat)(xs:List Value)(hl:xs.length=n * s)(hx:n≤maxLen):RowK e s w0 (w1.alloc (.cells xs.toArray e)) (.slice (some ⟨w1.heap.size,0,none⟩) n n) n xs:=
 ⟨⟨hl,.inr ⟨_,n,xs.toArray,rfl,h.size,heap_alloc_new w1 _,Nat.le_refl _,hx,by simpa using hl,by rw[← hl];simp⟩⟩,h.alloc _⟩
theorem RowK.more(h:RowK e s w0 w1 v n xs)(hf:Frm Nix w1 w2):RowK e s w0 w2 v n xs:=⟨own_frm h.own hf fun _ _=>id,h.frm.trans hf⟩
theorem RowK.far{F:Nat→Prop}(h:RowK e s w0 w1 v n xs)(hf:Frm F w1 w2)(hF:∀ k,F k→w0.heap.size≤k)(hd:∀ k,v.ownBlock=some k→¬F k):RowK e s w0 w2 v n xs:=
 ⟨own_frm h.own hf hd,h.frm.next hf fun k hk=>.inr (hF k hk)⟩
theorem RowK.shape(h:RowK e s w0 w1 v n xs):∃ A c,v=.slice A n c∧(A=none→c=0)∧n≤c∧c≤maxLen∧(∀ a,A=some a→a.off=0∧a.spot=none∧w0.heap.size≤a.block∧a.block<w1.heap.size):=own_shape h.own
theorem RowK.rd{A:Option Addr}{c:Nat}(h:RowK e s w0 w1 (.slice A n c) n xs):Rd w1 (fun k=>(Value.slice A n c).ownBlock=some k) s A n xs:=Rd.of_own h.own
theorem RowK.len(h:RowK e s w0 w1 v n xs):xs.length=n * s:=h.own.1
theorem RowK.since{wb:World}(h:RowK e s w1 w2 v n xs)(hf:Frm Nix wb w1):RowK e s wb w2 v n xs:=
 ⟨own_base h.own fun k hk=>by have:=(h.own.lt k hk).1;have:=hf.size;omega,hf.trans h.frm⟩
theorem RowK.ne_obj(h:RowK e s w0 w1 v n xs){k:Nat}{o:Obj}(ho:w1.heap[k]? =some o)(hne:∀ c t f,o≠.cells c t f):v.ownBlock≠some k:=by
 rcases h.own.2 with ⟨rfl,_⟩ | ⟨g,cap,cur,rfl,_,hh,_⟩
 ·simp[Value.ownBlock]
 ·intro he
  have:g=k:=by simpa [Value.ownBlock] using he
  subst this;rw[hh] at ho;injection ho with ho;exact hne _ _ _ ho.symm
theorem RowK.ne_blk(h:RowK e s w0 w1 v n xs){g:Nat}{t:TypeId}{cs:Array Value}(hg:Blk w1 g t cs)(hne:e≠t):v.ownBlock≠some g:=own_blk_ne h.own hg hne
theorem rowK_apart{e':TypeId}{s' n':Nat}{v':Value}{ys:List Value}(h:RowK e s w0 w1 v n xs)(h':RowK e' s' w0 w1 v' n' ys)(hne:e≠e'){j:Nat}(hj:v.ownBlock=some j)(hj':v'.ownBlock=some j):False:=by
 rcases h'.own.2 with ⟨rfl,_⟩ | ⟨g,cap,cur,rfl,_,hh,_⟩
 ·simp[Value.ownBlock] at hj'
 ·have hg:g=j:=by simpa [Value.ownBlock] using hj'
  subst hg;exact own_blk_ne h.own (t:=e') hh hne hj
structure ElemK(P:Program)(t e:TypeId)(s bytes:Nat):Prop where
 t:P.underlying t=some (.slice e)
 i:∃ z:Value,(P.info? e).map (fun i=>(i.zero,i.size,i.bytes))=some (some z,s,bytes)∧z.cells.size=s
 s:0<s
theorem RowK.app{t:TypeId}{bytes:Nat}(E:ElemK P t e s bytes)(h:RowK e s w0 w1 v n xs){G:Nat→Prop}{A:Option Addr}{m:Nat}{ys:List Value}(c:Nat)(hr:Rd w1 G s A m ys)(h1:∀ u ∈ ys,u.oneCell'=true)
  (hn:n+m≤maxLen) (hb:(n+m) * bytes≤140737488355328):
  ∃ v' w2,(∀ ty,(Builtin.append_ #[t,t] ty #[v,.slice A m c]).run P w1=.ok v' w2)∧RowK e s w0 w2 v' (n+m) (xs++ys)∧Frm (fun k=>v.ownBlock=some k) w1 w2∧(v'.ownBlock=v.ownBlock∨v'.ownBlock=some w1.heap.size):=by
 obtain⟨z,hi,hzs⟩:=E.i;obtain⟨i0,hi0,hz0,hz1,hz2⟩:=info_parts hi;obtain⟨v1,w2,hrun,hown,hg,hat⟩:=run_append_any (P:=P) w1 w0.heap.size t e i0 z s bytes E.t hi0 hz0 hz1 hz2 hzs E.s v n xs h.own _ A m c ys hr h1 hn hb h.frm.size;exact⟨v1,w2,hrun,⟨hown,h.frm.grown hg fun k hk=>.inr (h.own.lt k hk).1⟩,(Frm.refl _ w1).grown hg fun k hk=>.inl hk,hat⟩
theorem RowK.push{t:TypeId}{bytes:Nat}(E:ElemK P t e s bytes)(h:RowK e s w0 w1 v n xs)(ys:List Value)(hl:ys.length=s)(h1:∀ u ∈ ys,u.oneCell'=true)(hn:n+1≤maxLen)(hb:(n+1) * bytes≤140737488355328):
  ∃ v' w2,(∀ ty,(Builtin.append_ #[t,t] ty #[v,.slice (some ⟨w1.heap.size,0,none⟩) 1 1]).run P (w1.alloc (.cells ys.toArray e))=.ok v' w2)∧RowK e s w0 w2 v' (n+1) (xs++ys)∧Frm (fun k=>v.ownBlock=some k) (w1.alloc (.cells ys.toArray e)) w2∧(v'.ownBlock=v.ownBlock∨v'.ownBlock=some (w1.heap.size+1)):=by
 obtain⟨v',w2,r,h2,h3,h4⟩:=(h.more ((fR w1).alloc (.cells ys.toArray e))).app E (ys:=ys) 1 (Rd.of_obj (heap_alloc_new w1 (.cells ys.toArray e)) 1 (by simp[hl])) h1 hn hb;exact⟨v',w2,r,h2,h3,by simpa using h4⟩
theorem RowK.set_{A:Option Addr}{c:Nat}(h:RowK e s w0 w1 (.slice A n c) n xs)(i:Nat)(hi:i<n * s)(u:Value):
  ∃ g,A=some ⟨g,0,none⟩∧w1.cell? ⟨g,i,none⟩=xs[i]?∧w1.frozen? ⟨g,i,none⟩=false∧RowK e s w0 (w1.setCell ⟨g,i,none⟩ u) (.slice A n c) n (xs.set i u)∧w0.heap.size≤g∧g<w1.heap.size:=by
 have hl:=h.len;rcases h.own.2 with ⟨hv,hn⟩ | ⟨g,cap,cur,hv,hg,hh,hnc,hm,hs,ht⟩
 ·injection hv with e1 e2 e3
  subst e2;omega
 ·injection hv with e1 e2 e3
  subst e1;subst e3;have hb:Blk w1 g e cur:=hh;have hcs:n * s≤c * s:=Nat.mul_le_mul_right _ hnc;have hci:i<cur.size:=by omega
  have hx:cur[i]? =xs[i]?:=by
   rw[← ht,List.getElem?_take,if_pos hi];simp
  refine⟨g,rfl,by rw[hb.cell,hx],hb.frozen i,⟨⟨by rw[List.length_set];exact h.own.1,.inr ⟨g,c,cur.setIfInBounds i u,rfl,hg,hb.set_ i u,hnc,hm,by rw[Array.size_setIfInBounds];exact hs,?_⟩⟩,h.frm.setCell (.inr hg) u⟩,hg,hb.lt⟩;rw[← ht,Array.toList_setIfInBounds,List.take_set]
end
end
section
section
variable {α:Type} {f:α→List Value} {s:Nat}
theorem flat_len(hs:∀ a,(f a).length=s)(l:List α):(l.flatMap f).length=l.length * s:=by
 induction l with
 | nil=>simp
 | cons a l ih=>
   rw[List.flatMap_cons,List.length_append,ih,List.length_cons,hs,Nat.succ_mul];omega
theorem flat_at(hs:∀ a,(f a).length=s)(l:List α)(i:Nat)(h:i<l.length)(j:Nat)(hj:j<s):(l.flatMap f)[i * s+j]? =(f l[i])[j]?:=by
 induction l generalizing i with
 | nil=>simp at h
 | cons o l ih=>
   have h6:=hs o;rw[List.flatMap_cons]
   cases i with
   | zero=>
     rw[List.getElem?_append_left (by omega)]
     simp
   | succ i=>
     have e:(i+1) * s=i * s+s:=Nat.succ_mul i s;rw[List.getElem?_append_right (by omega),show (i+1) * s+j - (f o).length=i * s+j by omega,ih i (by simpa using h)];rfl
theorem flat_take(hs:∀ a,(f a).length=s)(l:List α)(k:Nat):(l.flatMap f).take (k * s)=(l.take k).flatMap f:=by
 induction l generalizing k with
 | nil=>simp
 | cons o l ih=>
   cases k with
   | zero=>simp
   | succ k=>
     have e:(k+1) * s=s+k * s:=by rw[Nat.succ_mul];omega
     rw[List.flatMap_cons,List.take_succ_cons,List.flatMap_cons,e,← hs o,List.take_length_add_append,hs o,ih]
theorem flat_drop(hs:∀ a,(f a).length=s)(l:List α)(k:Nat):(l.flatMap f).drop (k * s)=(l.drop k).flatMap f:=by
 induction l generalizing k with
 | nil=>simp
 | cons o l ih=>
   cases k with
   | zero=>simp
   | succ k=>
     have e:(k+1) * s=s+k * s:=by rw[Nat.succ_mul];omega
     rw[List.flatMap_cons,List.drop_succ_cons,e,← hs o,List.drop_length_add_append,hs o,ih]
theorem flat_succ_(l:List α)(k:Nat)(h:k<l.length):(l.take (k+1)).flatMap f=(l.take k).flatMap f++f l[k]:=by
 rw[List.take_succ_eq_append_getElem h,List.flatMap_append];simp
end
structure SlIn(w:World)(G:Nat→Prop)(s:Nat)(v:Sl)(n:Nat)(xs:List Value):Prop where
 rd:Rd w G s v.1 n xs
 nil:v.1=none→v.2=0
 cap:n≤v.2
 max:v.2≤maxLen
section
variable {w w1 w0:World} {G G' F:Nat→Prop} {s n:Nat} {v:Sl} {xs:List Value}
theorem SlIn.frm(h:SlIn w G s v n xs)(hf:Frm F w w1)(hd:∀ k,G k→¬F k):SlIn w1 G s v n xs:=⟨h.rd.frm hf hd,h.nil,h.cap,h.max⟩
theorem SlIn.nix(h:SlIn w G s v n xs)(hf:Frm Nix w w1):SlIn w1 G s v n xs:=h.frm hf fun _ _=>id
theorem SlIn.mono(h:SlIn w G s v n xs)(hg:∀ k,G k→G' k):SlIn w G' s v n xs:=⟨h.rd.mono hg,h.nil,h.cap,h.max⟩
theorem SlIn.none_(w:World)(G:Nat→Prop)(s:Nat):SlIn w G s (none,0) 0 []:=⟨Rd.none_,fun _=>rfl,Nat.le_refl _,Nat.zero_le _⟩
theorem TagsIn.sl{l:List ByteArray}(h:TagsIn w v l):SlIn w (StrB w) 1 v l.length (l.map Value.string):=⟨h.1,h.2.1,h.2.2.1,h.2.2.2⟩
theorem RowK.sl{e:TypeId}{A:Option Addr}{c:Nat}(h:RowK e s w0 w (.slice A n c) n xs):SlIn w (fun k=>w0.heap.size≤k) s (A,c) n xs:=by
 obtain⟨A',c',e',h1,h2,h3,-⟩:=h.shape;injection e' with e1 _ e3;subst e1;subst e3;exact⟨h.rd.mono fun k hk=>(h.own.lt k hk).1,h1,h2,h3⟩
theorem SlIn.zero(h:SlIn w G s v n xs)(hn:n=0):xs=[]:=List.eq_nil_of_length_eq_zero (by rw[h.rd.1,hn,Nat.zero_mul])
theorem cell_spot{w:World}{a:Addr}{v:Value}(h:w.cell? a=some v):a.spot=none:=by
 unfold World.cell? at h;split at h
 ·split at h
  ·cases h
  ·rename_i hs
   simpa using hs
 ·cases h
theorem SlIn.at_{α:Type}{f:α→List Value}{l:List α}(h:SlIn w G s v l.length (l.flatMap f))(hs:∀ a,(f a).length=s)(h0:0<s)(hn:0<l.length):
  ∃ b off,v.1=some ⟨b,off,none⟩∧G b∧b<w.heap.size∧∀ (i:Nat) (hi:i<l.length) (j:Nat) (u:Value),(f l[i])[j]? =some u→w.cell? ⟨b,off+i * s+j,none⟩=some u:=by
 obtain⟨⟨b,off,sp⟩,e,h1,h2,h3⟩:=h.rd.2 hn;have hlt:0<(f (l[0]'hn)).length:=by rw[hs];exact h0
 have hz:=h3 0 ((f (l[0]'hn))[0]'hlt) (by
  have:=flat_at hs l 0 hn 0 h0;simp only[Nat.zero_mul,Nat.add_zero] at this;rw[this];exact List.getElem?_eq_getElem hlt)
 have es:sp=none:=by
  have:=cell_spot hz
  simpa [Addr.add] using this
 subst es;refine⟨b,off,e,h1,h2,fun i hi j u hu=>?_⟩
 have hj:j<s:=by
  have:=(List.getElem?_eq_some_iff.1 hu).1
  rwa [hs] at this
 have:=h3 (i * s+j) u (by rw[flat_at hs l i hi j hj,hu])
 have ea:(⟨b,off,none⟩:Addr).add (i * s+j)=⟨b,off+(i * s+j),none⟩:=by
  unfold Addr.add;split
  ·rename_i h;rw[h];rfl
  ·rfl
 rw[ea,← Nat.add_assoc] at this;exact this
end
theorem Ev.clen(e:Ev):e.cells.length=7:=rfl
theorem Fol.clen(e:Fol):e.cells.length=3:=rfl
theorem Fee.clen(e:Fee):e.cells.length=4:=rfl
theorem Sea.clen(e:Sea):e.cells.length=3:=rfl
def itmC(p:Sl×Itm):List Value:=[.int .i64 p.2.id,.int .i64 p.2.feed,.int .i64 p.2.date,.string p.2.guid,.string p.2.title,.string p.2.link,.bool p.2.read,.bool p.2.star,.slice p.1.1 p.2.tags.length p.1.2]
theorem itmC_len(p:Sl×Itm):(itmC p).length=9:=rfl
structure ItmsIn(w:World)(G:Nat→Prop)(v:Sl)(ts:List (Sl×Itm)):Prop where
 row:SlIn w G 9 v ts.length (ts.flatMap itmC)
 tags:∀ p ∈ ts,SlIn w G 1 p.1 p.2.tags.length (p.2.tags.map Value.string)
structure StIn(w:World)(G:Nat→Prop)(fo fe it se:Sl)(ts:List (Sl×Itm))(x:St):Prop where
 fols:SlIn w G 3 fo x.fols.length (x.fols.flatMap Fol.cells)
 fees:SlIn w G 4 fe x.fees.length (x.fees.flatMap Fee.cells)
 itms:ItmsIn w G it ts
 same:ts.map (·.2)=x.itms
 seas:SlIn w G 3 se x.seas.length (x.seas.flatMap Sea.cells)
def stV(fo fe it se:Sl)(x:St):Value:=.agg #[.int .i64 x.clock,.slice fo.1 x.fols.length fo.2,.slice fe.1 x.fees.length fe.2,.slice it.1 x.itms.length it.2,.slice se.1 x.seas.length se.2,.int .i64 x.tFol,.int .i64 x.tFee,.int .i64 x.tItm,.int .i64 x.tSea]
section
variable {w w1:World} {G G' F:Nat→Prop} {v fo fe it se:Sl} {ts:List (Sl×Itm)} {x:St}
theorem ItmsIn.frm(h:ItmsIn w G v ts)(hf:Frm F w w1)(hd:∀ k,G k→¬F k):ItmsIn w1 G v ts:=⟨h.row.frm hf hd,fun p hp=>(h.tags p hp).frm hf hd⟩
theorem ItmsIn.mono(h:ItmsIn w G v ts)(hg:∀ k,G k→G' k):ItmsIn w G' v ts:=⟨h.row.mono hg,fun p hp=>(h.tags p hp).mono hg⟩
theorem StIn.frm(h:StIn w G fo fe it se ts x)(hf:Frm F w w1)(hd:∀ k,G k→¬F k):StIn w1 G fo fe it se ts x:=⟨h.fols.frm hf hd,h.fees.frm hf hd,h.itms.frm hf hd,h.same,h.seas.frm hf hd⟩
theorem StIn.nix(h:StIn w G fo fe it se ts x)(hf:Frm Nix w w1):StIn w1 G fo fe it se ts x:=h.frm hf fun _ _=>id
theorem StIn.mono(h:StIn w G fo fe it se ts x)(hg:∀ k,G k→G' k):StIn w G' fo fe it se ts x:=⟨h.fols.mono hg,h.fees.mono hg,h.itms.mono hg,h.same,h.seas.mono hg⟩
theorem StIn.len(h:StIn w G fo fe it se ts x):ts.length=x.itms.length:=by rw[← h.same,List.length_map]
theorem StIn.zero(w:World)(G:Nat→Prop):StIn w G (none,0) (none,0) (none,0) (none,0) [] st0:=⟨SlIn.none_ _ _ _,SlIn.none_ _ _ _,⟨SlIn.none_ _ _ _,fun _ h=>by cases h⟩,rfl,SlIn.none_ _ _ _⟩
end
end
end Go.Proofs.YtdihmpakglakdaaGreat
