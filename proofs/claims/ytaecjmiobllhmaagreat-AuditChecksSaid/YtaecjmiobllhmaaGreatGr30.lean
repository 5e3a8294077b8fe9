/- Words. -/
import Derived.Test.YtaecjmiobllhmaaGreatGr24
import Derived.ProofKit
import Derived.SliceStrings
import Derived.Deep.Slices
import Derived.Deep.Fields
set_option linter.unusedVariables false
set_option linter.unusedSimpArgs false
namespace Go.Proofs.YtaecjmiobllhmaaGreat
open Go.Value renaming int→I,string→V,slice→U,pointer→O
open Go.IntKind renaming i64→J
open Tryz renaming prog→pQ
open Go.RowKit Go.Lib Go.ChangeShapes Go.WideShapes Go.ChangeAt Go.Deep
variable {A:Option Addr}{a:Addr}
structure H8(x:St):Prop where
 fols:∀f∈x.fols,bn f.id∧bn f.inn
 fees:∀f∈x.fees,bn f.id∧bn f.inn
 itms:∀t∈x.itms,bn t.id∧bn t.feed
 seas:∀f∈x.seas,bn f.id
 tFol:bn x.tFol
 tFee:bn x.tFee
 tItm:bn x.tItm
 tSea:bn x.tSea
theorem Ot:bn 0:=by unfold bn;omega
theorem Bv{n:Int}(h:aK n=true):bn n:=by
 unfold aK at h;simp only[Bool.or_eq_true,decide_eq_true_eq] at h;rcases h with h|h
 ·rw[h]
  exact Ot
 ·have:=iD.1 h
  unfold bn;omega
theorem gN.nums{x:St}(h:gN x):H8 x where
 fols f hf:=by
  have h1:=h.fId hf;have h2:=(h.fE f hf).1;rw[LX] at h2;simp only[Bool.and_eq_true] at h2;exact⟨by unfold bn;omega,Bv h2.1.2⟩
 fees f hf:=by
  have h1:=h.eId hf;have h2:=(h.eE f hf).1;rw[Lf] at h2;simp only[Bool.and_eq_true] at h2;exact⟨by unfold bn;omega,Bv h2.1.1.2⟩
 itms t ht:=by
  have h1:=h.iId ht;exact⟨by unfold bn;omega,by unfold bn;omega⟩
 seas f hf:=by
  have h1:=h.sId hf;unfold bn;omega
 tFol:=by have:=h.fT;unfold bn;omega
 tFee:=by have:=h.eT;unfold bn;omega
 tItm:=by have:=h.iT;unfold bn;omega
 tSea:=by have:=h.sT;unfold bn;omega
theorem gN.stOk{x:St}(h:gN x):stOk x=true:=(A0 x).2 h
def wN(l:List Ev):Bool:=decide (150<l.length)||l.any qo
theorem zn{l:List Ev}(h:wN l=false):l.length≤150:=by
 unfold wN at h;simp only[Bool.or_eq_false_iff,decide_eq_false_iff_not] at h;omega
theorem Q7:maxLen=9223372036854775807:=by decide+kernel
section
structure uI(w:World)(G:Nat→Prop)(v:Sl)(l:List Ev):Prop where
 sl:aF w G 7 v l.length (l.flatMap Ev.cells)
 num:∀e∈l,bn e.a∧bn e.b
section
variable {w w1:World} {G F:Nat→Prop} {v:Sl} {l:List Ev}
theorem uI.nix(h:uI w G v l)(hf:aa ag w w1):uI w1 G v l:=⟨h.sl.nix hf,h.num⟩
theorem uI.frm(h:uI w G v l)(hf:aa F w w1)(hd:∀k,G k→¬F k):uI w1 G v l:=⟨h.sl.frm hf hd,h.num⟩
theorem uI.fold(h:uI w G v l)(hl:wN l=false):Calls pQ 19 #[U v.1 l.length v.2] w λe w'=>∃g M,e=.returned (O (some ⟨g,0,none⟩))∧aH w' g M (bG iV l)∧aa ag w w'∧∀k,SF g M k→w.heap.size≤k:=
 wL l h.sl h.num (by have:=zn hl;omega)
end
theorem gN.small{x:St}(h:gN x):aP x:=⟨by have:=h.fL;omega,by have:=h.eL;omega,by have:=h.iL;omega,by have:=h.sL;omega,λt ht=>by have:=(h.iE t ht).2.2.2.1;omega⟩
theorem ui{w wr:World}{G:Nat→Prop}{c:Nat}{l:List Ev}(hv:aF w G 7 (A,c) l.length (l.flatMap Ev.cells))(hf:aa ag w wr){k:Nat}(hk:k<l.length):∃b off,A=some ⟨b,off,none⟩∧G b∧b<wr.heap.size∧
  ∀(F:Nat→Prop) W,¬F b→aa F wr W→W.cell? ⟨b,off+k * 7,none⟩=some (I J l[k].kind)∧W.cell? ⟨b,off+k * 7+1,none⟩=some (I J l[k].a)∧W.cell? ⟨b,off+k * 7+2,none⟩=some (I J l[k].b)∧W.cell? ⟨b,off+k * 7+3,none⟩=some (I J l[k].n)∧W.cell? ⟨b,off+k * 7+4,none⟩=some (V l[k].s)∧W.cell? ⟨b,off+k * 7+5,none⟩=some (V l[k].t)∧W.cell? ⟨b,off+k * 7+6,none⟩=some (V l[k].u):=by
 obtain⟨b,off,hA,hG,hbl,hcell⟩:=(hv.nix hf).at_ Ev.clen (by decide) (by omega);refine⟨b,off,hA,hG,hbl,λF W hn hW=>?_⟩;obtain⟨x0,x1,x2,x3,x4,x5,x6⟩:=N8 (w:=wr) (b:=b) (off:=off+k * 7) (e:=l[k]) (hcell k hk);exact⟨(hW.cell (p:=⟨b,off+k * 7,none⟩) hbl hn).trans x0,(hW.cell (p:=⟨b,off+k * 7+1,none⟩) hbl hn).trans x1,(hW.cell (p:=⟨b,off+k * 7+2,none⟩) hbl hn).trans x2,(hW.cell (p:=⟨b,off+k * 7+3,none⟩) hbl hn).trans x3,(hW.cell (p:=⟨b,off+k * 7+4,none⟩) hbl hn).trans x4,(hW.cell (p:=⟨b,off+k * 7+5,none⟩) hbl hn).trans x5,(hW.cell (p:=⟨b,off+k * 7+6,none⟩) hbl hn).trans x6⟩
end
theorem Rd.cOld{w:World}{G:Nat→Prop}{s n:Nat}{xs:List Value}(h:Rd w G s A n xs):Rd w (λk=>G k∧k<w.heap.size) s A n xs:=
 ⟨h.1,λhn=>by
  obtain⟨a,e,h1,h2,h3⟩:=h.2 hn;exact⟨a,e,⟨h1,h2⟩,h2,h3⟩⟩
theorem aF.cOld{w:World}{G:Nat→Prop}{s n:Nat}{v:Sl}{xs:List Value}(h:aF w G s v n xs):aF w (λk=>G k∧k<w.heap.size) s v n xs:=⟨h.rd.cOld,h.nil,h.cap,h.max⟩
theorem aY.cOld{w:World}{G:Nat→Prop}{fo fe it se:Sl}{ts:List (Sl×aR)}{x:St}(h:aY w G fo fe it se ts x):aY w (λk=>G k∧k<w.heap.size) fo fe it se ts x:=⟨h.fols.cOld,h.fees.cOld,⟨h.itms.row.cOld,λp hp=>(h.itms.tags p hp).cOld⟩,h.same,h.seas.cOld⟩
section
theorem lu{w:World}{v:Value}(h:w.cell? a=some v):a.block<w.heap.size:=World.block_lt_of_cell? w _ h
def Lu(A:Option Addr)(n c:Nat):Prop:=A=none→n=0∧c=0
section
variable {H:Type} {enc:TypeId×Value→H} {W:World} {base:Nat} {sp:Nat→Bool} {held:Bool} {fuel:Nat} {cs:List Value} {x:DataW H×List MemPlace}
theorem MG{n:Int}(h:(Lit.int .i64 n).wf=true): -9223372036854775808≤n∧n≤9223372036854775807:=by
 simp[Lit.wf,IntKind.min,IntKind.max,IntKind.signed,IntKind.bits] at h;omega
theorem pU(h:DataW.trod enc pQ W base sp held fuel 3 cs=some x):∃n,cs=[I J n]∧-9223372036854775808≤n∧n≤9223372036854775807:=by
 obtain⟨n,h1,-,h3⟩:=DataW.trod_int Tryz.underlying3 h;exact⟨n,h1,MG h3⟩
theorem wO(h:DataW.trod enc pQ W base sp held fuel 9 cs=some x):∃s:ByteArray,cs=[V s]∧s.size≤maxLen:=by
 obtain⟨s,h1,-,h3⟩:=DataW.trod_string Tryz.underlying9 h;exact⟨s,h1,h3⟩
def rL(W:World):Nat→Prop:=λk=>k<W.heap.size
theorem Bx{ss:List ByteArray}{len:Nat}(hl:len≤ss.length)(hc:∀i,i<ss.length→W.cell? (a.add i)=some (V (ss.getD i ByteArray.empty))):Rd W (rL W) 1 (some a) len ((ss.take len).map Value.string):=by
 refine⟨by simp[Nat.min_eq_left hl],λhn=>⟨a,rfl,?_,?_,λj u hu=>?_⟩⟩
 ·have:=lu (hc 0 (by omega))
  rw[cq] at this;exact this
 ·have:=lu (hc 0 (by omega))
  rw[cq] at this;exact this
 ·have hj:j<len:=by
   have:=(List.getElem?_eq_some_iff.1 hu).1;simp at this;omega
  rw[hc j (by omega),←hu];simp only[List.getElem?_map,List.getElem?_take,hj,if_true,List.getD_eq_getElem?_getD];rw[List.getElem?_eq_getElem (by omega)];rfl
theorem Ou(h:DataW.trod enc pQ W base sp held fuel 80 cs=some x):
  ∃A n c,∃l:List ByteArray,cs=[U A n c]∧l.length=n∧Rd W (rL W) 1 A n (l.map Value.string)∧Lu A n c∧n≤c∧c≤maxLen∧∀s∈l,s.size≤maxLen:=by
 rcases open_strings Tryz.underlying80 Tryz.underlying9 (by kernel_rfl) h with ⟨rfl,-⟩|⟨a,len,cap,ss,rfl,-,hl,hm,hz,-,hc,hw⟩
 ·exact⟨none,0,0,[],rfl,rfl,Rd.none_,λ_=>⟨rfl,rfl⟩,Nat.le_refl _,Nat.zero_le _,by simp⟩
 ·have hzl:len≤ss.length:=by rw[hz];split<;>omega
  exact⟨some a,len,cap,ss.take len,rfl,by simp[Nat.min_eq_left hzl],Bx hzl hc,(λe=>by cases e),hl,hm,λk hk=>hw k (List.mem_of_mem_take hk)⟩
structure Q8(e:Ev):Prop where
 kind: -9223372036854775808≤e.kind∧e.kind≤9223372036854775807
 a: -9223372036854775808≤e.a∧e.a≤9223372036854775807
 b: -9223372036854775808≤e.b∧e.b≤9223372036854775807
 n: -9223372036854775808≤e.n∧e.n≤9223372036854775807
 s:e.s.size≤maxLen
 t:e.t.size≤maxLen
 u:e.u.size≤maxLen
theorem Ov{α:Type}{l:List α}(h:l.length=7):∃a b c d e f g,l=[a,b,c,d,e,f,g]:=by
 match l,h with
 | [a,b,c,d,e,f,g],_=>exact⟨a,b,c,d,e,f,g,rfl⟩
theorem aZ{n i t:Nat}{f:Field}{xs:List (DataW H×List MemPlace)}{fs:Array Field}(hg:∀(i:Nat) (f:Field),fs[i]? =some f→DataW.trod enc pQ W base sp held n f.type ((cs.drop f.offset).take (pQ.cellsOf f.type))=xs[i]?)(mg:xs.length=fs.size)
  (hi:fs[i]? =some f) (ht:f.type=t) (h1:pQ.cellsOf t=1) (ho:f.offset=i) {v:Value} (hv:(cs.drop i).take 1=[v]):∃y,DataW.trod enc pQ W base sp held n t [v]=some y:=by
 have h:=hg i f hi;rw[ht,h1,ho,hv] at h;have hlt:i<xs.length:=by rw[mg];exact(Array.getElem?_eq_some_iff.1 hi).1
 exact⟨xs[i],by rw[h,List.getElem?_eq_getElem hlt]⟩
theorem dV:pQ.cellsOf 3=1:=by kernel_rfl
theorem gi:pQ.cellsOf 9=1:=by kernel_rfl
theorem Ud(h:DataW.trod enc pQ W base sp held fuel 42 cs=some x):∃o:Ev,cs=o.cells∧Q8 o:=by
 have hC:pQ.cellsOf 42=7:=by kernel_rfl
 obtain⟨xs,n,-,-,hlen,mg,hg⟩:=DataW.trod_struct Tryz.underlying42 h;rw[hC] at hlen;obtain⟨c0,c1,c2,c3,c4,c5,c6,rfl⟩:=Ov hlen;obtain⟨y0,h0⟩:=aZ (i:=0) hg mg rfl rfl dV rfl rfl;obtain⟨y1,h1⟩:=aZ (i:=1) hg mg rfl rfl dV rfl rfl;obtain⟨y2,h2⟩:=aZ (i:=2) hg mg rfl rfl dV rfl rfl;obtain⟨y3,h3⟩:=aZ (i:=3) hg mg rfl rfl dV rfl rfl;obtain⟨y4,h4⟩:=aZ (i:=4) hg mg rfl rfl gi rfl rfl;obtain⟨y5,h5⟩:=aZ (i:=5) hg mg rfl rfl gi rfl rfl;obtain⟨y6,h6⟩:=aZ (i:=6) hg mg rfl rfl gi rfl rfl;obtain⟨k,e0,w0⟩:=pU h0;obtain⟨a,e1,w1⟩:=pU h1;obtain⟨b,e2,w2⟩:=pU h2;obtain⟨m,e3,w3⟩:=pU h3;obtain⟨s,e4,w4⟩:=wO h4;obtain⟨t,e5,w5⟩:=wO h5;obtain⟨u,e6,w6⟩:=wO h6;injection e0 with e0;injection e1 with e1;injection e2 with e2;injection e3 with e3;injection e4 with e4;injection e5 with e5;injection e6 with e6;subst e0;subst e1;subst e2;subst e3;subst e4;subst e5;subst e6;exact⟨⟨k,a,b,m,s,t,u⟩,rfl,⟨w0,w1,w2,w3,w4,w5,w6⟩⟩
end
end
section
section
variable {H:Type} {enc:TypeId×Value→H} {W:World} {base:Nat} {sp:Nat→Bool} {held:Bool} {fuel:Nat} {cs:List Value} {x:DataW H×List MemPlace}
theorem J6{s n c:Nat}{xs:List Value}(h:Rd W (rL W) s A n xs)(hn:Lu A n c)(h1:n≤c)(h2:c≤maxLen):aF W (rL W) s (A,c) n xs:=⟨h,λe=>(hn e).2,h1,h2⟩
theorem Lv(h:DataW.trod enc pQ W base sp held fuel 4 cs=some x):∃b:Bool,cs=[.bool b]:=by
 obtain⟨b,h1,-⟩:=DataW.trod_bool Tryz.underlying4 h;exact⟨b,h1⟩
theorem Bz{α:Type}{f:α→List Value}{OK:α→Prop}{s st et:Nat}(hs:∀a,(f a).length=s)(h0:0<s)(hu:pQ.underlying st=some (.slice et))(hC:pQ.cellsOf et=s)
  (Jh:∀{fu:Nat} {cs:List Value} {x:DataW H×List MemPlace},DataW.trod enc pQ W base sp held fu et cs=some x→∃o,cs=f o∧OK o) (h:DataW.trod enc pQ W base sp held fuel st cs=some x):
  ∃A n c,∃l:List α,cs=[U A n c]∧l.length=n∧aF W (rL W) s (A,c) n (l.flatMap f)∧∀o∈l,OK o:=by
 rcases open_slice hu h with ⟨rfl,-⟩|⟨a,len,cap,m,n,D,Pl,rfl,-,hl,hm,hmm,-,hi⟩
 ·exact⟨none,0,0,[],rfl,rfl,aF.none_ _ _ _,by simp⟩
 ·have Ow:len≤m:=by rw[hmm];split<;>omega
  rw[hC] at hi
  have hex:∀i,i<len→∃o:α,OK o∧∀j u,(f o)[j]? =some u→W.cell? (a.add (i * s+j))=some u:=by
   intro i hlt;obtain⟨cs',hc,ht⟩:=hi i (by omega);obtain⟨o,rfl,ho⟩:=Jh ht;obtain⟨-,-,hat⟩:=World.cells?_some hc;refine⟨o,ho,λj u hu=>?_⟩
   have hj:j<s:=by
    have:=(List.getElem?_eq_some_iff.1 hu).1
    rwa [hs] at this
   rw[←vx,hat j hj,hu]
  obtain⟨l,sW,hlo⟩:∃l:List α,l.length=len∧∀i (h:i<l.length),OK l[i]∧∀j u,(f l[i])[j]? =some u→W.cell? (a.add (i * s+j))=some u:=by
   clear hm hmm hi hl Ow h
   induction len with
   | zero=>exact⟨[],rfl,λi h=>by simp at h⟩
   | succ len ih=>
     obtain⟨l,h1,h2⟩:=ih λi hi=>hex i (by omega)
     obtain⟨o,ho⟩:=hex len (by omega);refine⟨l++[o],by simp[h1],λi hi=>?_⟩
     by_cases e:i<l.length
     ·rw[List.getElem_append_left e]
      exact h2 i e
     ·have e2:i=l.length:=by simp at hi;omega
      subst e2;rw[List.getElem_append_right (Nat.le_refl _)];simp only[Nat.sub_self,List.getElem_cons_zero];rw[h1];exact ho
  refine⟨some a,len,cap,l,rfl,sW,⟨⟨by rw[pO hs,sW],λhn=>?_⟩,(λe=>by cases e),hl,hm⟩,λo ho=>?_⟩
  ·have hlt:0<(f (l[0]'(by omega))).length:=by rw[hs];exact h0
   have hb:=lu ((hlo 0 (by omega)).2 0 _ (List.getElem?_eq_getElem hlt));rw[cq] at hb;refine⟨a,rfl,hb,hb,?_⟩;intro j u hu
   have hj:j<l.length * s:=by
    have:=(List.getElem?_eq_some_iff.1 hu).1
    rwa [pO hs] at this
   have hq:j/s<l.length:=Nat.div_lt_of_lt_mul (by rw[Nat.mul_comm];exact hj);have hr:j % s<s:=Nat.mod_lt _ h0;have hjq:j/s * s+j % s=j:=by rw[Nat.mul_comm];exact Nat.div_add_mod j s
   rw[←hjq,lX hs l (j/s) hq (j % s) hr] at hu;have:=(hlo (j/s) hq).2 (j % s) u hu
   rwa [hjq] at this
  ·obtain⟨i,hi,rfl⟩:=List.mem_iff_getElem.1 ho
   exact(hlo i hi).1
theorem BA:pQ.cellsOf 4=1:=by kernel_rfl
theorem Ia:pQ.cellsOf 80=1:=by kernel_rfl
theorem Ox{α:Type}{l:List α}(h:l.length=3):∃c0 c1 c2,l=[c0,c1,c2]:=by
 match l,h with
 | [c0,c1,c2],_=>exact⟨c0,c1,c2,rfl⟩
theorem Q9(h:DataW.trod enc pQ W base sp held fuel 79 cs=some x):∃o:bh,cs=o.cells∧bn o.id∧bn o.inn:=by
 have hC:pQ.cellsOf 79=3:=by kernel_rfl
 obtain⟨xs,n,-,-,hlen,mg,hg⟩:=DataW.trod_struct Tryz.underlying79 h;rw[hC] at hlen;obtain⟨c0,c1,c2,rfl⟩:=Ox hlen;obtain⟨y0,h0⟩:=aZ (i:=0) hg mg rfl rfl dV rfl rfl;obtain⟨y1,h1⟩:=aZ (i:=1) hg mg rfl rfl dV rfl rfl;obtain⟨y2,h2⟩:=aZ (i:=2) hg mg rfl rfl gi rfl rfl;obtain⟨a0,e0,w0⟩:=pU h0;obtain⟨a1,e1,w1⟩:=pU h1;obtain⟨a2,e2,w2⟩:=wO h2;injection e0 with e0;subst e0;injection e1 with e1;subst e1;injection e2 with e2;subst e2;exact⟨⟨a0,a1,a2⟩,rfl,w0,w1⟩
theorem Oy{α:Type}{l:List α}(h:l.length=4):∃c0 c1 c2 c3,l=[c0,c1,c2,c3]:=by
 match l,h with
 | [c0,c1,c2,c3],_=>exact⟨c0,c1,c2,c3,rfl⟩
theorem Ra(h:DataW.trod enc pQ W base sp held fuel 64 cs=some x):∃o:aX,cs=o.cells∧bn o.id∧bn o.inn:=by
 have hC:pQ.cellsOf 64=4:=by kernel_rfl
 obtain⟨xs,n,-,-,hlen,mg,hg⟩:=DataW.trod_struct Tryz.underlying64 h;rw[hC] at hlen;obtain⟨c0,c1,c2,c3,rfl⟩:=Oy hlen;obtain⟨y0,h0⟩:=aZ (i:=0) hg mg rfl rfl dV rfl rfl;obtain⟨y1,h1⟩:=aZ (i:=1) hg mg rfl rfl dV rfl rfl;obtain⟨y2,h2⟩:=aZ (i:=2) hg mg rfl rfl gi rfl rfl;obtain⟨y3,h3⟩:=aZ (i:=3) hg mg rfl rfl gi rfl rfl;obtain⟨a0,e0,w0⟩:=pU h0;obtain⟨a1,e1,w1⟩:=pU h1;obtain⟨a2,e2,w2⟩:=wO h2;obtain⟨a3,e3,w3⟩:=wO h3;injection e0 with e0;subst e0;injection e1 with e1;subst e1;injection e2 with e2;subst e2;injection e3 with e3;subst e3;exact⟨⟨a0,a1,a2,a3⟩,rfl,w0,w1⟩
theorem Oz{α:Type}{l:List α}(h:l.length=3):∃c0 c1 c2,l=[c0,c1,c2]:=by
 match l,h with
 | [c0,c1,c2],_=>exact⟨c0,c1,c2,rfl⟩
theorem Rb(h:DataW.trod enc pQ W base sp held fuel 84 cs=some x):∃o:ce,cs=o.cells∧bn o.id:=by
 have hC:pQ.cellsOf 84=3:=by kernel_rfl
 obtain⟨xs,n,-,-,hlen,mg,hg⟩:=DataW.trod_struct Tryz.underlying84 h;rw[hC] at hlen;obtain⟨c0,c1,c2,rfl⟩:=Oz hlen;obtain⟨y0,h0⟩:=aZ (i:=0) hg mg rfl rfl dV rfl rfl;obtain⟨y1,h1⟩:=aZ (i:=1) hg mg rfl rfl gi rfl rfl;obtain⟨y2,h2⟩:=aZ (i:=2) hg mg rfl rfl gi rfl rfl;obtain⟨a0,e0,w0⟩:=pU h0;obtain⟨a1,e1,w1⟩:=wO h1;obtain⟨a2,e2,w2⟩:=wO h2;injection e0 with e0;subst e0;injection e1 with e1;subst e1;injection e2 with e2;subst e2;exact⟨⟨a0,a1,a2⟩,rfl,w0⟩
theorem Lx{α:Type}{l:List α}(h:l.length=9):∃c0 c1 c2 c3 c4 c5 c6 c7 c8,l=[c0,c1,c2,c3,c4,c5,c6,c7,c8]:=by
 match l,h with
 | [c0,c1,c2,c3,c4,c5,c6,c7,c8],_=>exact⟨c0,c1,c2,c3,c4,c5,c6,c7,c8,rfl⟩
theorem Rc(h:DataW.trod enc pQ W base sp held fuel 82 cs=some x):∃o:Sl×aR,cs=io o∧(bn o.2.id∧bn o.2.feed)∧aF W (rL W) 1 o.1 o.2.tags.length (o.2.tags.map Value.string):=by
 have hC:pQ.cellsOf 82=9:=by kernel_rfl
 obtain⟨xs,n,-,-,hlen,mg,hg⟩:=DataW.trod_struct Tryz.underlying82 h;rw[hC] at hlen;obtain⟨c0,c1,c2,c3,c4,c5,c6,c7,c8,rfl⟩:=Lx hlen;obtain⟨y0,h0⟩:=aZ (i:=0) hg mg rfl rfl dV rfl rfl;obtain⟨y1,h1⟩:=aZ (i:=1) hg mg rfl rfl dV rfl rfl;obtain⟨y2,h2⟩:=aZ (i:=2) hg mg rfl rfl dV rfl rfl;obtain⟨y3,h3⟩:=aZ (i:=3) hg mg rfl rfl gi rfl rfl;obtain⟨y4,h4⟩:=aZ (i:=4) hg mg rfl rfl gi rfl rfl;obtain⟨y5,h5⟩:=aZ (i:=5) hg mg rfl rfl gi rfl rfl;obtain⟨y6,h6⟩:=aZ (i:=6) hg mg rfl rfl BA rfl rfl;obtain⟨y7,h7⟩:=aZ (i:=7) hg mg rfl rfl BA rfl rfl;obtain⟨y8,h8⟩:=aZ (i:=8) hg mg rfl rfl Ia rfl rfl;obtain⟨a0,e0,w0⟩:=pU h0;obtain⟨a1,e1,w1⟩:=pU h1;obtain⟨a2,e2,w2⟩:=pU h2;obtain⟨a3,e3,w3⟩:=wO h3;obtain⟨a4,e4,w4⟩:=wO h4;obtain⟨a5,e5,w5⟩:=wO h5;obtain⟨a6,e6⟩:=Lv h6;obtain⟨a7,e7⟩:=Lv h7;obtain⟨A,nn,cc,a8,e8,hn,hr,hk,k1,k2,hw⟩:=Ou h8;injection e0 with e0;subst e0;injection e1 with e1;subst e1;injection e2 with e2;subst e2;injection e3 with e3;subst e3;injection e4 with e4;subst e4;injection e5 with e5;subst e5;injection e6 with e6;subst e6;injection e7 with e7;subst e7;injection e8 with e8;subst e8;subst hn;exact⟨⟨(A,cc),⟨a0,a1,a2,a3,a4,a5,a6,a7,a8⟩⟩,rfl,⟨w0,w1⟩,J6 hr hk k1 k2⟩
theorem OA(h:DataW.trod enc pQ W base sp held fuel 31 cs=some x):∃A n c,∃l:List bh,cs=[U A n c]∧l.length=n∧aF W (rL W) 3 (A,c) n (l.flatMap bh.cells)∧∀o∈l,bn o.id∧bn o.inn:=
 Bz bh.clen (by decide) Tryz.underlying31 (by kernel_rfl) (λh=>Q9 h) h
theorem OB(h:DataW.trod enc pQ W base sp held fuel 32 cs=some x):∃A n c,∃l:List aX,cs=[U A n c]∧l.length=n∧aF W (rL W) 4 (A,c) n (l.flatMap aX.cells)∧∀o∈l,bn o.id∧bn o.inn:=
 Bz aX.clen (by decide) Tryz.underlying32 (by kernel_rfl) (λh=>Ra h) h
theorem OC(h:DataW.trod enc pQ W base sp held fuel 34 cs=some x):∃A n c,∃l:List ce,cs=[U A n c]∧l.length=n∧aF W (rL W) 3 (A,c) n (l.flatMap ce.cells)∧∀o∈l,bn o.id:=
 Bz ce.clen (by decide) Tryz.underlying34 (by kernel_rfl) (λh=>Rb h) h
theorem OD(h:DataW.trod enc pQ W base sp held fuel 33 cs=some x):∃A n c,∃l:List (Sl×aR),cs=[U A n c]∧l.length=n∧aF W (rL W) 9 (A,c) n (l.flatMap io)∧∀o∈l,(bn o.2.id∧bn o.2.feed)∧aF W (rL W) 1 o.1 o.2.tags.length (o.2.tags.map Value.string):=
 Bz bN (by decide) Tryz.underlying33 (by kernel_rfl) (λh=>Rc h) h
theorem Ib:pQ.cellsOf 31=1:=by kernel_rfl
theorem Ic:pQ.cellsOf 32=1:=by kernel_rfl
theorem Ie:pQ.cellsOf 33=1:=by kernel_rfl
theorem Ig:pQ.cellsOf 34=1:=by kernel_rfl
structure Re(W:World)(fo fe it se:Sl)(ts:List (Sl×aR))(x:St):Prop where
 st:aY W (rL W) fo fe it se ts x
 nums:H8 x
theorem Ue(h:DataW.trod enc pQ W base sp held fuel 36 cs=some x):∃fo fe it se:Sl,∃ts:List (Sl×aR),∃s:St,Value.agg cs.toArray=cC fo fe it se s∧Re W fo fe it se ts s:=by
 have hC:pQ.cellsOf 36=9:=by kernel_rfl
 obtain⟨xs,n,-,-,hlen,mg,hg⟩:=DataW.trod_struct Tryz.underlying36 h;rw[hC] at hlen;obtain⟨c0,c1,c2,c3,c4,c5,c6,c7,c8,rfl⟩:=Lx hlen;obtain⟨y0,h0⟩:=aZ (i:=0) hg mg rfl rfl dV rfl rfl;obtain⟨y1,h1⟩:=aZ (i:=1) hg mg rfl rfl Ib rfl rfl;obtain⟨y2,h2⟩:=aZ (i:=2) hg mg rfl rfl Ic rfl rfl;obtain⟨y3,h3⟩:=aZ (i:=3) hg mg rfl rfl Ie rfl rfl;obtain⟨y4,h4⟩:=aZ (i:=4) hg mg rfl rfl Ig rfl rfl;obtain⟨y5,h5⟩:=aZ (i:=5) hg mg rfl rfl dV rfl rfl;obtain⟨y6,h6⟩:=aZ (i:=6) hg mg rfl rfl dV rfl rfl;obtain⟨y7,h7⟩:=aZ (i:=7) hg mg rfl rfl dV rfl rfl;obtain⟨y8,h8⟩:=aZ (i:=8) hg mg rfl rfl dV rfl rfl;obtain⟨a0,e0,w0⟩:=pU h0;obtain⟨A1,n1,k1,l1,e1,uh,hs1,ho1⟩:=OA h1;obtain⟨A2,n2,k2,l2,e2,MA,hs2,ho2⟩:=OB h2;obtain⟨A3,n3,k3,l3,e3,PH,hs3,PC⟩:=OD h3;obtain⟨A4,n4,k4,l4,e4,PI,hs4,ho4⟩:=OC h4;obtain⟨a5,e5,w5⟩:=pU h5;obtain⟨a6,e6,w6⟩:=pU h6;obtain⟨a7,e7,w7⟩:=pU h7;obtain⟨a8,e8,w8⟩:=pU h8;injection e0 with e0;injection e1 with e1;injection e2 with e2;injection e3 with e3;injection e4 with e4;injection e5 with e5;injection e6 with e6;injection e7 with e7;injection e8 with e8;subst e0;subst e1;subst e2;subst e3;subst e4;subst e5;subst e6;subst e7;subst e8;subst uh;subst MA;subst PH;subst PI;refine⟨(A1,k1),(A2,k2),(A3,k3),(A4,k4),l3,⟨a0,l1,l2,l3.map (·.2),l4,a5,a6,a7,a8⟩,?_,⟨hs1,hs2,⟨hs3,λp hp=>(PC p hp).2⟩,rfl,hs4⟩,⟨ho1,ho2,λt ht=>?_,ho4,w5,w6,w7,w8⟩⟩
 ·unfold cC
  simp
 ·obtain⟨p,hp,rfl⟩:=List.mem_map.1 ht
  exact(PC p hp).1
end
end
end Go.Proofs.YtaecjmiobllhmaaGreat
