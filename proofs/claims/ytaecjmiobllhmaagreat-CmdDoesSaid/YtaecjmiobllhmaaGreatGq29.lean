/- Words. -/
import Derived.Test.YtaecjmiobllhmaaGreatGq24
import Derived.ProofKit
import Derived.SliceStrings
import Derived.Deep.Slices
import Derived.Deep.Fields
import Derived.Test.YtaecjmiobllhmaaGreatGq28
set_option linter.unusedVariables false
set_option linter.unusedSimpArgs false
set_option maxRecDepth 100000
set_option maxHeartbeats 16000000
namespace Go.Proofs.YtaecjmiobllhmaaGreat
open Go.Value renaming int→I,string→V,slice→U,pointer→O
open Go.IntKind renaming i64→J
open Tryz renaming prog→pQ
open Go.RowKit Go.Lib Go.ChangeShapes Go.WideShapes Go.ChangeAt Go.Deep
variable {A:Option Addr}{g:Nat}{tmps:Array Value}{a0 a1 a2 b:Value}{M:Ms}
structure I7(x:St):Prop where
 fols:∀f∈x.fols,bj f.id∧bj f.inn
 fees:∀f∈x.fees,bj f.id∧bj f.inn
 itms:∀t∈x.itms,bj t.id∧bj t.feed
 seas:∀f∈x.seas,bj f.id
 tFol:bj x.tFol
 tFee:bj x.tFee
 tItm:bj x.tItm
 tSea:bj x.tSea
theorem wE:bj 0:=by unfold bj;omega
theorem di.inS64{x:St}(h:di x){i:Int}(hi:eQ x i=true):bj i:=by
 rcases lZ.1 hi with rfl|⟨f,hf,rfl⟩
 ·exact wE
 ·have:=h.fId hf
  unfold bj;omega
theorem BB{n:Int}(h:aI n=true):bj n:=by
 unfold aI at h;simp only[Bool.or_eq_true,decide_eq_true_eq] at h;rcases h with h|h
 ·rw[h]
  exact wE
 ·have:=dy.1 h
  unfold bj;omega
theorem di.nums{x:St}(h:di x):I7 x where
 fols f hf:=by
  have h1:=h.fId hf;have h2:=(h.fE f hf).1;rw[Km] at h2;simp only[Bool.and_eq_true] at h2;exact⟨by unfold bj;omega,BB h2.1.2⟩
 fees f hf:=by
  have h1:=h.eId hf;have h2:=(h.eE f hf).1;rw[JY] at h2;simp only[Bool.and_eq_true] at h2;exact⟨by unfold bj;omega,BB h2.1.1.2⟩
 itms t ht:=by
  have h1:=h.iId ht;exact⟨by unfold bj;omega,by unfold bj;omega⟩
 seas f hf:=by
  have h1:=h.sId hf;unfold bj;omega
 tFol:=by have:=h.fT;unfold bj;omega
 tFee:=by have:=h.eT;unfold bj;omega
 tItm:=by have:=h.iT;unfold bj;omega
 tSea:=by have:=h.sT;unfold bj;omega
theorem di.stOk{x:St}(h:di x):stOk x=true:=(Ba x).2 h
def eP(l:List Ev):Bool:=decide (150<l.length)||l.any kV
theorem xE{l:List Ev}{k:Nat}(h:k<l.length)(h1:(l.take k).any kV=false)(h2:kV l[k]=false):(l.take (k+1)).any kV=false:=by
 rw[List.take_succ_eq_append_getElem h,List.any_append,h1];simp[h2]
theorem BC{l:List Ev}{k:Nat}(h:k<l.length)(h2:kV l[k]=true):l.any kV=true:=by
 rw[List.any_eq_true];exact⟨_,List.getElem_mem h,h2⟩
theorem qo{l:List Ev}(h:eP l=false):l.length≤150:=by
 unfold eP at h;simp only[Bool.or_eq_false_iff,decide_eq_false_iff_not] at h;omega
theorem Tc:maxLen=9223372036854775807:=by decide+kernel
theorem ue{w:World}{v:Sl}{G:Nat→Prop}(l:List Ev)(hv:aN w G 7 v l.length (l.flatMap Ev.cells)):
  Calls pQ 12 #[U v.1 l.length v.2] w λe w'=>e=.returned (.bool (eP l))∧aa ac w w':=by
 have hmx:l.length≤9223372036854775807:=by
  have h1:=hv.cap;have h2:=hv.max;rw[Tc] at h2;omega
 obtain⟨Av,cv⟩:=v;dsimp only;obtain⟨n,lG⟩:∃n,l.length=n:=⟨_,rfl⟩;have HL:=h_ lG;have HV:=h_ hv
 have HE:Hid (eP l=(decide (150<n)||l.any kV)):=by
  unfold Hid eP;rw[lG]
 rw[lG] at hmx ⊢;clear hv lG
 by_cases Td:150<n
 ·have h2:(150:Int)<(n:Int):=by omega
  go_enter Tryz.func12,Tryz.ntmps12;go_wp2;go_ret;exact⟨af (by rw[HE.out];simp[Td]),aa.refl _ _⟩
 have h2:¬(150:Int)<(n:Int):=by omega
 go_enter Tryz.func12,Tryz.ntmps12;go_wp2
 go_loopw [3] (λkv wr=>∃k:Nat,k≤n∧kv=I J k∧(l.take k).any kV=false∧aa ac w wr) (λkv _=>n-(intOf kv).toNat)
 case atStart=>exact⟨0,by omega,rfl,by simp,aa.refl _ _⟩
 case round=>
  obtain⟨k,hk,rfl,ht,hf⟩:=hrel;have HT:=h_ ht;have HF:=h_ hf;clear ht hf
  by_cases hlt:k<n
  ·have dX:k<l.length:=by rw[HL.out];exact hlt
   obtain⟨b,off,hA,-,hbl,hcell⟩:=(HV.out.nix HF.out).at_ Ev.clen (by decide) (by omega);dsimp only at hA;subst hA;have h7:=Bz (w:=wr) (b:=b) (off:=off+k * 7) (e:=l[k]) (hcell k dX);have wF:=h_ (λh=>BC dX h);have Cz:=h_ (λh=>xE dX HT.out h);obtain⟨ev,hev⟩:∃ev,l[k]=ev:=⟨_,rfl⟩;rw[hev] at h7 wF Cz;obtain⟨x0,x1,x2,x3,x4,x5,x6⟩:=h7;have KL:Hid (∀W,Calls pQ 26 #[.agg #[I J ev.kind,I J ev.a,I J ev.b,I J ev.n,V ev.s,V ev.t,V ev.u]] W λr w'=>r=.returned (.bool (kV ev))∧aa ac W w'):=λW=>De ev W
   clear hcell hev
   cases hb:kV ev with
   | true=>
     rw[hb] at KL;have HY:=h_ (wF.out hb);clear hb;go_wp2_with (go_at_call 26;refine(KL.out _).mono ?_;rintro r w2 ⟨rfl,hf2⟩;have qx:=h_ hf2;clear hf2);go_ret
     exact⟨af (by rw[HE.out,HY.out];simp),HF.out.trans qx.out⟩
   | false=>
     rw[hb] at KL;have HY:=h_ (Cz.out hb);clear hb;go_wp2_with (go_at_call 26;refine(KL.out _).mono ?_;rintro r w2 ⟨rfl,hf2⟩;have qx:=h_ hf2;clear hf2);go_roundw
     case rel=>exact⟨k+1,by omega,by go_num,HY.out,HF.out.trans qx.out⟩
     case measure=>simp[intOf];omega
  ·obtain rfl:k=n:=by omega
   have xg:Hid (l.any kV=false):=by
    have:=HT.out;rw[List.take_of_length_le (by rw[HL.out];exact Nat.le_refl _)] at this;exact this
   go_wp2;go_ret;exact⟨af (by rw[HE.out,xg.out];simp;omega),HF.out⟩
section
structure nd(w:World)(G:Nat→Prop)(v:Sl)(l:List Ev):Prop where
 sl:aN w G 7 v l.length (l.flatMap Ev.cells)
 num:∀e∈l,bj e.a∧bj e.b
section
variable {w w1:World} {G F:Nat→Prop} {v:Sl} {l:List Ev}
theorem nd.nix(h:nd w G v l)(hf:aa ac w w1):nd w1 G v l:=⟨h.sl.nix hf,h.num⟩
theorem nd.frm(h:nd w G v l)(hf:aa F w w1)(hd:∀k,G k→¬F k):nd w1 G v l:=⟨h.sl.frm hf hd,h.num⟩
theorem nd.large(h:nd w G v l):Calls pQ 12 #[U v.1 l.length v.2] w λe w'=>e=.returned (.bool (eP l))∧aa ac w w':=ue l h.sl
theorem nd.fold(h:nd w G v l)(hl:eP l=false):Calls pQ 19 #[U v.1 l.length v.2] w λe w'=>∃g M,e=.returned (O (some ⟨g,0,none⟩))∧aw w' g M (cZ m9 l)∧aa ac w w'∧∀k,SF g M k→w.heap.size≤k:=
 IP l h.sl h.num (by have:=qo hl;omega)
end
theorem di.small{x:St}(h:di x):aH x:=⟨by have:=h.fL;omega,by have:=h.eL;omega,by have:=h.iL;omega,by have:=h.sL;omega,λt ht=>by have:=(h.iE t ht).2.2.2.1;omega⟩
theorem pO{w wr:World}{G:Nat→Prop}{c:Nat}{l:List Ev}(hv:aN w G 7 (A,c) l.length (l.flatMap Ev.cells))(hf:aa ac w wr){k:Nat}(hk:k<l.length):∃b off,A=some ⟨b,off,none⟩∧G b∧b<wr.heap.size∧
  ∀(F:Nat→Prop) W,¬F b→aa F wr W→W.cell? ⟨b,off+k * 7,none⟩=some (I J l[k].kind)∧W.cell? ⟨b,off+k * 7+1,none⟩=some (I J l[k].a)∧W.cell? ⟨b,off+k * 7+2,none⟩=some (I J l[k].b)∧W.cell? ⟨b,off+k * 7+3,none⟩=some (I J l[k].n)∧W.cell? ⟨b,off+k * 7+4,none⟩=some (V l[k].s)∧W.cell? ⟨b,off+k * 7+5,none⟩=some (V l[k].t)∧W.cell? ⟨b,off+k * 7+6,none⟩=some (V l[k].u):=by
 obtain⟨b,off,hA,hG,hbl,hcell⟩:=(hv.nix hf).at_ Ev.clen (by decide) (by omega);refine⟨b,off,hA,hG,hbl,λF W hn hW=>?_⟩;obtain⟨x0,x1,x2,x3,x4,x5,x6⟩:=Bz (w:=wr) (b:=b) (off:=off+k * 7) (e:=l[k]) (hcell k hk);exact⟨(hW.cell (p:=⟨b,off+k * 7,none⟩) hbl hn).trans x0,(hW.cell (p:=⟨b,off+k * 7+1,none⟩) hbl hn).trans x1,(hW.cell (p:=⟨b,off+k * 7+2,none⟩) hbl hn).trans x2,(hW.cell (p:=⟨b,off+k * 7+3,none⟩) hbl hn).trans x3,(hW.cell (p:=⟨b,off+k * 7+4,none⟩) hbl hn).trans x4,(hW.cell (p:=⟨b,off+k * 7+5,none⟩) hbl hn).trans x5,(hW.cell (p:=⟨b,off+k * 7+6,none⟩) hbl hn).trans x6⟩
end
theorem Rd.cOld{w:World}{G:Nat→Prop}{s n:Nat}{xs:List Value}(h:Rd w G s A n xs):Rd w (λk=>G k∧k<w.heap.size) s A n xs:=
 ⟨h.1,λhn=>by
  obtain⟨a,e,h1,h2,h3⟩:=h.2 hn;exact⟨a,e,⟨h1,h2⟩,h2,h3⟩⟩
theorem aN.cOld{w:World}{G:Nat→Prop}{s n:Nat}{v:Sl}{xs:List Value}(h:aN w G s v n xs):aN w (λk=>G k∧k<w.heap.size) s v n xs:=⟨h.rd.cOld,h.nil,h.cap,h.max⟩
theorem aM.cOld{w:World}{G:Nat→Prop}{fo fe it se:Sl}{ts:List (Sl×aJ)}{x:St}(h:aM w G fo fe it se ts x):aM w (λk=>G k∧k<w.heap.size) fo fe it se ts x:=⟨h.fols.cOld,h.fees.cOld,⟨h.itms.row.cOld,λp hp=>(h.itms.tags p hp).cOld⟩,h.same,h.seas.cOld⟩
section
theorem lH{w:World}{a:Addr}{v:Value}(h:w.cell? a=some v):a.block<w.heap.size:=World.block_lt_of_cell? w _ h
def wG(A:Option Addr)(n c:Nat):Prop:=A=none→n=0∧c=0
section
variable {H:Type} {enc:TypeId×Value→H} {W:World} {base:Nat} {sp:Nat→Bool} {held:Bool} {fuel:Nat} {cs:List Value} {x:DataW H×List MemPlace}
theorem NK{n:Int}(h:(Lit.int .i64 n).wf=true): -9223372036854775808≤n∧n≤9223372036854775807:=by
 simp[Lit.wf,IntKind.min,IntKind.max,IntKind.signed,IntKind.bits] at h;omega
theorem BD(h:DataW.trod enc pQ W base sp held fuel 3 cs=some x):∃n,cs=[I J n]∧-9223372036854775808≤n∧n≤9223372036854775807:=by
 obtain⟨n,h1,-,h3⟩:=DataW.trod_int Tryz.underlying3 h;exact⟨n,h1,NK h3⟩
theorem I8(h:DataW.trod enc pQ W base sp held fuel 9 cs=some x):∃s:ByteArray,cs=[V s]∧s.size≤maxLen:=by
 obtain⟨s,h1,-,h3⟩:=DataW.trod_string Tryz.underlying9 h;exact⟨s,h1,h3⟩
def sZ(W:World):Nat→Prop:=λk=>k<W.heap.size
structure xF(e:Ev):Prop where
 kind: -9223372036854775808≤e.kind∧e.kind≤9223372036854775807
 a: -9223372036854775808≤e.a∧e.a≤9223372036854775807
 b: -9223372036854775808≤e.b∧e.b≤9223372036854775807
 n: -9223372036854775808≤e.n∧e.n≤9223372036854775807
 s:e.s.size≤maxLen
 t:e.t.size≤maxLen
 u:e.u.size≤maxLen
theorem PY{α:Type}{l:List α}(h:l.length=7):∃a b c d e f g,l=[a,b,c,d,e,f,g]:=by
 match l,h with
 | [a,b,c,d,e,f,g],_=>exact⟨a,b,c,d,e,f,g,rfl⟩
theorem iU{n i t:Nat}{f:Field}{xs:List (DataW H×List MemPlace)}{fs:Array Field}(hg:∀(i:Nat) (f:Field),fs[i]? =some f→DataW.trod enc pQ W base sp held n f.type ((cs.drop f.offset).take (pQ.cellsOf f.type))=xs[i]?)(xq:xs.length=fs.size)
  (hi:fs[i]? =some f) (ht:f.type=t) (h1:pQ.cellsOf t=1) (ho:f.offset=i) {v:Value} (hv:(cs.drop i).take 1=[v]):∃y,DataW.trod enc pQ W base sp held n t [v]=some y:=by
 have h:=hg i f hi;rw[ht,h1,ho,hv] at h;have hlt:i<xs.length:=by rw[xq];exact(Array.getElem?_eq_some_iff.1 hi).1
 exact⟨xs[i],by rw[h,List.getElem?_eq_getElem hlt]⟩
theorem pk:pQ.cellsOf 3=1:=by kernel_rfl
theorem nT:pQ.cellsOf 9=1:=by kernel_rfl
theorem Xl(h:DataW.trod enc pQ W base sp held fuel 42 cs=some x):∃o:Ev,cs=o.cells∧xF o:=by
 have hC:pQ.cellsOf 42=7:=by kernel_rfl
 obtain⟨xs,n,-,-,hlen,xq,hg⟩:=DataW.trod_struct Tryz.underlying42 h;rw[hC] at hlen;obtain⟨c0,c1,c2,c3,c4,c5,c6,rfl⟩:=PY hlen;obtain⟨y0,h0⟩:=iU (i:=0) hg xq rfl rfl pk rfl rfl;obtain⟨y1,h1⟩:=iU (i:=1) hg xq rfl rfl pk rfl rfl;obtain⟨y2,h2⟩:=iU (i:=2) hg xq rfl rfl pk rfl rfl;obtain⟨y3,h3⟩:=iU (i:=3) hg xq rfl rfl pk rfl rfl;obtain⟨y4,h4⟩:=iU (i:=4) hg xq rfl rfl nT rfl rfl;obtain⟨y5,h5⟩:=iU (i:=5) hg xq rfl rfl nT rfl rfl;obtain⟨y6,h6⟩:=iU (i:=6) hg xq rfl rfl nT rfl rfl;obtain⟨k,e0,w0⟩:=BD h0;obtain⟨a,e1,w1⟩:=BD h1;obtain⟨b,e2,w2⟩:=BD h2;obtain⟨m,e3,w3⟩:=BD h3;obtain⟨s,e4,w4⟩:=I8 h4;obtain⟨t,e5,w5⟩:=I8 h5;obtain⟨u,e6,w6⟩:=I8 h6;injection e0 with e0;injection e1 with e1;injection e2 with e2;injection e3 with e3;injection e4 with e4;injection e5 with e5;injection e6 with e6;subst e0;subst e1;subst e2;subst e3;subst e4;subst e5;subst e6;exact⟨⟨k,a,b,m,s,t,u⟩,rfl,⟨w0,w1,w2,w3,w4,w5,w6⟩⟩
theorem Lp(l:List Ev):(l.flatMap Ev.cells).length=l.length * 7:=by
 induction l with
 | nil=>rfl
 | cons o l ih=>
   rw[List.flatMap_cons,List.length_append,ih,List.length_cons];have:o.cells.length=7:=rfl;omega
theorem PZ(h:DataW.trod enc pQ W base sp held fuel 30 cs=some x):
  ∃A n c,∃l:List Ev,cs=[U A n c]∧l.length=n∧Rd W (sZ W) 7 A n (l.flatMap Ev.cells)∧(∀o∈l,xF o)∧wG A n c∧n≤c∧c≤maxLen:=by
 have hC:pQ.cellsOf 42=7:=by kernel_rfl
 rcases open_slice Tryz.underlying30 h with ⟨rfl,-⟩|⟨a,len,cap,m,n,D,Pl,rfl,-,hl,hm,hmm,-,hi⟩
 ·exact⟨none,0,0,[],rfl,rfl,Rd.none_,by simp,λ_=>⟨rfl,rfl⟩,Nat.le_refl _,Nat.zero_le _⟩
 ·have Hl:len≤m:=by rw[hmm];split<;>omega
  rw[hC] at hi
  have hex:∀i,i<len→∃o:Ev,xF o∧∀j u,o.cells[j]? =some u→W.cell? (a.add (i * 7+j))=some u:=by
   intro i hlt;obtain⟨cs',hc,ht⟩:=hi i (by omega);obtain⟨o,rfl,ho⟩:=Xl ht;obtain⟨-,-,hat⟩:=World.cells?_some hc;refine⟨o,ho,λj u hu=>?_⟩
   have hj:j<7:=by
    have:=(List.getElem?_eq_some_iff.1 hu).1
    simpa [Ev.cells] using this
   rw[←rM,hat j hj,hu]
  obtain⟨l,Cw,hlo⟩:∃l:List Ev,l.length=len∧∀i (h:i<l.length),xF l[i]∧∀j u,l[i].cells[j]? =some u→W.cell? (a.add (i * 7+j))=some u:=by
   clear hm hmm hi hl Hl h
   induction len with
   | zero=>exact⟨[],rfl,λi h=>by simp at h⟩
   | succ len ih=>
     obtain⟨l,h1,h2⟩:=ih λi hi=>hex i (by omega)
     obtain⟨o,ho⟩:=hex len (by omega);refine⟨l++[o],by simp[h1],λi hi=>?_⟩
     by_cases e:i<l.length
     ·rw[List.getElem_append_left e]
      exact h2 i e
     ·have e2:i=l.length:=by simp at hi;omega
      subst e2;rw[List.getElem_append_right (Nat.le_refl _)];simp only[Nat.sub_self,List.getElem_cons_zero];rw[h1];exact ho
  refine⟨some a,len,cap,l,rfl,Cw,⟨by rw[Lp,Cw],λhn=>⟨a,rfl,?_,?_,?_⟩⟩,λo ho=>?_,(λe=>by cases e),hl,hm⟩
  ·have:=lH ((hlo 0 (by omega)).2 0 _ rfl)
   rw[dN] at this;exact this
  ·have:=lH ((hlo 0 (by omega)).2 0 _ rfl)
   rw[dN] at this;exact this
  ·intro j u hu
   have kY:∀(l:List Ev) (j:Nat) (u:Value),(l.flatMap Ev.cells)[j]? =some u→∃(i:Nat) (h:i<l.length) (r:Nat),j=i * 7+r∧l[i].cells[r]? =some u:=by
    intro l
    induction l with
    | nil=>intro j u hu;simp at hu
    | cons o l ih=>
      intro j u hu;rw[List.flatMap_cons] at hu;have h7:o.cells.length=7:=rfl
      by_cases hj:j<7
      ·rw[List.getElem?_append_left (by omega)] at hu
       exact⟨0,by simp,j,by omega,hu⟩
      ·rw[List.getElem?_append_right (by omega),h7] at hu
       obtain⟨i,hi,r,e,hr⟩:=ih _ _ hu;exact⟨i+1,by simpa using hi,r,by omega,by simpa using hr⟩
   obtain⟨i,hi,r,rfl,hr⟩:=kY l j u hu;exact(hlo i hi).2 r u hr
  ·obtain⟨i,hi,rfl⟩:=List.mem_iff_getElem.1 ho
   exact(hlo i hi).1
end
end
section
section
variable {H:Type} {enc:TypeId×Value→H} {W:World} {base:Nat} {sp:Nat→Bool} {held:Bool} {fuel:Nat} {cs:List Value} {x:DataW H×List MemPlace}
theorem P0{α:Type}{f:α→List Value}{OK:α→Prop}{s st et:Nat}(hs:∀a,(f a).length=s)(h0:0<s)(hu:pQ.underlying st=some (.slice et))(hC:pQ.cellsOf et=s)
  (xu:∀{fu:Nat} {cs:List Value} {x:DataW H×List MemPlace},DataW.trod enc pQ W base sp held fu et cs=some x→∃o,cs=f o∧OK o) (h:DataW.trod enc pQ W base sp held fuel st cs=some x):
  ∃A n c,∃l:List α,cs=[U A n c]∧l.length=n∧aN W (sZ W) s (A,c) n (l.flatMap f)∧∀o∈l,OK o:=by
 rcases open_slice hu h with ⟨rfl,-⟩|⟨a,len,cap,m,n,D,Pl,rfl,-,hl,hm,hmm,-,hi⟩
 ·exact⟨none,0,0,[],rfl,rfl,aN.none_ _ _ _,by simp⟩
 ·have Hl:len≤m:=by rw[hmm];split<;>omega
  rw[hC] at hi
  have hex:∀i,i<len→∃o:α,OK o∧∀j u,(f o)[j]? =some u→W.cell? (a.add (i * s+j))=some u:=by
   intro i hlt;obtain⟨cs',hc,ht⟩:=hi i (by omega);obtain⟨o,rfl,ho⟩:=xu ht;obtain⟨-,-,hat⟩:=World.cells?_some hc;refine⟨o,ho,λj u hu=>?_⟩
   have hj:j<s:=by
    have:=(List.getElem?_eq_some_iff.1 hu).1
    rwa [hs] at this
   rw[←rM,hat j hj,hu]
  obtain⟨l,Cw,hlo⟩:∃l:List α,l.length=len∧∀i (h:i<l.length),OK l[i]∧∀j u,(f l[i])[j]? =some u→W.cell? (a.add (i * s+j))=some u:=by
   clear hm hmm hi hl Hl h
   induction len with
   | zero=>exact⟨[],rfl,λi h=>by simp at h⟩
   | succ len ih=>
     obtain⟨l,h1,h2⟩:=ih λi hi=>hex i (by omega)
     obtain⟨o,ho⟩:=hex len (by omega);refine⟨l++[o],by simp[h1],λi hi=>?_⟩
     by_cases e:i<l.length
     ·rw[List.getElem_append_left e]
      exact h2 i e
     ·have e2:i=l.length:=by simp at hi;omega
      subst e2;rw[List.getElem_append_right (Nat.le_refl _)];simp only[Nat.sub_self,List.getElem_cons_zero];rw[h1];exact ho
  refine⟨some a,len,cap,l,rfl,Cw,⟨⟨by rw[qM hs,Cw],λhn=>?_⟩,(λe=>by cases e),hl,hm⟩,λo ho=>?_⟩
  ·have hlt:0<(f (l[0]'(by omega))).length:=by rw[hs];exact h0
   have hb:=lH ((hlo 0 (by omega)).2 0 _ (List.getElem?_eq_getElem hlt));rw[dN] at hb;refine⟨a,rfl,hb,hb,?_⟩;intro j u hu
   have hj:j<l.length * s:=by
    have:=(List.getElem?_eq_some_iff.1 hu).1
    rwa [qM hs] at this
   have hq:j/s<l.length:=Nat.div_lt_of_lt_mul (by rw[Nat.mul_comm];exact hj);have hr:j % s<s:=Nat.mod_lt _ h0;have hjq:j/s * s+j % s=j:=by rw[Nat.mul_comm];exact Nat.div_add_mod j s
   rw[←hjq,l4 hs l (j/s) hq (j % s) hr] at hu;have:=(hlo (j/s) hq).2 (j % s) u hu
   rwa [hjq] at this
  ·obtain⟨i,hi,rfl⟩:=List.mem_iff_getElem.1 ho
   exact(hlo i hi).1
structure Xm(W:World)(fo fe it se:Sl)(ts:List (Sl×aJ))(x:St):Prop where
 st:aM W (sZ W) fo fe it se ts x
 nums:I7 x
end
end
theorem BF{W:World}(hb:ai W g 79 #[a0,a1,a2])(h2:tmps.getD 4 undef=O (some ⟨g,0,none⟩))(h3:tmps.getD 5 undef=b):
  (results Tryz.f93 tmps).run pQ W=.ok (.tuple #[.agg #[a0,a1,a2],b]) W:=by
 have c0:=hb.cell 0;have c1:=hb.cell 1;have c2:=hb.cell 2;simp at c0 c1 c2;have h2':tmps[4]?.getD undef=O (some ⟨g,0,none⟩):=by simpa using h2
 have IR:tmps[5]?.getD undef=b:=by simpa using h3
 simp[results,Tryz.results93,h2',IR,go_sem,c0,c1,c2]
theorem Gv{W:World}{a0 a1 a2 a3 b:Value}(hb:ai W g 64 #[a0,a1,a2,a3])(h2:tmps.getD 4 undef=O (some ⟨g,0,none⟩))(h3:tmps.getD 5 undef=b):
  (results Tryz.f48 tmps).run pQ W=.ok (.tuple #[.agg #[a0,a1,a2,a3],b]) W:=by
 have c0:=hb.cell 0;have c1:=hb.cell 1;have c2:=hb.cell 2;have c3:=hb.cell 3;simp at c0 c1 c2 c3;have h2':tmps[4]?.getD undef=O (some ⟨g,0,none⟩):=by simpa using h2
 have IR:tmps[5]?.getD undef=b:=by simpa using h3
 simp[results,Tryz.results48,h2',IR,go_sem,c0,c1,c2,c3]
theorem BG{W:World}(hb:ai W g 84 #[a0,a1,a2])(h2:tmps.getD 4 undef=O (some ⟨g,0,none⟩))(h3:tmps.getD 5 undef=b):
  (results Tryz.f97 tmps).run pQ W=.ok (.tuple #[.agg #[a0,a1,a2],b]) W:=by
 have c0:=hb.cell 0;have c1:=hb.cell 1;have c2:=hb.cell 2;simp at c0 c1 c2;have h2':tmps[4]?.getD undef=O (some ⟨g,0,none⟩):=by simpa using h2
 have IR:tmps[5]?.getD undef=b:=by simpa using h3
 simp[results,Tryz.results97,h2',IR,go_sem,c0,c1,c2]
theorem qQ{w:World}{x:St}(h:aw w g M x){i:Int}(hi:bj i):
  Calls pQ 93 #[O (some ⟨g,0,none⟩),I J i] w λe w'=>e=.returned (.tuple #[.agg #[I J (ep x i).id,I J (ep x i).inn,V (ep x i).name],.bool (aS bg.id i x.fols)])∧aa ac w w':=by
 obtain⟨w0,hw0⟩:∃w0,w0=w.alloc (.cells #[I J 0,I J 0,V ⟨#[]⟩] 79):=⟨_,rfl⟩;have f0:aa ac w w0:=by rw[hw0];exact(fR w).alloc _
 have hz0:ai w0 w.heap.size 79 #[I J 0,I J 0,V ⟨#[]⟩]:=by rw[hw0];exact ai.new w _ _
 have h0:=h.nix f0;obtain⟨c0,c1,c2,c3,c4,c5,c6,c7,c8,-⟩:=h0.cells;have hl2:=h0.folLook2 hi;generalize ep x i=t at *;generalize aS bg.id i x.fols=bb at *;obtain⟨w1,hw1⟩:∃w1,w1=w0.alloc (.cells #[I J t.id,I J t.inn,V t.name] 79):=⟨_,rfl⟩;have f1:aa ac w0 w1:=by rw[hw1];exact(fR w0).alloc _
 have hz1:=hz0.frm f1 id;have hb1:ai w1 w0.heap.size 79 #[I J t.id,I J t.inn,V t.name]:=by rw[hw1];exact ai.new w0 _ _
 have q0:=hb1.cell 0;have q1:=hb1.cell 1;have q2:=hb1.cell 2;have g0:=hz1.frozen 0;have g1:=hz1.frozen 1;have g2:=hz1.frozen 2;simp at q0 q1 q2;have yi:=h_ hw0;have OU:=h_ hw1;have HZ:=h_ hz1;have HF:=h_ (f0.trans f1);clear h h0 f0 f1 hz0 hz1 hb1;rw[hw0] at c0 c1 c2 c3 c4 c5 c6 c7 c8 hl2;rw[hw1,hw0] at q0 q1 q2 g0 g1 g2;clear hw0 hw1;go_enter Tryz.func93,Tryz.ntmps93;go_wp2;refine bodyPost_ret (BF ((ai.new w 79 #[I J t.id,I J t.inn,V t.name]).frm ((fR _).alloc _) id) rfl rfl) rfl ?_;exact⟨rfl,((fR w).alloc _).alloc _⟩
theorem uf{w:World}{x:St}(h:aw w g M x){i:Int}(hi:bj i):
  Calls pQ 48 #[O (some ⟨g,0,none⟩),I J i] w λe w'=>e=.returned (.tuple #[.agg #[I J (ar x i).id,I J (ar x i).inn,V (ar x i).url,V (ar x i).title],.bool (aS aP.id i x.fees)])∧aa ac w w':=by
 obtain⟨w0,hw0⟩:∃w0,w0=w.alloc (.cells #[I J 0,I J 0,V ⟨#[]⟩,V ⟨#[]⟩] 64):=⟨_,rfl⟩;have f0:aa ac w w0:=by rw[hw0];exact(fR w).alloc _
 have hz0:ai w0 w.heap.size 64 #[I J 0,I J 0,V ⟨#[]⟩,V ⟨#[]⟩]:=by rw[hw0];exact ai.new w _ _
 have h0:=h.nix f0;obtain⟨c0,c1,c2,c3,c4,c5,c6,c7,c8,-⟩:=h0.cells;have hl2:=h0.feeLook2 hi;generalize ar x i=t at *;generalize aS aP.id i x.fees=bb at *;obtain⟨w1,hw1⟩:∃w1,w1=w0.alloc (.cells #[I J t.id,I J t.inn,V t.url,V t.title] 64):=⟨_,rfl⟩;have f1:aa ac w0 w1:=by rw[hw1];exact(fR w0).alloc _
 have hz1:=hz0.frm f1 id;have hb1:ai w1 w0.heap.size 64 #[I J t.id,I J t.inn,V t.url,V t.title]:=by rw[hw1];exact ai.new w0 _ _
 have q0:=hb1.cell 0;have q1:=hb1.cell 1;have q2:=hb1.cell 2;have q3:=hb1.cell 3;have g0:=hz1.frozen 0;have g1:=hz1.frozen 1;have g2:=hz1.frozen 2;have g3:=hz1.frozen 3;simp at q0 q1 q2 q3;have yi:=h_ hw0;have OU:=h_ hw1;have HZ:=h_ hz1;have HF:=h_ (f0.trans f1);clear h h0 f0 f1 hz0 hz1 hb1;rw[hw0] at c0 c1 c2 c3 c4 c5 c6 c7 c8 hl2;rw[hw1,hw0] at q0 q1 q2 q3 g0 g1 g2 g3;clear hw0 hw1;go_enter Tryz.func48,Tryz.ntmps48;go_wp2;refine bodyPost_ret (Gv ((ai.new w 64 #[I J t.id,I J t.inn,V t.url,V t.title]).frm ((fR _).alloc _) id) rfl rfl) rfl ?_;exact⟨rfl,((fR w).alloc _).alloc _⟩
theorem BH{w:World}{x:St}(h:aw w g M x){i:Int}(hi:bj i):
  Calls pQ 97 #[O (some ⟨g,0,none⟩),I J i] w λe w'=>e=.returned (.tuple #[.agg #[I J (lK x i).id,V (lK x i).name,V (lK x i).query],.bool (aS dE.id i x.seas)])∧aa ac w w':=by
 obtain⟨w0,hw0⟩:∃w0,w0=w.alloc (.cells #[I J 0,V ⟨#[]⟩,V ⟨#[]⟩] 84):=⟨_,rfl⟩;have f0:aa ac w w0:=by rw[hw0];exact(fR w).alloc _
 have hz0:ai w0 w.heap.size 84 #[I J 0,V ⟨#[]⟩,V ⟨#[]⟩]:=by rw[hw0];exact ai.new w _ _
 have h0:=h.nix f0;obtain⟨c0,c1,c2,c3,c4,c5,c6,c7,c8,-⟩:=h0.cells;have hl2:=h0.seaLook2 hi;generalize lK x i=t at *;generalize aS dE.id i x.seas=bb at *;obtain⟨w1,hw1⟩:∃w1,w1=w0.alloc (.cells #[I J t.id,V t.name,V t.query] 84):=⟨_,rfl⟩;have f1:aa ac w0 w1:=by rw[hw1];exact(fR w0).alloc _
 have hz1:=hz0.frm f1 id;have hb1:ai w1 w0.heap.size 84 #[I J t.id,V t.name,V t.query]:=by rw[hw1];exact ai.new w0 _ _
 have q0:=hb1.cell 0;have q1:=hb1.cell 1;have q2:=hb1.cell 2;have g0:=hz1.frozen 0;have g1:=hz1.frozen 1;have g2:=hz1.frozen 2;simp at q0 q1 q2;have yi:=h_ hw0;have OU:=h_ hw1;have HZ:=h_ hz1;have HF:=h_ (f0.trans f1);clear h h0 f0 f1 hz0 hz1 hb1;rw[hw0] at c0 c1 c2 c3 c4 c5 c6 c7 c8 hl2;rw[hw1,hw0] at q0 q1 q2 g0 g1 g2;clear hw0 hw1;go_enter Tryz.func97,Tryz.ntmps97;go_wp2;refine bodyPost_ret (BG ((ai.new w 84 #[I J t.id,V t.name,V t.query]).frm ((fR _).alloc _) id) rfl rfl) rfl ?_;exact⟨rfl,((fR w).alloc _).alloc _⟩
theorem Gw{w:World}{x:St}(h:aw w g M x):Calls pQ 53 #[O (some ⟨g,0,none⟩)] w λe w'=>e=.returned (I J x.clock)∧w=w':=by
 obtain⟨c0,-⟩:=h.cells;clear h;go_enter Tryz.func53,Tryz.ntmps53;go_wp2;go_ret;exact⟨rfl,rfl⟩
def NL(x:St)(k:Int):Int:=if k=1 then x.tFol else if k=3 then x.tFee else if k=7 then x.tItm else if k=11 then x.tSea else 0
theorem Lq{w:World}{x:St}(h:aw w g M x)(k:Int):Calls pQ 144 #[O (some ⟨g,0,none⟩),I J k] w λe w'=>e=.returned (I J (NL x k))∧w=w':=by
 obtain⟨c0,c1,c2,c3,c4,c5,c6,c7,c8,c9,c10,c11,c12⟩:=h.cells;have HT:Hid (NL x k=if k=1 then x.tFol else if k=3 then x.tFee else if k=7 then x.tItm else if k=11 then x.tSea else 0):=rfl;clear h
 by_cases h1:k=1
 ·rw[if_pos h1] at HT
  subst h1;go_enter Tryz.func144,Tryz.ntmps144;go_wp2;go_ret;exact⟨by rw[HT.out]<;>rfl,rfl⟩
 rw[if_neg h1] at HT
 by_cases h2:k=3
 ·rw[if_pos h2] at HT
  subst h2;go_enter Tryz.func144,Tryz.ntmps144;go_wp2;go_ret;exact⟨by rw[HT.out]<;>rfl,rfl⟩
 rw[if_neg h2] at HT
 by_cases h3:k=7
 ·rw[if_pos h3] at HT
  subst h3;go_enter Tryz.func144,Tryz.ntmps144;go_wp2;go_ret;exact⟨by rw[HT.out]<;>rfl,rfl⟩
 rw[if_neg h3] at HT
 by_cases h4:k=11
 ·rw[if_pos h4] at HT
  subst h4;go_enter Tryz.func144,Tryz.ntmps144;go_wp2;go_ret;exact⟨by rw[HT.out]<;>rfl,rfl⟩
 rw[if_neg h4] at HT;go_enter Tryz.func144,Tryz.ntmps144;go_wp2;go_ret;exact⟨by rw[HT.out]<;>rfl,rfl⟩
end Go.Proofs.YtaecjmiobllhmaaGreat
