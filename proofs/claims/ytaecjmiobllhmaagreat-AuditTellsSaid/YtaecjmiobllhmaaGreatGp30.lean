/- Words. -/
import Derived.Test.YtaecjmiobllhmaaGreatGp10
import Derived.Test.YtaecjmiobllhmaaGreatGp11
import Derived.Test.YtaecjmiobllhmaaGreatGp15
import Derived.Test.YtaecjmiobllhmaaGreatGp24
import Derived.Test.YtaecjmiobllhmaaGreatGp08
import Derived.ProofKit
import Derived.SliceStrings
import Derived.Deep.Slices
import Derived.Deep.Fields
set_option linter.unusedVariables false
set_option linter.unusedSimpArgs false
set_option maxRecDepth 100000
set_option maxHeartbeats 16000000
namespace Go.Proofs.YtaecjmiobllhmaaGreat
open Go.RowKit Go.Lib Go.ChangeShapes Go.WideShapes Go.ChangeAt Go.Deep
structure StNums(x:St):Prop where
 fols:∀f∈x.fols,I64 f.id∧I64 f.inn
 fees:∀f∈x.fees,I64 f.id∧I64 f.inn
 itms:∀t∈x.itms,I64 t.id∧I64 t.feed
 seas:∀f∈x.seas,I64 f.id
 tFol:I64 x.tFol
 tFee:I64 x.tFee
 tItm:I64 x.tItm
 tSea:I64 x.tSea
theorem i64_0:I64 0:=by unfold I64;omega
theorem folder64{n:Int}(h:folderOk n=true):I64 n:=by
 unfold folderOk at h;simp only[Bool.or_eq_true,decide_eq_true_eq] at h;rcases h with h | h
 ·rw[h]
  exact i64_0
 ·have:=idOk_iff.1 h
  unfold I64;omega
theorem StP.nums{x:St}(h:StP x):StNums x where
 fols f hf:=by
  have h1:=h.fId hf;have h2:=(h.fE f hf).1;rw[ev1] at h2;simp only[Bool.and_eq_true] at h2;exact⟨by unfold I64;omega,folder64 h2.1.2⟩
 fees f hf:=by
  have h1:=h.eId hf;have h2:=(h.eE f hf).1;rw[ev3] at h2;simp only[Bool.and_eq_true] at h2;exact⟨by unfold I64;omega,folder64 h2.1.1.2⟩
 itms t ht:=by
  have h1:=h.iId ht;exact⟨by unfold I64;omega,by unfold I64;omega⟩
 seas f hf:=by
  have h1:=h.sId hf;unfold I64;omega
 tFol:=by have:=h.fT;unfold I64;omega
 tFee:=by have:=h.eT;unfold I64;omega
 tItm:=by have:=h.iT;unfold I64;omega
 tSea:=by have:=h.sT;unfold I64;omega
theorem StP.stOk{x:St}(h:StP x):stOk x=true:=(stOk_iff x).2 h
def largeEvs(l:List Ev):Bool:=decide (150<l.length)||l.any evLarge
theorem largeEvs_take{l:List Ev}{k:Nat}(h:k<l.length)(h1:(l.take k).any evLarge=false)(h2:evLarge l[k]=false):(l.take (k+1)).any evLarge=false:=by
 rw[List.take_succ_eq_append_getElem h,List.any_append,h1];simp[h2]
theorem largeEvs_at{l:List Ev}{k:Nat}(h:k<l.length)(h2:evLarge l[k]=true):l.any evLarge=true:=by
 rw[List.any_eq_true];exact⟨_,List.getElem_mem h,h2⟩
theorem largeEvs_len{l:List Ev}(h:largeEvs l=false):l.length≤150:=by
 unfold largeEvs at h;simp only[Bool.or_eq_false_iff,decide_eq_false_iff_not] at h;omega
theorem maxL:maxLen=9223372036854775807:=by decide+kernel
theorem rLargeEvents_any{w:World}{v:Sl}{G:Nat→Prop}(l:List Ev)(hv:SlIn w G 7 v l.length (l.flatMap Ev.cells)):
  Calls Tryz.prog 12 #[.slice v.1 l.length v.2] w λe w'=>e=.returned (.bool (largeEvs l))∧Frm Nix w w':=by
 have hmx:l.length≤9223372036854775807:=by
  have h1:=hv.cap;have h2:=hv.max;rw[maxL] at h2;omega
 obtain⟨Av,cv⟩:=v;dsimp only;obtain⟨n,hln⟩:∃n,l.length=n:=⟨_,rfl⟩;have HL:=h_ hln;have HV:=h_ hv
 have HE:Hid (largeEvs l=(decide (150<n)||l.any evLarge)):=by
  unfold Hid largeEvs;rw[hln]
 rw[hln] at hmx ⊢;clear hv hln
 by_cases h150:150<n
 ·have h2:(150:Int)<(n:Int):=by omega
  go_enter Tryz.func12,Tryz.ntmps12;go_wp2;go_ret;exact⟨ret_bool (by rw[HE.out];simp[h150]),Frm.refl _ _⟩
 have h2:¬(150:Int)<(n:Int):=by omega
 go_enter Tryz.func12,Tryz.ntmps12;go_wp2
 go_loopw [3] (λkv wr=>∃k:Nat,k≤n∧kv=.int .i64 k∧(l.take k).any evLarge=false∧Frm Nix w wr) (λkv _=>n - (intOf kv).toNat)
 case atStart=>exact⟨0,by omega,rfl,by simp,Frm.refl _ _⟩
 case round=>
  obtain⟨k,hk,rfl,ht,hf⟩:=hrel;have HT:=h_ ht;have HF:=h_ hf;clear ht hf
  by_cases hlt:k<n
  ·have hkl:k<l.length:=by rw[HL.out];exact hlt
   obtain⟨b,off,hA,-,hbl,hcell⟩:=(HV.out.nix HF.out).at_ Ev.clen (by decide) (by omega);dsimp only at hA;subst hA;have h7:=evc7 (w:=wr) (b:=b) (off:=off+k * 7) (e:=l[k]) (hcell k hkl);have HYes:=h_ (λh=>largeEvs_at hkl h);have HNo:=h_ (λh=>largeEvs_take hkl HT.out h);obtain⟨ev,hev⟩:∃ev,l[k]=ev:=⟨_,rfl⟩;rw[hev] at h7 HYes HNo;obtain⟨x0,x1,x2,x3,x4,x5,x6⟩:=h7;have KL:Hid (∀W,Calls Tryz.prog 26 #[.agg #[.int .i64 ev.kind,.int .i64 ev.a,.int .i64 ev.b,.int .i64 ev.n,.string ev.s,.string ev.t,.string ev.u]] W λr w'=>r=.returned (.bool (evLarge ev))∧Frm Nix W w'):=λW=>rLarge_any ev W
   clear hcell hev
   cases hb:evLarge ev with
   | true=>
     rw[hb] at KL;have HY:=h_ (HYes.out hb);clear hb;go_wp2_with (go_at_call 26;refine(KL.out _).mono ?_;rintro r w2 ⟨rfl,hf2⟩;have HF2:=h_ hf2;clear hf2);go_ret
     exact⟨ret_bool (by rw[HE.out,HY.out];simp),HF.out.trans HF2.out⟩
   | false=>
     rw[hb] at KL;have HY:=h_ (HNo.out hb);clear hb;go_wp2_with (go_at_call 26;refine(KL.out _).mono ?_;rintro r w2 ⟨rfl,hf2⟩;have HF2:=h_ hf2;clear hf2);go_roundw
     case rel=>exact⟨k+1,by omega,by go_num,HY.out,HF.out.trans HF2.out⟩
     case measure=>simp[intOf];omega
  ·obtain rfl:k=n:=by omega
   have HTk:Hid (l.any evLarge=false):=by
    have:=HT.out;rw[List.take_of_length_le (by rw[HL.out];exact Nat.le_refl _)] at this;exact this
   go_wp2;go_ret;exact⟨ret_bool (by rw[HE.out,HTk.out];simp;omega),HF.out⟩
section
structure EvsIn(w:World)(G:Nat→Prop)(v:Sl)(l:List Ev):Prop where
 sl:SlIn w G 7 v l.length (l.flatMap Ev.cells)
 num:∀e∈l,I64 e.a∧I64 e.b
section
variable {w w1:World} {G F:Nat→Prop} {v:Sl} {l:List Ev}
theorem EvsIn.nix(h:EvsIn w G v l)(hf:Frm Nix w w1):EvsIn w1 G v l:=⟨h.sl.nix hf,h.num⟩
theorem EvsIn.frm(h:EvsIn w G v l)(hf:Frm F w w1)(hd:∀k,G k→¬F k):EvsIn w1 G v l:=⟨h.sl.frm hf hd,h.num⟩
theorem EvsIn.large(h:EvsIn w G v l):Calls Tryz.prog 12 #[.slice v.1 l.length v.2] w λe w'=>e=.returned (.bool (largeEvs l))∧Frm Nix w w':=rLargeEvents_any l h.sl
theorem EvsIn.fold(h:EvsIn w G v l)(hl:largeEvs l=false):Calls Tryz.prog 19 #[.slice v.1 l.length v.2] w λe w'=>∃g M,e=.returned (.pointer (some ⟨g,0,none⟩))∧StAt w' g M (foldE st0 l)∧Frm Nix w w'∧∀k,SF g M k→w.heap.size≤k:=
 Fold_any l h.sl h.num (by have:=largeEvs_len hl;omega)
end
theorem StP.small{x:St}(h:StP x):StSmall x:=⟨by have:=h.fL;omega,by have:=h.eL;omega,by have:=h.iL;omega,by have:=h.sL;omega,λt ht=>by have:=(h.iE t ht).2.2.2.1;omega⟩
theorem evs_cells{w wr:World}{G:Nat→Prop}{A:Option Addr}{c:Nat}{l:List Ev}(hv:SlIn w G 7 (A,c) l.length (l.flatMap Ev.cells))(hf:Frm Nix w wr){k:Nat}(hk:k<l.length):∃b off,A=some ⟨b,off,none⟩∧G b∧b<wr.heap.size∧
  ∀(F:Nat→Prop) W,¬F b→Frm F wr W→W.cell? ⟨b,off+k * 7,none⟩=some (.int .i64 l[k].kind)∧W.cell? ⟨b,off+k * 7+1,none⟩=some (.int .i64 l[k].a)∧W.cell? ⟨b,off+k * 7+2,none⟩=some (.int .i64 l[k].b)∧W.cell? ⟨b,off+k * 7+3,none⟩=some (.int .i64 l[k].n)∧W.cell? ⟨b,off+k * 7+4,none⟩=some (.string l[k].s)∧W.cell? ⟨b,off+k * 7+5,none⟩=some (.string l[k].t)∧W.cell? ⟨b,off+k * 7+6,none⟩=some (.string l[k].u):=by
 obtain⟨b,off,hA,hG,hbl,hcell⟩:=(hv.nix hf).at_ Ev.clen (by decide) (by omega);refine⟨b,off,hA,hG,hbl,λF W hn hW=>?_⟩;obtain⟨x0,x1,x2,x3,x4,x5,x6⟩:=evc7 (w:=wr) (b:=b) (off:=off+k * 7) (e:=l[k]) (hcell k hk);exact⟨(hW.cell (p:=⟨b,off+k * 7,none⟩) hbl hn).trans x0,(hW.cell (p:=⟨b,off+k * 7+1,none⟩) hbl hn).trans x1,(hW.cell (p:=⟨b,off+k * 7+2,none⟩) hbl hn).trans x2,(hW.cell (p:=⟨b,off+k * 7+3,none⟩) hbl hn).trans x3,(hW.cell (p:=⟨b,off+k * 7+4,none⟩) hbl hn).trans x4,(hW.cell (p:=⟨b,off+k * 7+5,none⟩) hbl hn).trans x5,(hW.cell (p:=⟨b,off+k * 7+6,none⟩) hbl hn).trans x6⟩
end
theorem Rd.cOld{w:World}{G:Nat→Prop}{s n:Nat}{A:Option Addr}{xs:List Value}(h:Rd w G s A n xs):Rd w (λk=>G k∧k<w.heap.size) s A n xs:=
 ⟨h.1,λhn=>by
  obtain⟨a,e,h1,h2,h3⟩:=h.2 hn;exact⟨a,e,⟨h1,h2⟩,h2,h3⟩⟩
theorem SlIn.cOld{w:World}{G:Nat→Prop}{s n:Nat}{v:Sl}{xs:List Value}(h:SlIn w G s v n xs):SlIn w (λk=>G k∧k<w.heap.size) s v n xs:=⟨h.rd.cOld,h.nil,h.cap,h.max⟩
theorem StIn.cOld{w:World}{G:Nat→Prop}{fo fe it se:Sl}{ts:List (Sl×Itm)}{x:St}(h:StIn w G fo fe it se ts x):StIn w (λk=>G k∧k<w.heap.size) fo fe it se ts x:=⟨h.fols.cOld,h.fees.cOld,⟨h.itms.row.cOld,λp hp=>(h.itms.tags p hp).cOld⟩,h.same,h.seas.cOld⟩
section
theorem below_size_of_cell{w:World}{a:Addr}{v:Value}(h:w.cell? a=some v):a.block<w.heap.size:=World.block_lt_of_cell? w _ h
def NilOk(A:Option Addr)(n c:Nat):Prop:=A=none→n=0∧c=0
section
variable {H:Type} {enc:TypeId×Value→H} {W:World} {base:Nat} {sp:Nat→Bool} {held:Bool} {fuel:Nat} {cs:List Value} {x:DataW H×List MemPlace}
theorem wf_i64{n:Int}(h:(Lit.int .i64 n).wf=true): -9223372036854775808≤n∧n≤9223372036854775807:=by
 simp[Lit.wf,IntKind.min,IntKind.max,IntKind.signed,IntKind.bits] at h;omega
theorem vInt(h:DataW.trod enc Tryz.prog W base sp held fuel 3 cs=some x):∃n,cs=[.int .i64 n]∧-9223372036854775808≤n∧n≤9223372036854775807:=by
 obtain⟨n,h1,-,h3⟩:=DataW.trod_int Tryz.underlying3 h;exact⟨n,h1,wf_i64 h3⟩
theorem vStr(h:DataW.trod enc Tryz.prog W base sp held fuel 9 cs=some x):∃s:ByteArray,cs=[.string s]∧s.size≤maxLen:=by
 obtain⟨s,h1,-,h3⟩:=DataW.trod_string Tryz.underlying9 h;exact⟨s,h1,h3⟩
def OldB(W:World):Nat→Prop:=λk=>k<W.heap.size
theorem rd_take_str{ss:List ByteArray}{a:Addr}{len:Nat}(hl:len≤ss.length)(hc:∀i,i<ss.length→W.cell? (a.add i)=some (.string (ss.getD i ByteArray.empty))):Rd W (OldB W) 1 (some a) len ((ss.take len).map Value.string):=by
 refine⟨by simp[Nat.min_eq_left hl],λhn=>⟨a,rfl,?_,?_,λj u hu=>?_⟩⟩
 ·have:=below_size_of_cell (hc 0 (by omega))
  rw[block_of_add] at this;exact this
 ·have:=below_size_of_cell (hc 0 (by omega))
  rw[block_of_add] at this;exact this
 ·have hj:j<len:=by
   have:=(List.getElem?_eq_some_iff.1 hu).1;simp at this;omega
  rw[hc j (by omega),←hu];simp only[List.getElem?_map,List.getElem?_take,hj,if_true,List.getD_eq_getElem?_getD];rw[List.getElem?_eq_getElem (by omega)];rfl
theorem vStrs(h:DataW.trod enc Tryz.prog W base sp held fuel 80 cs=some x):
  ∃A n c,∃l:List ByteArray,cs=[.slice A n c]∧l.length=n∧Rd W (OldB W) 1 A n (l.map Value.string)∧NilOk A n c∧n≤c∧c≤maxLen∧∀s∈l,s.size≤maxLen:=by
 rcases open_strings Tryz.underlying80 Tryz.underlying9 (by kernel_rfl) h with ⟨rfl,-⟩ | ⟨a,len,cap,ss,rfl,-,hl,hm,hz,-,hc,hw⟩
 ·exact⟨none,0,0,[],rfl,rfl,Rd.none_,λ_=>⟨rfl,rfl⟩,Nat.le_refl _,Nat.zero_le _,by simp⟩
 ·have hzl:len≤ss.length:=by rw[hz];split<;>omega
  exact⟨some a,len,cap,ss.take len,rfl,by simp[Nat.min_eq_left hzl],rd_take_str hzl hc,(λe=>by cases e),hl,hm,λk hk=>hw k (List.mem_of_mem_take hk)⟩
structure EvIs(e:Ev):Prop where
 kind: -9223372036854775808≤e.kind∧e.kind≤9223372036854775807
 a: -9223372036854775808≤e.a∧e.a≤9223372036854775807
 b: -9223372036854775808≤e.b∧e.b≤9223372036854775807
 n: -9223372036854775808≤e.n∧e.n≤9223372036854775807
 s:e.s.size≤maxLen
 t:e.t.size≤maxLen
 u:e.u.size≤maxLen
theorem list7{α:Type}{l:List α}(h:l.length=7):∃a b c d e f g,l=[a,b,c,d,e,f,g]:=by
 match l,h with
 | [a,b,c,d,e,f,g],_=>exact⟨a,b,c,d,e,f,g,rfl⟩
theorem field_of{n i t:Nat}{f:Field}{xs:List (DataW H×List MemPlace)}{fs:Array Field}(hg:∀(i:Nat) (f:Field),fs[i]? =some f→DataW.trod enc Tryz.prog W base sp held n f.type ((cs.drop f.offset).take (Tryz.prog.cellsOf f.type))=xs[i]?)(hxl:xs.length=fs.size)
  (hi:fs[i]? =some f) (ht:f.type=t) (h1:Tryz.prog.cellsOf t=1) (ho:f.offset=i) {v:Value} (hv:(cs.drop i).take 1=[v]):∃y,DataW.trod enc Tryz.prog W base sp held n t [v]=some y:=by
 have h:=hg i f hi;rw[ht,h1,ho,hv] at h;have hlt:i<xs.length:=by rw[hxl];exact(Array.getElem?_eq_some_iff.1 hi).1
 exact⟨xs[i],by rw[h,List.getElem?_eq_getElem hlt]⟩
theorem one_int:Tryz.prog.cellsOf 3=1:=by kernel_rfl
theorem one_string:Tryz.prog.cellsOf 9=1:=by kernel_rfl
theorem vEv(h:DataW.trod enc Tryz.prog W base sp held fuel 42 cs=some x):∃o:Ev,cs=o.cells∧EvIs o:=by
 have hC:Tryz.prog.cellsOf 42=7:=by kernel_rfl
 obtain⟨xs,n,-,-,hlen,hxl,hg⟩:=DataW.trod_struct Tryz.underlying42 h;rw[hC] at hlen;obtain⟨c0,c1,c2,c3,c4,c5,c6,rfl⟩:=list7 hlen;obtain⟨y0,h0⟩:=field_of (i:=0) hg hxl rfl rfl one_int rfl rfl;obtain⟨y1,h1⟩:=field_of (i:=1) hg hxl rfl rfl one_int rfl rfl;obtain⟨y2,h2⟩:=field_of (i:=2) hg hxl rfl rfl one_int rfl rfl;obtain⟨y3,h3⟩:=field_of (i:=3) hg hxl rfl rfl one_int rfl rfl;obtain⟨y4,h4⟩:=field_of (i:=4) hg hxl rfl rfl one_string rfl rfl;obtain⟨y5,h5⟩:=field_of (i:=5) hg hxl rfl rfl one_string rfl rfl;obtain⟨y6,h6⟩:=field_of (i:=6) hg hxl rfl rfl one_string rfl rfl;obtain⟨k,e0,w0⟩:=vInt h0;obtain⟨a,e1,w1⟩:=vInt h1;obtain⟨b,e2,w2⟩:=vInt h2;obtain⟨m,e3,w3⟩:=vInt h3;obtain⟨s,e4,w4⟩:=vStr h4;obtain⟨t,e5,w5⟩:=vStr h5;obtain⟨u,e6,w6⟩:=vStr h6;injection e0 with e0;injection e1 with e1;injection e2 with e2;injection e3 with e3;injection e4 with e4;injection e5 with e5;injection e6 with e6;subst e0;subst e1;subst e2;subst e3;subst e4;subst e5;subst e6;exact⟨⟨k,a,b,m,s,t,u⟩,rfl,⟨w0,w1,w2,w3,w4,w5,w6⟩⟩
theorem evs_len(l:List Ev):(l.flatMap Ev.cells).length=l.length * 7:=by
 induction l with
 | nil=>rfl
 | cons o l ih=>
   rw[List.flatMap_cons,List.length_append,ih,List.length_cons];have:o.cells.length=7:=rfl;omega
theorem vEvs(h:DataW.trod enc Tryz.prog W base sp held fuel 30 cs=some x):
  ∃A n c,∃l:List Ev,cs=[.slice A n c]∧l.length=n∧Rd W (OldB W) 7 A n (l.flatMap Ev.cells)∧(∀o∈l,EvIs o)∧NilOk A n c∧n≤c∧c≤maxLen:=by
 have hC:Tryz.prog.cellsOf 42=7:=by kernel_rfl
 rcases open_slice Tryz.underlying30 h with ⟨rfl,-⟩ | ⟨a,len,cap,m,n,D,Pl,rfl,-,hl,hm,hmm,-,hi⟩
 ·exact⟨none,0,0,[],rfl,rfl,Rd.none_,by simp,λ_=>⟨rfl,rfl⟩,Nat.le_refl _,Nat.zero_le _⟩
 ·have hml:len≤m:=by rw[hmm];split<;>omega
  rw[hC] at hi
  have hex:∀i,i<len→∃o:Ev,EvIs o∧∀j u,o.cells[j]? =some u→W.cell? (a.add (i * 7+j))=some u:=by
   intro i hlt;obtain⟨cs',hc,ht⟩:=hi i (by omega);obtain⟨o,rfl,ho⟩:=vEv ht;obtain⟨-,-,hat⟩:=World.cells?_some hc;refine⟨o,ho,λj u hu=>?_⟩
   have hj:j<7:=by
    have:=(List.getElem?_eq_some_iff.1 hu).1
    simpa [Ev.cells] using this
   rw[←add_of_add,hat j hj,hu]
  obtain⟨l,hll,hlo⟩:∃l:List Ev,l.length=len∧∀i (h:i<l.length),EvIs l[i]∧∀j u,l[i].cells[j]? =some u→W.cell? (a.add (i * 7+j))=some u:=by
   clear hm hmm hi hl hml h
   induction len with
   | zero=>exact⟨[],rfl,λi h=>by simp at h⟩
   | succ len ih=>
     obtain⟨l,h1,h2⟩:=ih λi hi=>hex i (by omega)
     obtain⟨o,ho⟩:=hex len (by omega);refine⟨l++[o],by simp[h1],λi hi=>?_⟩
     by_cases e:i<l.length
     ·rw[List.getElem_append_left e]
      exact h2 i e
     ·have e2:i=l.length:=by simp at hi;omega
      subst e2;rw[List.getElem_append_right (Nat.le_refl _)];simp only[Nat.sub_self,List.getElem_cons_zero];rw[h1];exact ho
  refine⟨some a,len,cap,l,rfl,hll,⟨by rw[evs_len,hll],λhn=>⟨a,rfl,?_,?_,?_⟩⟩,λo ho=>?_,(λe=>by cases e),hl,hm⟩
  ·have:=below_size_of_cell ((hlo 0 (by omega)).2 0 _ rfl)
   rw[block_of_add] at this;exact this
  ·have:=below_size_of_cell ((hlo 0 (by omega)).2 0 _ rfl)
   rw[block_of_add] at this;exact this
  ·intro j u hu
   have hsplit:∀(l:List Ev) (j:Nat) (u:Value),(l.flatMap Ev.cells)[j]? =some u→∃(i:Nat) (h:i<l.length) (r:Nat),j=i * 7+r∧l[i].cells[r]? =some u:=by
    intro l
    induction l with
    | nil=>intro j u hu;simp at hu
    | cons o l ih=>
      intro j u hu;rw[List.flatMap_cons] at hu;have h7:o.cells.length=7:=rfl
      by_cases hj:j<7
      ·rw[List.getElem?_append_left (by omega)] at hu
       exact⟨0,by simp,j,by omega,hu⟩
      ·rw[List.getElem?_append_right (by omega),h7] at hu
       obtain⟨i,hi,r,e,hr⟩:=ih _ _ hu;exact⟨i+1,by simpa using hi,r,by omega,by simpa using hr⟩
   obtain⟨i,hi,r,rfl,hr⟩:=hsplit l j u hu;exact(hlo i hi).2 r u hr
  ·obtain⟨i,hi,rfl⟩:=List.mem_iff_getElem.1 ho
   exact(hlo i hi).1
end
end
section
section
variable {H:Type} {enc:TypeId×Value→H} {W:World} {base:Nat} {sp:Nat→Bool} {held:Bool} {fuel:Nat} {cs:List Value} {x:DataW H×List MemPlace}
theorem slIn_of{s n c:Nat}{A:Option Addr}{xs:List Value}(h:Rd W (OldB W) s A n xs)(hn:NilOk A n c)(h1:n≤c)(h2:c≤maxLen):SlIn W (OldB W) s (A,c) n xs:=⟨h,λe=>(hn e).2,h1,h2⟩
theorem vBool(h:DataW.trod enc Tryz.prog W base sp held fuel 4 cs=some x):∃b:Bool,cs=[.bool b]:=by
 obtain⟨b,h1,-⟩:=DataW.trod_bool Tryz.underlying4 h;exact⟨b,h1⟩
theorem vList{α:Type}{f:α→List Value}{OK:α→Prop}{s st et:Nat}(hs:∀a,(f a).length=s)(h0:0<s)(hu:Tryz.prog.underlying st=some (.slice et))(hC:Tryz.prog.cellsOf et=s)
  (hone:∀{fu:Nat} {cs:List Value} {x:DataW H×List MemPlace},DataW.trod enc Tryz.prog W base sp held fu et cs=some x→∃o,cs=f o∧OK o) (h:DataW.trod enc Tryz.prog W base sp held fuel st cs=some x):
  ∃A n c,∃l:List α,cs=[.slice A n c]∧l.length=n∧SlIn W (OldB W) s (A,c) n (l.flatMap f)∧∀o∈l,OK o:=by
 rcases open_slice hu h with ⟨rfl,-⟩ | ⟨a,len,cap,m,n,D,Pl,rfl,-,hl,hm,hmm,-,hi⟩
 ·exact⟨none,0,0,[],rfl,rfl,SlIn.none_ _ _ _,by simp⟩
 ·have hml:len≤m:=by rw[hmm];split<;>omega
  rw[hC] at hi
  have hex:∀i,i<len→∃o:α,OK o∧∀j u,(f o)[j]? =some u→W.cell? (a.add (i * s+j))=some u:=by
   intro i hlt;obtain⟨cs',hc,ht⟩:=hi i (by omega);obtain⟨o,rfl,ho⟩:=hone ht;obtain⟨-,-,hat⟩:=World.cells?_some hc;refine⟨o,ho,λj u hu=>?_⟩
   have hj:j<s:=by
    have:=(List.getElem?_eq_some_iff.1 hu).1
    rwa [hs] at this
   rw[←add_of_add,hat j hj,hu]
  obtain⟨l,hll,hlo⟩:∃l:List α,l.length=len∧∀i (h:i<l.length),OK l[i]∧∀j u,(f l[i])[j]? =some u→W.cell? (a.add (i * s+j))=some u:=by
   clear hm hmm hi hl hml h
   induction len with
   | zero=>exact⟨[],rfl,λi h=>by simp at h⟩
   | succ len ih=>
     obtain⟨l,h1,h2⟩:=ih λi hi=>hex i (by omega)
     obtain⟨o,ho⟩:=hex len (by omega);refine⟨l++[o],by simp[h1],λi hi=>?_⟩
     by_cases e:i<l.length
     ·rw[List.getElem_append_left e]
      exact h2 i e
     ·have e2:i=l.length:=by simp at hi;omega
      subst e2;rw[List.getElem_append_right (Nat.le_refl _)];simp only[Nat.sub_self,List.getElem_cons_zero];rw[h1];exact ho
  refine⟨some a,len,cap,l,rfl,hll,⟨⟨by rw[flat_len hs,hll],λhn=>?_⟩,(λe=>by cases e),hl,hm⟩,λo ho=>?_⟩
  ·have hlt:0<(f (l[0]'(by omega))).length:=by rw[hs];exact h0
   have hb:=below_size_of_cell ((hlo 0 (by omega)).2 0 _ (List.getElem?_eq_getElem hlt));rw[block_of_add] at hb;refine⟨a,rfl,hb,hb,?_⟩;intro j u hu
   have hj:j<l.length * s:=by
    have:=(List.getElem?_eq_some_iff.1 hu).1
    rwa [flat_len hs] at this
   have hq:j / s<l.length:=Nat.div_lt_of_lt_mul (by rw[Nat.mul_comm];exact hj);have hr:j % s<s:=Nat.mod_lt _ h0;have hjq:j / s * s+j % s=j:=by rw[Nat.mul_comm];exact Nat.div_add_mod j s
   rw[←hjq,flat_at hs l (j / s) hq (j % s) hr] at hu;have:=(hlo (j / s) hq).2 (j % s) u hu
   rwa [hjq] at this
  ·obtain⟨i,hi,rfl⟩:=List.mem_iff_getElem.1 ho
   exact(hlo i hi).1
theorem one_bool:Tryz.prog.cellsOf 4=1:=by kernel_rfl
theorem one_strs:Tryz.prog.cellsOf 80=1:=by kernel_rfl
theorem vlFol{α:Type}{l:List α}(h:l.length=3):∃c0 c1 c2,l=[c0,c1,c2]:=by
 match l,h with
 | [c0,c1,c2],_=>exact⟨c0,c1,c2,rfl⟩
theorem vFol(h:DataW.trod enc Tryz.prog W base sp held fuel 79 cs=some x):∃o:Fol,cs=o.cells∧I64 o.id∧I64 o.inn:=by
 have hC:Tryz.prog.cellsOf 79=3:=by kernel_rfl
 obtain⟨xs,n,-,-,hlen,hxl,hg⟩:=DataW.trod_struct Tryz.underlying79 h;rw[hC] at hlen;obtain⟨c0,c1,c2,rfl⟩:=vlFol hlen;obtain⟨y0,h0⟩:=field_of (i:=0) hg hxl rfl rfl one_int rfl rfl;obtain⟨y1,h1⟩:=field_of (i:=1) hg hxl rfl rfl one_int rfl rfl;obtain⟨y2,h2⟩:=field_of (i:=2) hg hxl rfl rfl one_string rfl rfl;obtain⟨a0,e0,w0⟩:=vInt h0;obtain⟨a1,e1,w1⟩:=vInt h1;obtain⟨a2,e2,w2⟩:=vStr h2;injection e0 with e0;subst e0;injection e1 with e1;subst e1;injection e2 with e2;subst e2;exact⟨⟨a0,a1,a2⟩,rfl,w0,w1⟩
theorem vlFee{α:Type}{l:List α}(h:l.length=4):∃c0 c1 c2 c3,l=[c0,c1,c2,c3]:=by
 match l,h with
 | [c0,c1,c2,c3],_=>exact⟨c0,c1,c2,c3,rfl⟩
theorem vFee(h:DataW.trod enc Tryz.prog W base sp held fuel 64 cs=some x):∃o:Fee,cs=o.cells∧I64 o.id∧I64 o.inn:=by
 have hC:Tryz.prog.cellsOf 64=4:=by kernel_rfl
 obtain⟨xs,n,-,-,hlen,hxl,hg⟩:=DataW.trod_struct Tryz.underlying64 h;rw[hC] at hlen;obtain⟨c0,c1,c2,c3,rfl⟩:=vlFee hlen;obtain⟨y0,h0⟩:=field_of (i:=0) hg hxl rfl rfl one_int rfl rfl;obtain⟨y1,h1⟩:=field_of (i:=1) hg hxl rfl rfl one_int rfl rfl;obtain⟨y2,h2⟩:=field_of (i:=2) hg hxl rfl rfl one_string rfl rfl;obtain⟨y3,h3⟩:=field_of (i:=3) hg hxl rfl rfl one_string rfl rfl;obtain⟨a0,e0,w0⟩:=vInt h0;obtain⟨a1,e1,w1⟩:=vInt h1;obtain⟨a2,e2,w2⟩:=vStr h2;obtain⟨a3,e3,w3⟩:=vStr h3;injection e0 with e0;subst e0;injection e1 with e1;subst e1;injection e2 with e2;subst e2;injection e3 with e3;subst e3;exact⟨⟨a0,a1,a2,a3⟩,rfl,w0,w1⟩
theorem vlSea{α:Type}{l:List α}(h:l.length=3):∃c0 c1 c2,l=[c0,c1,c2]:=by
 match l,h with
 | [c0,c1,c2],_=>exact⟨c0,c1,c2,rfl⟩
theorem vSea(h:DataW.trod enc Tryz.prog W base sp held fuel 84 cs=some x):∃o:Sea,cs=o.cells∧I64 o.id:=by
 have hC:Tryz.prog.cellsOf 84=3:=by kernel_rfl
 obtain⟨xs,n,-,-,hlen,hxl,hg⟩:=DataW.trod_struct Tryz.underlying84 h;rw[hC] at hlen;obtain⟨c0,c1,c2,rfl⟩:=vlSea hlen;obtain⟨y0,h0⟩:=field_of (i:=0) hg hxl rfl rfl one_int rfl rfl;obtain⟨y1,h1⟩:=field_of (i:=1) hg hxl rfl rfl one_string rfl rfl;obtain⟨y2,h2⟩:=field_of (i:=2) hg hxl rfl rfl one_string rfl rfl;obtain⟨a0,e0,w0⟩:=vInt h0;obtain⟨a1,e1,w1⟩:=vStr h1;obtain⟨a2,e2,w2⟩:=vStr h2;injection e0 with e0;subst e0;injection e1 with e1;subst e1;injection e2 with e2;subst e2;exact⟨⟨a0,a1,a2⟩,rfl,w0⟩
theorem vlItm{α:Type}{l:List α}(h:l.length=9):∃c0 c1 c2 c3 c4 c5 c6 c7 c8,l=[c0,c1,c2,c3,c4,c5,c6,c7,c8]:=by
 match l,h with
 | [c0,c1,c2,c3,c4,c5,c6,c7,c8],_=>exact⟨c0,c1,c2,c3,c4,c5,c6,c7,c8,rfl⟩
theorem vItm(h:DataW.trod enc Tryz.prog W base sp held fuel 82 cs=some x):∃o:Sl×Itm,cs=itmC o∧(I64 o.2.id∧I64 o.2.feed)∧SlIn W (OldB W) 1 o.1 o.2.tags.length (o.2.tags.map Value.string):=by
 have hC:Tryz.prog.cellsOf 82=9:=by kernel_rfl
 obtain⟨xs,n,-,-,hlen,hxl,hg⟩:=DataW.trod_struct Tryz.underlying82 h;rw[hC] at hlen;obtain⟨c0,c1,c2,c3,c4,c5,c6,c7,c8,rfl⟩:=vlItm hlen;obtain⟨y0,h0⟩:=field_of (i:=0) hg hxl rfl rfl one_int rfl rfl;obtain⟨y1,h1⟩:=field_of (i:=1) hg hxl rfl rfl one_int rfl rfl;obtain⟨y2,h2⟩:=field_of (i:=2) hg hxl rfl rfl one_int rfl rfl;obtain⟨y3,h3⟩:=field_of (i:=3) hg hxl rfl rfl one_string rfl rfl;obtain⟨y4,h4⟩:=field_of (i:=4) hg hxl rfl rfl one_string rfl rfl;obtain⟨y5,h5⟩:=field_of (i:=5) hg hxl rfl rfl one_string rfl rfl;obtain⟨y6,h6⟩:=field_of (i:=6) hg hxl rfl rfl one_bool rfl rfl;obtain⟨y7,h7⟩:=field_of (i:=7) hg hxl rfl rfl one_bool rfl rfl;obtain⟨y8,h8⟩:=field_of (i:=8) hg hxl rfl rfl one_strs rfl rfl;obtain⟨a0,e0,w0⟩:=vInt h0;obtain⟨a1,e1,w1⟩:=vInt h1;obtain⟨a2,e2,w2⟩:=vInt h2;obtain⟨a3,e3,w3⟩:=vStr h3;obtain⟨a4,e4,w4⟩:=vStr h4;obtain⟨a5,e5,w5⟩:=vStr h5;obtain⟨a6,e6⟩:=vBool h6;obtain⟨a7,e7⟩:=vBool h7;obtain⟨A,nn,cc,a8,e8,hn,hr,hk,k1,k2,hw⟩:=vStrs h8;injection e0 with e0;subst e0;injection e1 with e1;subst e1;injection e2 with e2;subst e2;injection e3 with e3;subst e3;injection e4 with e4;subst e4;injection e5 with e5;subst e5;injection e6 with e6;subst e6;injection e7 with e7;subst e7;injection e8 with e8;subst e8;subst hn;exact⟨⟨(A,cc),⟨a0,a1,a2,a3,a4,a5,a6,a7,a8⟩⟩,rfl,⟨w0,w1⟩,slIn_of hr hk k1 k2⟩
theorem vFols(h:DataW.trod enc Tryz.prog W base sp held fuel 31 cs=some x):∃A n c,∃l:List Fol,cs=[.slice A n c]∧l.length=n∧SlIn W (OldB W) 3 (A,c) n (l.flatMap Fol.cells)∧∀o∈l,I64 o.id∧I64 o.inn:=
 vList Fol.clen (by decide) Tryz.underlying31 (by kernel_rfl) (λh=>vFol h) h
theorem vFees(h:DataW.trod enc Tryz.prog W base sp held fuel 32 cs=some x):∃A n c,∃l:List Fee,cs=[.slice A n c]∧l.length=n∧SlIn W (OldB W) 4 (A,c) n (l.flatMap Fee.cells)∧∀o∈l,I64 o.id∧I64 o.inn:=
 vList Fee.clen (by decide) Tryz.underlying32 (by kernel_rfl) (λh=>vFee h) h
theorem vSeas(h:DataW.trod enc Tryz.prog W base sp held fuel 34 cs=some x):∃A n c,∃l:List Sea,cs=[.slice A n c]∧l.length=n∧SlIn W (OldB W) 3 (A,c) n (l.flatMap Sea.cells)∧∀o∈l,I64 o.id:=
 vList Sea.clen (by decide) Tryz.underlying34 (by kernel_rfl) (λh=>vSea h) h
theorem vItms(h:DataW.trod enc Tryz.prog W base sp held fuel 33 cs=some x):∃A n c,∃l:List (Sl×Itm),cs=[.slice A n c]∧l.length=n∧SlIn W (OldB W) 9 (A,c) n (l.flatMap itmC)∧∀o∈l,(I64 o.2.id∧I64 o.2.feed)∧SlIn W (OldB W) 1 o.1 o.2.tags.length (o.2.tags.map Value.string):=
 vList itmC_len (by decide) Tryz.underlying33 (by kernel_rfl) (λh=>vItm h) h
theorem one_fols:Tryz.prog.cellsOf 31=1:=by kernel_rfl
theorem one_fees:Tryz.prog.cellsOf 32=1:=by kernel_rfl
theorem one_itms:Tryz.prog.cellsOf 33=1:=by kernel_rfl
theorem one_seas:Tryz.prog.cellsOf 34=1:=by kernel_rfl
structure StIs(W:World)(fo fe it se:Sl)(ts:List (Sl×Itm))(x:St):Prop where
 st:StIn W (OldB W) fo fe it se ts x
 nums:StNums x
theorem vSt(h:DataW.trod enc Tryz.prog W base sp held fuel 36 cs=some x):∃fo fe it se:Sl,∃ts:List (Sl×Itm),∃s:St,Value.agg cs.toArray=stV fo fe it se s∧StIs W fo fe it se ts s:=by
 have hC:Tryz.prog.cellsOf 36=9:=by kernel_rfl
 obtain⟨xs,n,-,-,hlen,hxl,hg⟩:=DataW.trod_struct Tryz.underlying36 h;rw[hC] at hlen;obtain⟨c0,c1,c2,c3,c4,c5,c6,c7,c8,rfl⟩:=vlItm hlen;obtain⟨y0,h0⟩:=field_of (i:=0) hg hxl rfl rfl one_int rfl rfl;obtain⟨y1,h1⟩:=field_of (i:=1) hg hxl rfl rfl one_fols rfl rfl;obtain⟨y2,h2⟩:=field_of (i:=2) hg hxl rfl rfl one_fees rfl rfl;obtain⟨y3,h3⟩:=field_of (i:=3) hg hxl rfl rfl one_itms rfl rfl;obtain⟨y4,h4⟩:=field_of (i:=4) hg hxl rfl rfl one_seas rfl rfl;obtain⟨y5,h5⟩:=field_of (i:=5) hg hxl rfl rfl one_int rfl rfl;obtain⟨y6,h6⟩:=field_of (i:=6) hg hxl rfl rfl one_int rfl rfl;obtain⟨y7,h7⟩:=field_of (i:=7) hg hxl rfl rfl one_int rfl rfl;obtain⟨y8,h8⟩:=field_of (i:=8) hg hxl rfl rfl one_int rfl rfl;obtain⟨a0,e0,w0⟩:=vInt h0;obtain⟨A1,n1,k1,l1,e1,hn1,hs1,ho1⟩:=vFols h1;obtain⟨A2,n2,k2,l2,e2,hn2,hs2,ho2⟩:=vFees h2;obtain⟨A3,n3,k3,l3,e3,hn3,hs3,ho3⟩:=vItms h3;obtain⟨A4,n4,k4,l4,e4,hn4,hs4,ho4⟩:=vSeas h4;obtain⟨a5,e5,w5⟩:=vInt h5;obtain⟨a6,e6,w6⟩:=vInt h6;obtain⟨a7,e7,w7⟩:=vInt h7;obtain⟨a8,e8,w8⟩:=vInt h8;injection e0 with e0;injection e1 with e1;injection e2 with e2;injection e3 with e3;injection e4 with e4;injection e5 with e5;injection e6 with e6;injection e7 with e7;injection e8 with e8;subst e0;subst e1;subst e2;subst e3;subst e4;subst e5;subst e6;subst e7;subst e8;subst hn1;subst hn2;subst hn3;subst hn4;refine⟨(A1,k1),(A2,k2),(A3,k3),(A4,k4),l3,⟨a0,l1,l2,l3.map (·.2),l4,a5,a6,a7,a8⟩,?_,⟨hs1,hs2,⟨hs3,λp hp=>(ho3 p hp).2⟩,rfl,hs4⟩,⟨ho1,ho2,λt ht=>?_,ho4,w5,w6,w7,w8⟩⟩
 ·unfold stV
  simp
 ·obtain⟨p,hp,rfl⟩:=List.mem_map.1 ht
  exact(ho3 p hp).1
end
end
end Go.Proofs.YtaecjmiobllhmaaGreat
