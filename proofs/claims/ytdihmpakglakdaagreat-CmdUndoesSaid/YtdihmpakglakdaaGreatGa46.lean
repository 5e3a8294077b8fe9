/-
  Contracts: law 22's large; words for the laws' walks.
-/
import Derived.Test.YtdihmpakglakdaaGreatGa44
import Derived.Test.YtdihmpakglakdaaGreatGa26
import Derived.Deep.RegionHeld3
import Derived.Test.YtdihmpakglakdaaGreatGa12
import Derived.Test.YtdihmpakglakdaaGreatGa08
import Derived.ProofKit
import Derived.SliceStrings
import Derived.Deep.Slices
import Derived.Deep.Fields
set_option linter.unusedVariables false
set_option linter.unusedSimpArgs false
set_option maxRecDepth 100000
set_option maxHeartbeats 16000000
namespace Go.Proofs.YtdihmpakglakdaaGreat
open Go.RowKit Go.Lib Go.ChangeShapes Go.WideShapes Go.ChangeAt Go.Deep
def Cm.cells(c:Cm):List Value:=[.int .i64 c.kind,.int .i64 c.a,.int .i64 c.b,.int .i64 c.n,.string c.s,.string c.t]
theorem Cm.clen(c:Cm):c.cells.length=6:=rfl
def cmLarge(c:Cm):Bool:=decide (1000<c.s.size)||decide (1000<c.t.size)
def largeC(l:List Ev)(cs:List Cm):Bool:=largeEvs l||(decide (60<cs.length)||cs.any cmLarge)
theorem cmc6{w:World}{b off:Nat}{c:Cm}(h:∀ (j:Nat) (u:Value),c.cells[j]? =some u→w.cell? ⟨b,off+j,none⟩=some u):
  w.cell? ⟨b,off,none⟩=some (.int .i64 c.kind)∧w.cell? ⟨b,off+1,none⟩=some (.int .i64 c.a)∧w.cell? ⟨b,off+2,none⟩=some (.int .i64 c.b)∧w.cell? ⟨b,off+3,none⟩=some (.int .i64 c.n)∧w.cell? ⟨b,off+4,none⟩=some (.string c.s)∧w.cell? ⟨b,off+5,none⟩=some (.string c.t):=
 ⟨h 0 _ rfl,h 1 _ rfl,h 2 _ rfl,h 3 _ rfl,h 4 _ rfl,h 5 _ rfl⟩
theorem rCmLarge_any(q:Cm)(w:World):Calls Tryz.prog 49 #[.agg #[.int .i64 q.kind,.int .i64 q.a,.int .i64 q.b,.int .i64 q.n,.string q.s,.string q.t]] w fun e w'=>e=.returned (.bool (cmLarge q))∧Frm Nix w w':=by
 have HE:Hid (cmLarge q=(decide (1000<q.s.size)||decide (1000<q.t.size))):=rfl
 by_cases h1:1000<q.s.size
 ·have h1':(1000:Int)<(q.s.size:Int):=by omega
  go_enter Tryz.func49,Tryz.ntmps49;go_wp2;go_ret;exact⟨ret_bool (by rw[HE.out];simp[h1]),(fR w).alloc _⟩
 ·have h1':¬(1000:Int)<(q.s.size:Int):=by omega
  go_enter Tryz.func49,Tryz.ntmps49;go_wp2;go_ret;exact⟨ret_bool (by rw[HE.out];simp[h1];try omega),(fR w).alloc _⟩
theorem large22_any{w:World}{G G2:Nat→Prop}{v vm:Sl}{l:List Ev}(hl:EvsIn w G v l)(cs:List Cm)(hm:SlIn w G2 6 vm cs.length (cs.flatMap Cm.cells)):
  Calls Tryz.prog 22 #[.slice v.1 l.length v.2,.slice vm.1 cs.length vm.2] w fun e w'=>e=.returned (.bool (largeC l cs))∧Frm Nix w w':=by
 have HE:Hid (largeC l cs=(largeEvs l||(decide (60<cs.length)||cs.any cmLarge))):=rfl;have KL:=h_ hl.large;have HM:=h_ hm;obtain⟨n,hn⟩:∃ n,cs.length=n:=⟨_,rfl⟩;have HN:=h_ hn;generalize largeC l cs=lc at *;generalize largeEvs l=le at *;generalize l.length=nl at *;obtain⟨Am,cm⟩:=vm;dsimp only;rw[hn] at HE ⊢;clear hl hm hn
 cases le with
 | true=>
   go_enter Tryz.func22,Tryz.ntmps22;go_wp2_with (first | (go_at_call 17;refine KL.out.mono ?_;rintro e w1 ⟨rfl,hf⟩;have Z1:=h_ hf;clear hf) | fail);go_ret
   exact⟨ret_bool (by rw[HE.out];rfl),Z1.out⟩
 | false=>
   by_cases h60:60<n
   ·have h60':(60:Int)<(n:Int):=by omega
    go_enter Tryz.func22,Tryz.ntmps22;go_wp2_with (first | (go_at_call 17;refine KL.out.mono ?_;rintro e w1 ⟨rfl,hf⟩;have Z1:=h_ hf;clear hf) | fail);go_ret;exact⟨ret_bool (by rw[HE.out];simp[h60]),Z1.out⟩
   ·have h60':¬(60:Int)<(n:Int):=by omega
    go_enter Tryz.func22,Tryz.ntmps22;go_wp2_with (first | (go_at_call 17;refine KL.out.mono ?_;rintro e w1 ⟨rfl,hf⟩;have Z1:=h_ hf;clear hf) | fail)
    go_loopw [5] (fun kv wr=>∃ k:Nat,k≤n∧kv=.int .i64 k∧(cs.take k).any cmLarge=false∧Frm Nix w wr) (fun kv _=>n - (intOf kv).toNat)
    case atStart=>exact⟨0,by omega,rfl,rfl,Z1.out⟩
    case round=>
     obtain⟨k,hk,rfl,ht,hf⟩:=hrel;have HT:=h_ ht;have HF:=h_ hf;clear ht hf
     by_cases hlt:k<n
     ·have hkl:k<cs.length:=by rw[HN.out];exact hlt
      obtain⟨b,off,hA,-,hbl,hcell⟩:=(HM.out.nix HF.out).at_ Cm.clen (by decide) (by omega);dsimp only at hA;subst hA;obtain⟨x0,x1,x2,x3,x4,x5⟩:=cmc6 (w:=wr) (b:=b) (off:=off+k * 6) (c:=cs[k]) (hcell k hkl);have HYes:Hid (cmLarge cs[k]=true→cs.any cmLarge=true):=fun h=>List.any_eq_true.2 ⟨_,List.getElem_mem hkl,h⟩
      have HNo:Hid (cmLarge cs[k]=false→(cs.take (k+1)).any cmLarge=false):=fun h=>by
       rw[List.take_succ_eq_append_getElem hkl,List.any_append,HT.out,List.any_cons,h];rfl
      obtain⟨q,hq⟩:∃ q,cs[k]=q:=⟨_,rfl⟩;rw[hq] at x0 x1 x2 x3 x4 x5 HYes HNo;have KQ:=h_ (rCmLarge_any q wr);clear hcell hq;generalize cmLarge q=bq at *
      cases bq with
      | true=>
        have HY:=h_ (HYes.out rfl);go_wp2_with (first | (go_at_call 49;refine KQ.out.mono ?_;rintro e w2 ⟨rfl,hf⟩;have Z2:Hid (Frm Nix w w2):=HF.out.trans hf;clear hf) | fail);go_ret
        exact⟨ret_bool (by rw[HE.out,HY.out];simp),Z2.out⟩
      | false=>
        have HY:=h_ (HNo.out rfl);go_wp2_with (first | (go_at_call 49;refine KQ.out.mono ?_;rintro e w2 ⟨rfl,hf⟩;have Z2:Hid (Frm Nix w w2):=HF.out.trans hf;clear hf) | fail);go_roundw
        case rel=>exact⟨k+1,by omega,by go_num,HY.out,Z2.out⟩
        case measure=>simp[intOf];omega
     ·obtain rfl:k=n:=by omega
      have HTk:Hid (cs.any cmLarge=false):=by
       have:=HT.out
       rwa [List.take_of_length_le (by rw[HN.out];exact Nat.le_refl _)] at this
      go_wp2;go_ret;exact⟨ret_bool (by rw[HE.out,HTk.out];simp[h60]),HF.out⟩
theorem cBox_st(w:World)(fo fe it se:Sl)(x:St):∃ w0,w0=w.alloc (.cells #[.int .i64 x.clock,.slice fo.1 x.fols.length fo.2,.slice fe.1 x.fees.length fe.2,.slice it.1 x.itms.length it.2,.slice se.1 x.seas.length se.2,.int .i64 x.tFol,.int .i64 x.tFee,.int .i64 x.tItm,.int .i64 x.tSea] 37)∧Frm Nix w w0∧Blk w0 w.heap.size 37 #[.int .i64 x.clock,.slice fo.1 x.fols.length fo.2,.slice fe.1 x.fees.length fe.2,.slice it.1 x.itms.length it.2,.slice se.1 x.seas.length se.2,.int .i64 x.tFol,.int .i64 x.tFee,.int .i64 x.tItm,.int .i64 x.tSea]:=
 ⟨_,rfl,(fR w).alloc _,Blk.new w _ _⟩
theorem large1_any{w W:World}{G:Nat→Prop}{v:Sl}{l:List Ev}(hl:EvsIn w G v l)(hW:Frm Nix w W)(k a b n:Int)(s t:ByteArray):Calls Tryz.prog 22 #[.slice v.1 l.length v.2,.slice (some ⟨W.heap.size,0,none⟩) 1 1] (W.alloc (.cells #[.int .i64 k,.int .i64 a,.int .i64 b,.int .i64 n,.string s,.string t] 50)) fun e w'=>e=.returned (.bool (largeC l [⟨k,a,b,n,s,t⟩]))∧Frm Nix w w':=by
 have q:=(RowK.lit (s:=6) 50 hW 1 (Cm.cells ⟨k,a,b,n,s,t⟩) rfl (by unfold maxLen;omega)).sl
 have q2:SlIn (W.alloc (.cells #[.int .i64 k,.int .i64 a,.int .i64 b,.int .i64 n,.string s,.string t] 50)) (fun k=>w.heap.size≤k) 6 (some ⟨W.heap.size,0,none⟩,1) ([⟨k,a,b,n,s,t⟩]:List Cm).length (([⟨k,a,b,n,s,t⟩]:List Cm).flatMap Cm.cells):=by
  have e:([⟨k,a,b,n,s,t⟩]:List Cm).flatMap Cm.cells=Cm.cells ⟨k,a,b,n,s,t⟩:=by simp
  rw[e];exact q
 exact(large22_any (hl.nix (hW.alloc _)) [⟨k,a,b,n,s,t⟩] q2).mono fun e w' h=>⟨h.1,(hW.alloc _).trans h.2⟩
theorem largeC_no{l:List Ev}{c:Cm}(h:largeC l [c]=false):largeEvs l=false∧c.s.size≤1000∧c.t.size≤1000:=by
 unfold largeC cmLarge at h;simp at h;omega
section
theorem below_size_of_cell{w:World}{a:Addr}{v:Value}(h:w.cell? a=some v):a.block<w.heap.size:=World.block_lt_of_cell? w _ h
def NilOk(A:Option Addr)(n c:Nat):Prop:=A=none→n=0∧c=0
section
variable {H:Type} {enc:TypeId×Value→H} {W:World} {base:Nat} {sp:Nat→Bool} {held:Bool} {fuel:Nat} {cs:List Value} {x:DataW H×List MemPlace}
theorem wf_i64{n:Int}(h:(Lit.int .i64 n).wf=true): -9223372036854775808≤n∧n≤9223372036854775807:=by
 simp[Lit.wf,IntKind.min,IntKind.max,IntKind.signed,IntKind.bits] at h;omega
theorem vInt(h:DataW.trod enc Tryz.prog W base sp held fuel 3 cs=some x):∃ n,cs=[.int .i64 n]∧ -9223372036854775808≤n∧n≤9223372036854775807:=by
 obtain⟨n,h1,-,h3⟩:=DataW.trod_int Tryz.underlying3 h;exact⟨n,h1,wf_i64 h3⟩
theorem vStr(h:DataW.trod enc Tryz.prog W base sp held fuel 9 cs=some x):∃ s:ByteArray,cs=[.string s]∧s.size≤maxLen:=by
 obtain⟨s,h1,-,h3⟩:=DataW.trod_string Tryz.underlying9 h;exact⟨s,h1,h3⟩
def OldB(W:World):Nat→Prop:=fun k=>k<W.heap.size
theorem rd_take{zs:List Int}{f:Int→Value}{a:Addr}{len:Nat}(hl:len≤zs.length)(hc:∀ i,i<zs.length→W.cell? (a.add i)=some (f (zs.getD i 0))):Rd W (OldB W) 1 (some a) len ((zs.take len).map f):=by
 refine⟨by simp[Nat.min_eq_left hl],fun hn=>⟨a,rfl,?_,?_,fun j u hu=>?_⟩⟩
 ·have:=below_size_of_cell (hc 0 (by omega))
  rw[block_of_add] at this;exact this
 ·have:=below_size_of_cell (hc 0 (by omega))
  rw[block_of_add] at this;exact this
 ·have hj:j<len:=by
   have:=(List.getElem?_eq_some_iff.1 hu).1;simp at this;omega
  rw[hc j (by omega),← hu];simp only[List.getElem?_map,List.getElem?_take,hj,if_true,List.getD_eq_getElem?_getD];rw[List.getElem?_eq_getElem (by omega)];rfl
theorem rd_take_str{ss:List ByteArray}{a:Addr}{len:Nat}(hl:len≤ss.length)(hc:∀ i,i<ss.length→W.cell? (a.add i)=some (.string (ss.getD i ByteArray.empty))):Rd W (OldB W) 1 (some a) len ((ss.take len).map Value.string):=by
 refine⟨by simp[Nat.min_eq_left hl],fun hn=>⟨a,rfl,?_,?_,fun j u hu=>?_⟩⟩
 ·have:=below_size_of_cell (hc 0 (by omega))
  rw[block_of_add] at this;exact this
 ·have:=below_size_of_cell (hc 0 (by omega))
  rw[block_of_add] at this;exact this
 ·have hj:j<len:=by
   have:=(List.getElem?_eq_some_iff.1 hu).1;simp at this;omega
  rw[hc j (by omega),← hu];simp only[List.getElem?_map,List.getElem?_take,hj,if_true,List.getD_eq_getElem?_getD];rw[List.getElem?_eq_getElem (by omega)];rfl
theorem vStrs(h:DataW.trod enc Tryz.prog W base sp held fuel 89 cs=some x):
  ∃ A n c,∃ l:List ByteArray,cs=[.slice A n c]∧l.length=n∧Rd W (OldB W) 1 A n (l.map Value.string)∧NilOk A n c∧n≤c∧c≤maxLen∧∀ s ∈ l,s.size≤maxLen:=by
 rcases open_strings Tryz.underlying89 Tryz.underlying9 (by kernel_rfl) h with ⟨rfl,-⟩ | ⟨a,len,cap,ss,rfl,-,hl,hm,hz,-,hc,hw⟩
 ·exact⟨none,0,0,[],rfl,rfl,Rd.none_,fun _=>⟨rfl,rfl⟩,Nat.le_refl _,Nat.zero_le _,by simp⟩
 ·have hzl:len≤ss.length:=by rw[hz];split<;>omega
  exact⟨some a,len,cap,ss.take len,rfl,by simp[Nat.min_eq_left hzl],rd_take_str hzl hc,(fun e=>by cases e),hl,hm,fun k hk=>hw k (List.mem_of_mem_take hk)⟩
structure EvIs(e:Ev):Prop where
 kind: -9223372036854775808≤e.kind∧e.kind≤9223372036854775807
 a: -9223372036854775808≤e.a∧e.a≤9223372036854775807
 b: -9223372036854775808≤e.b∧e.b≤9223372036854775807
 n: -9223372036854775808≤e.n∧e.n≤9223372036854775807
 s:e.s.size≤maxLen
 t:e.t.size≤maxLen
 u:e.u.size≤maxLen
theorem list7{α:Type}{l:List α}(h:l.length=7):∃ a b c d e f g,l=[a,b,c,d,e,f,g]:=by
 match l,h with
 | [a,b,c,d,e,f,g],_=>exact⟨a,b,c,d,e,f,g,rfl⟩
theorem field_of{n i t:Nat}{f:Field}{xs:List (DataW H×List MemPlace)}{fs:Array Field}(hg:∀ (i:Nat) (f:Field),fs[i]? =some f→DataW.trod enc Tryz.prog W base sp held n f.type ((cs.drop f.offset).take (Tryz.prog.cellsOf f.type))=xs[i]?)(hxl:xs.length=fs.size)
  (hi:fs[i]? =some f) (ht:f.type=t) (h1:Tryz.prog.cellsOf t=1) (ho:f.offset=i) {v:Value} (hv:(cs.drop i).take 1=[v]):∃ y,DataW.trod enc Tryz.prog W base sp held n t [v]=some y:=by
 have h:=hg i f hi;rw[ht,h1,ho,hv] at h;have hlt:i<xs.length:=by rw[hxl];exact(Array.getElem?_eq_some_iff.1 hi).1
 exact⟨xs[i],by rw[h,List.getElem?_eq_getElem hlt]⟩
theorem one_int:Tryz.prog.cellsOf 3=1:=by kernel_rfl
theorem one_string:Tryz.prog.cellsOf 9=1:=by kernel_rfl
theorem vEv(h:DataW.trod enc Tryz.prog W base sp held fuel 43 cs=some x):∃ o:Ev,cs=o.cells∧EvIs o:=by
 have hC:Tryz.prog.cellsOf 43=7:=by kernel_rfl
 obtain⟨xs,n,-,-,hlen,hxl,hg⟩:=DataW.trod_struct Tryz.underlying43 h;rw[hC] at hlen;obtain⟨c0,c1,c2,c3,c4,c5,c6,rfl⟩:=list7 hlen;obtain⟨y0,h0⟩:=field_of (i:=0) hg hxl rfl rfl one_int rfl rfl;obtain⟨y1,h1⟩:=field_of (i:=1) hg hxl rfl rfl one_int rfl rfl;obtain⟨y2,h2⟩:=field_of (i:=2) hg hxl rfl rfl one_int rfl rfl;obtain⟨y3,h3⟩:=field_of (i:=3) hg hxl rfl rfl one_int rfl rfl;obtain⟨y4,h4⟩:=field_of (i:=4) hg hxl rfl rfl one_string rfl rfl;obtain⟨y5,h5⟩:=field_of (i:=5) hg hxl rfl rfl one_string rfl rfl;obtain⟨y6,h6⟩:=field_of (i:=6) hg hxl rfl rfl one_string rfl rfl;obtain⟨k,e0,w0⟩:=vInt h0;obtain⟨a,e1,w1⟩:=vInt h1;obtain⟨b,e2,w2⟩:=vInt h2;obtain⟨m,e3,w3⟩:=vInt h3;obtain⟨s,e4,w4⟩:=vStr h4;obtain⟨t,e5,w5⟩:=vStr h5;obtain⟨u,e6,w6⟩:=vStr h6;injection e0 with e0;injection e1 with e1;injection e2 with e2;injection e3 with e3;injection e4 with e4;injection e5 with e5;injection e6 with e6;subst e0;subst e1;subst e2;subst e3;subst e4;subst e5;subst e6;exact⟨⟨k,a,b,m,s,t,u⟩,rfl,⟨w0,w1,w2,w3,w4,w5,w6⟩⟩
theorem evs_len(l:List Ev):(l.flatMap Ev.cells).length=l.length * 7:=by
 induction l with
 | nil=>rfl
 | cons o l ih=>
   rw[List.flatMap_cons,List.length_append,ih,List.length_cons];have:o.cells.length=7:=rfl;omega
theorem vEvs(h:DataW.trod enc Tryz.prog W base sp held fuel 31 cs=some x):
  ∃ A n c,∃ l:List Ev,cs=[.slice A n c]∧l.length=n∧Rd W (OldB W) 7 A n (l.flatMap Ev.cells)∧(∀ o ∈ l,EvIs o)∧NilOk A n c∧n≤c∧c≤maxLen:=by
 have hC:Tryz.prog.cellsOf 43=7:=by kernel_rfl
 rcases open_slice Tryz.underlying31 h with ⟨rfl,-⟩ | ⟨a,len,cap,m,n,D,Pl,rfl,-,hl,hm,hmm,-,hi⟩
 ·exact⟨none,0,0,[],rfl,rfl,Rd.none_,by simp,fun _=>⟨rfl,rfl⟩,Nat.le_refl _,Nat.zero_le _⟩
 ·have hml:len≤m:=by rw[hmm];split<;>omega
  rw[hC] at hi
  have hex:∀ i,i<len→∃ o:Ev,EvIs o∧∀ j u,o.cells[j]? =some u→W.cell? (a.add (i * 7+j))=some u:=by
   intro i hlt;obtain⟨cs',hc,ht⟩:=hi i (by omega);obtain⟨o,rfl,ho⟩:=vEv ht;obtain⟨-,-,hat⟩:=World.cells?_some hc;refine⟨o,ho,fun j u hu=>?_⟩
   have hj:j<7:=by
    have:=(List.getElem?_eq_some_iff.1 hu).1
    simpa [Ev.cells] using this
   rw[← add_of_add,hat j hj,hu]
  obtain⟨l,hll,hlo⟩:∃ l:List Ev,l.length=len∧∀ i (h:i<l.length),EvIs l[i]∧∀ j u,l[i].cells[j]? =some u→W.cell? (a.add (i * 7+j))=some u:=by
   clear hm hmm hi hl hml h
   induction len with
   | zero=>exact⟨[],rfl,fun i h=>by simp at h⟩
   | succ len ih=>
     obtain⟨l,h1,h2⟩:=ih fun i hi=>hex i (by omega)
     obtain⟨o,ho⟩:=hex len (by omega);refine⟨l++[o],by simp[h1],fun i hi=>?_⟩
     by_cases e:i<l.length
     ·rw[List.getElem_append_left e]
      exact h2 i e
     ·have e2:i=l.length:=by simp at hi;omega
      subst e2;rw[List.getElem_append_right (Nat.le_refl _)];simp only[Nat.sub_self,List.getElem_cons_zero];rw[h1];exact ho
  refine⟨some a,len,cap,l,rfl,hll,⟨by rw[evs_len,hll],fun hn=>⟨a,rfl,?_,?_,?_⟩⟩,fun o ho=>?_,(fun e=>by cases e),hl,hm⟩
  ·have:=below_size_of_cell ((hlo 0 (by omega)).2 0 _ rfl)
   rw[block_of_add] at this;exact this
  ·have:=below_size_of_cell ((hlo 0 (by omega)).2 0 _ rfl)
   rw[block_of_add] at this;exact this
  ·intro j u hu
   have hsplit:∀ (l:List Ev) (j:Nat) (u:Value),(l.flatMap Ev.cells)[j]? =some u→∃ (i:Nat) (h:i<l.length) (r:Nat),j=i * 7+r∧l[i].cells[r]? =some u:=by
    intro l
    induction l with
    | nil=>intro j u hu;simp at hu
    | cons o l ih=>
      intro j u hu;rw[List.flatMap_cons] at hu;have h7:o.cells.length=7:=rfl
      by_cases hj:j<7
      ·rw[List.getElem?_append_left (by omega)] at hu
       exact⟨0,by simp,j,by omega,hu⟩
      ·rw[List.getElem?_append_right (by omega),h7] at hu
       obtain⟨i,hi,r,e,hr⟩:=ih _ _ hu;exact⟨i+1,by simpa using hi,r,by omega,by simpa using hr⟩
   obtain⟨i,hi,r,rfl,hr⟩:=hsplit l j u hu;exact(hlo i hi).2 r u hr
  ·obtain⟨i,hi,rfl⟩:=List.mem_iff_getElem.1 ho
   exact(hlo i hi).1
end
end
section
section
variable {H:Type} {enc:TypeId×Value→H} {W:World} {base:Nat} {sp:Nat→Bool} {held:Bool} {fuel:Nat} {cs:List Value} {x:DataW H×List MemPlace}
structure CmIs0(c:Cm):Prop where
 a:I64 c.a
 b:I64 c.b
 n:I64 c.n
theorem list6{α:Type}{l:List α}(h:l.length=6):∃ a b c d e f,l=[a,b,c,d,e,f]:=by
 match l,h with
 | [a,b,c,d,e,f],_=>exact⟨a,b,c,d,e,f,rfl⟩
theorem vCm(h:DataW.trod enc Tryz.prog W base sp held fuel 50 cs=some x):∃ o:Cm,cs=o.cells∧CmIs0 o:=by
 have hC:Tryz.prog.cellsOf 50=6:=by kernel_rfl
 obtain⟨xs,n,-,-,hlen,hxl,hg⟩:=DataW.trod_struct Tryz.underlying50 h;rw[hC] at hlen;obtain⟨c0,c1,c2,c3,c4,c5,rfl⟩:=list6 hlen;obtain⟨y0,h0⟩:=field_of (i:=0) hg hxl rfl rfl one_int rfl rfl;obtain⟨y1,h1⟩:=field_of (i:=1) hg hxl rfl rfl one_int rfl rfl;obtain⟨y2,h2⟩:=field_of (i:=2) hg hxl rfl rfl one_int rfl rfl;obtain⟨y3,h3⟩:=field_of (i:=3) hg hxl rfl rfl one_int rfl rfl;obtain⟨y4,h4⟩:=field_of (i:=4) hg hxl rfl rfl one_string rfl rfl;obtain⟨y5,h5⟩:=field_of (i:=5) hg hxl rfl rfl one_string rfl rfl;obtain⟨k,e0,w0⟩:=vInt h0;obtain⟨a,e1,w1⟩:=vInt h1;obtain⟨b,e2,w2⟩:=vInt h2;obtain⟨m,e3,w3⟩:=vInt h3;obtain⟨s,e4,w4⟩:=vStr h4;obtain⟨t,e5,w5⟩:=vStr h5;injection e0 with e0;injection e1 with e1;injection e2 with e2;injection e3 with e3;injection e4 with e4;injection e5 with e5;subst e0;subst e1;subst e2;subst e3;subst e4;subst e5;exact⟨⟨k,a,b,m,s,t⟩,rfl,⟨w1,w2,w3⟩⟩
end
end
end Go.Proofs.YtdihmpakglakdaaGreat
