/-
  Contracts: law 22's large; words for the laws' walks.
-/
import Derived.Test.YtdihmpakglakdaaGreatGp38
import Derived.Test.YtdihmpakglakdaaGreatGp24
import Derived.Deep.RegionHeld3
import Derived.Test.YtdihmpakglakdaaGreatGp30
set_option linter.unusedVariables false
set_option linter.unusedSimpArgs false
set_option maxRecDepth 100000
set_option maxHeartbeats 16000000
namespace Go.Proofs.YtdihmpakglakdaaGreat
open Go.RowKit Go.Lib Go.ChangeShapes Go.WideShapes Go.ChangeAt Go.Deep
def Cm.cells(c:Cm):List Value:=[.int .i64 c.kind,.int .i64 c.a,.int .i64 c.b,.int .i64 c.n,.string c.s,.string c.t]
theorem Cm.clen(c:Cm):c.cells.length=6:=rfl
def cmLarge(c:Cm):Bool:=decide (1000<c.s.size)||decide (1000<c.t.size)
def largeC(l:List Ev)(cs:List Cm):Bool:=largeEvs l||(decide (60<cs.length)||cs.any cmLarge)
theorem cmc6{w:World}{b off:Nat}{c:Cm}(h:∀ (j:Nat) (u:Value),c.cells[j]? =some u→w.cell? ⟨b,off+j,none⟩=some u):
  w.cell? ⟨b,off,none⟩=some (.int .i64 c.kind)∧w.cell? ⟨b,off+1,none⟩=some (.int .i64 c.a)∧w.cell? ⟨b,off+2,none⟩=some (.int .i64 c.b)∧w.cell? ⟨b,off+3,none⟩=some (.int .i64 c.n)∧w.cell? ⟨b,off+4,none⟩=some (.string c.s)∧w.cell? ⟨b,off+5,none⟩=some (.string c.t):=
 ⟨h 0 _ rfl,h 1 _ rfl,h 2 _ rfl,h 3 _ rfl,h 4 _ rfl,h 5 _ rfl⟩
theorem rCmLarge_any(q:Cm)(w:World):Calls Tryz.prog 49 #[.agg #[.int .i64 q.kind,.int .i64 q.a,.int .i64 q.b,.int .i64 q.n,.string q.s,.string q.t]] w fun e w'=>e=.returned (.bool (cmLarge q))∧Frm Nix w w':=by
 have HE:Hid (cmLarge q=(decide (1000<q.s.size)||decide (1000<q.t.size))):=rfl
 by_cases h1:1000<q.s.size
 ·have h1':(1000:Int)<(q.s.size:Int):=by omega
  go_enter Tryz.func49,Tryz.ntmps49;go_wp2;go_ret;exact⟨ret_bool (by rw[HE.out];simp[h1]),(fR w).alloc _⟩
 ·have h1':¬(1000:Int)<(q.s.size:Int):=by omega
  go_enter Tryz.func49,Tryz.ntmps49;go_wp2;go_ret;exact⟨ret_bool (by rw[HE.out];simp[h1];try omega),(fR w).alloc _⟩
theorem large22_any{w:World}{G G2:Nat→Prop}{v vm:Sl}{l:List Ev}(hl:EvsIn w G v l)(cs:List Cm)(hm:SlIn w G2 6 vm cs.length (cs.flatMap Cm.cells)):
  Calls Tryz.prog 22 #[.slice v.1 l.length v.2,.slice vm.1 cs.length vm.2] w fun e w'=>e=.returned (.bool (largeC l cs))∧Frm Nix w w':=by
 have HE:Hid (largeC l cs=(largeEvs l||(decide (60<cs.length)||cs.any cmLarge))):=rfl;have KL:=h_ hl.large;have HM:=h_ hm;obtain⟨n,hn⟩:∃ n,cs.length=n:=⟨_,rfl⟩;have HN:=h_ hn;generalize largeC l cs=lc at *;generalize largeEvs l=le at *;generalize l.length=nl at *;obtain⟨Am,cm⟩:=vm;dsimp only;rw[hn] at HE ⊢;clear hl hm hn
 cases le with
 | true=>
   go_enter Tryz.func22,Tryz.ntmps22;go_wp2_with (first | (go_at_call 17;refine KL.out.mono ?_;rintro e w1 ⟨rfl,hf⟩;have Z1:=h_ hf;clear hf) | fail);go_ret
   exact⟨ret_bool (by rw[HE.out];rfl),Z1.out⟩
 | false=>
   by_cases h60:60<n
   ·have h60':(60:Int)<(n:Int):=by omega
    go_enter Tryz.func22,Tryz.ntmps22;go_wp2_with (first | (go_at_call 17;refine KL.out.mono ?_;rintro e w1 ⟨rfl,hf⟩;have Z1:=h_ hf;clear hf) | fail);go_ret;exact⟨ret_bool (by rw[HE.out];simp[h60]),Z1.out⟩
   ·have h60':¬(60:Int)<(n:Int):=by omega
    go_enter Tryz.func22,Tryz.ntmps22;go_wp2_with (first | (go_at_call 17;refine KL.out.mono ?_;rintro e w1 ⟨rfl,hf⟩;have Z1:=h_ hf;clear hf) | fail)
    go_loopw [5] (fun kv wr=>∃ k:Nat,k≤n∧kv=.int .i64 k∧(cs.take k).any cmLarge=false∧Frm Nix w wr) (fun kv _=>n - (intOf kv).toNat)
    case atStart=>exact⟨0,by omega,rfl,rfl,Z1.out⟩
    case round=>
     obtain⟨k,hk,rfl,ht,hf⟩:=hrel;have HT:=h_ ht;have HF:=h_ hf;clear ht hf
     by_cases hlt:k<n
     ·have hkl:k<cs.length:=by rw[HN.out];exact hlt
      obtain⟨b,off,hA,-,hbl,hcell⟩:=(HM.out.nix HF.out).at_ Cm.clen (by decide) (by omega);dsimp only at hA;subst hA;obtain⟨x0,x1,x2,x3,x4,x5⟩:=cmc6 (w:=wr) (b:=b) (off:=off+k * 6) (c:=cs[k]) (hcell k hkl);have HYes:Hid (cmLarge cs[k]=true→cs.any cmLarge=true):=fun h=>List.any_eq_true.2 ⟨_,List.getElem_mem hkl,h⟩
      have HNo:Hid (cmLarge cs[k]=false→(cs.take (k+1)).any cmLarge=false):=fun h=>by
       rw[List.take_succ_eq_append_getElem hkl,List.any_append,HT.out,List.any_cons,h];rfl
      obtain⟨q,hq⟩:∃ q,cs[k]=q:=⟨_,rfl⟩;rw[hq] at x0 x1 x2 x3 x4 x5 HYes HNo;have KQ:=h_ (rCmLarge_any q wr);clear hcell hq;generalize cmLarge q=bq at *
      cases bq with
      | true=>
        have HY:=h_ (HYes.out rfl);go_wp2_with (first | (go_at_call 49;refine KQ.out.mono ?_;rintro e w2 ⟨rfl,hf⟩;have Z2:Hid (Frm Nix w w2):=HF.out.trans hf;clear hf) | fail);go_ret
        exact⟨ret_bool (by rw[HE.out,HY.out];simp),Z2.out⟩
      | false=>
        have HY:=h_ (HNo.out rfl);go_wp2_with (first | (go_at_call 49;refine KQ.out.mono ?_;rintro e w2 ⟨rfl,hf⟩;have Z2:Hid (Frm Nix w w2):=HF.out.trans hf;clear hf) | fail);go_roundw
        case rel=>exact⟨k+1,by omega,by go_num,HY.out,Z2.out⟩
        case measure=>simp[intOf];omega
     ·obtain rfl:k=n:=by omega
      have HTk:Hid (cs.any cmLarge=false):=by
       have:=HT.out
       rwa [List.take_of_length_le (by rw[HN.out];exact Nat.le_refl _)] at this
      go_wp2;go_ret;exact⟨ret_bool (by rw[HE.out,HTk.out];simp[h60]),HF.out⟩
theorem large1_any{w W:World}{G:Nat→Prop}{v:Sl}{l:List Ev}(hl:EvsIn w G v l)(hW:Frm Nix w W)(k a b n:Int)(s t:ByteArray):Calls Tryz.prog 22 #[.slice v.1 l.length v.2,.slice (some ⟨W.heap.size,0,none⟩) 1 1] (W.alloc (.cells #[.int .i64 k,.int .i64 a,.int .i64 b,.int .i64 n,.string s,.string t] 50)) fun e w'=>e=.returned (.bool (largeC l [⟨k,a,b,n,s,t⟩]))∧Frm Nix w w':=by
 have q:=(RowK.lit (s:=6) 50 hW 1 (Cm.cells ⟨k,a,b,n,s,t⟩) rfl (by unfold maxLen;omega)).sl
 have q2:SlIn (W.alloc (.cells #[.int .i64 k,.int .i64 a,.int .i64 b,.int .i64 n,.string s,.string t] 50)) (fun k=>w.heap.size≤k) 6 (some ⟨W.heap.size,0,none⟩,1) ([⟨k,a,b,n,s,t⟩]:List Cm).length (([⟨k,a,b,n,s,t⟩]:List Cm).flatMap Cm.cells):=by
  have e:([⟨k,a,b,n,s,t⟩]:List Cm).flatMap Cm.cells=Cm.cells ⟨k,a,b,n,s,t⟩:=by simp
  rw[e];exact q
 exact(large22_any (hl.nix (hW.alloc _)) [⟨k,a,b,n,s,t⟩] q2).mono fun e w' h=>⟨h.1,(hW.alloc _).trans h.2⟩
theorem largeC_no{l:List Ev}{c:Cm}(h:largeC l [c]=false):largeEvs l=false∧c.s.size≤1000∧c.t.size≤1000:=by
 unfold largeC cmLarge at h;simp at h;omega
section
section
variable {H:Type} {enc:TypeId×Value→H} {W:World} {base:Nat} {sp:Nat→Bool} {held:Bool} {fuel:Nat} {cs:List Value} {x:DataW H×List MemPlace}
structure CmIs0(c:Cm):Prop where
 a:I64 c.a
 b:I64 c.b
 n:I64 c.n
theorem list6{α:Type}{l:List α}(h:l.length=6):∃ a b c d e f,l=[a,b,c,d,e,f]:=by
 match l,h with
 | [a,b,c,d,e,f],_=>exact⟨a,b,c,d,e,f,rfl⟩
theorem vCm(h:DataW.trod enc Tryz.prog W base sp held fuel 50 cs=some x):∃ o:Cm,cs=o.cells∧CmIs0 o:=by
 have hC:Tryz.prog.cellsOf 50=6:=by kernel_rfl
 obtain⟨xs,n,-,-,hlen,hxl,hg⟩:=DataW.trod_struct Tryz.underlying50 h;rw[hC] at hlen;obtain⟨c0,c1,c2,c3,c4,c5,rfl⟩:=list6 hlen;obtain⟨y0,h0⟩:=field_of (i:=0) hg hxl rfl rfl one_int rfl rfl;obtain⟨y1,h1⟩:=field_of (i:=1) hg hxl rfl rfl one_int rfl rfl;obtain⟨y2,h2⟩:=field_of (i:=2) hg hxl rfl rfl one_int rfl rfl;obtain⟨y3,h3⟩:=field_of (i:=3) hg hxl rfl rfl one_int rfl rfl;obtain⟨y4,h4⟩:=field_of (i:=4) hg hxl rfl rfl one_string rfl rfl;obtain⟨y5,h5⟩:=field_of (i:=5) hg hxl rfl rfl one_string rfl rfl;obtain⟨k,e0,w0⟩:=vInt h0;obtain⟨a,e1,w1⟩:=vInt h1;obtain⟨b,e2,w2⟩:=vInt h2;obtain⟨m,e3,w3⟩:=vInt h3;obtain⟨s,e4,w4⟩:=vStr h4;obtain⟨t,e5,w5⟩:=vStr h5;injection e0 with e0;injection e1 with e1;injection e2 with e2;injection e3 with e3;injection e4 with e4;injection e5 with e5;subst e0;subst e1;subst e2;subst e3;subst e4;subst e5;exact⟨⟨k,a,b,m,s,t⟩,rfl,⟨w1,w2,w3⟩⟩
end
end
end Go.Proofs.YtdihmpakglakdaaGreat
