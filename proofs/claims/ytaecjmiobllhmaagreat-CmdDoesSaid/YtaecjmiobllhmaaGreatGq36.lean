/- Words. -/
import Derived.Test.YtaecjmiobllhmaaGreatGq34
set_option linter.unusedVariables false
set_option linter.unusedSimpArgs false
set_option maxRecDepth 100000
set_option maxHeartbeats 16000000
namespace Go.Proofs.YtaecjmiobllhmaaGreat
open Go.Value renaming int→I,string→V,slice→U
open Go.IntKind renaming i64→J
open Go.RowKit Go.Lib Go.ChangeShapes Go.WideShapes Go.ChangeAt Go.Deep
def Cm.cells(c:Cm):List Value:=[I J c.kind,I J c.a,I J c.b,I J c.n,V c.s,V c.t]
variable {w:World}{c:Cm}{G:Nat→Prop}{v:Sl}
theorem Cm.clen(c:Cm):c.cells.length=6:=rfl
def kW(c:Cm):Bool:=decide (1000<c.s.size)||decide (1000<c.t.size)
def pE(l:List Ev)(cs:List Cm):Bool:=eP l||(decide (60<cs.length)||cs.any kW)
theorem Qn{b off:Nat}(h:∀(j:Nat) (u:Value),c.cells[j]? =some u→w.cell? ⟨b,off+j,none⟩=some u):
  w.cell? ⟨b,off,none⟩=some (I J c.kind)∧w.cell? ⟨b,off+1,none⟩=some (I J c.a)∧w.cell? ⟨b,off+2,none⟩=some (I J c.b)∧w.cell? ⟨b,off+3,none⟩=some (I J c.n)∧w.cell? ⟨b,off+4,none⟩=some (V c.s)∧w.cell? ⟨b,off+5,none⟩=some (V c.t):=
 ⟨h 0 _ rfl,h 1 _ rfl,h 2 _ rfl,h 3 _ rfl,h 4 _ rfl,h 5 _ rfl⟩
theorem zC(q:Cm)(w:World):Calls Tryz.prog 37 #[.agg #[I J q.kind,I J q.a,I J q.b,I J q.n,V q.s,V q.t]] w λe w'=>e=.returned (.bool (kW q))∧aa ac w w':=by
 have HE:Hid (kW q=(decide (1000<q.s.size)||decide (1000<q.t.size))):=rfl
 by_cases h1:1000<q.s.size
 ·have h1':(1000:Int)<(q.s.size:Int):=by omega
  go_enter Tryz.func37,Tryz.ntmps37;go_wp2;go_ret;exact⟨af (by rw[HE.out];simp[h1]),(fR w).alloc _⟩
 ·have h1':¬(1000:Int)<(q.s.size:Int):=by omega
  go_enter Tryz.func37,Tryz.ntmps37;go_wp2;go_ret;exact⟨af (by rw[HE.out];simp[h1];try omega),(fR w).alloc _⟩
theorem uI{G G2:Nat→Prop}{v vm:Sl}{l:List Ev}(hl:nd w G v l)(cs:List Cm)(hm:aN w G2 6 vm cs.length (cs.flatMap Cm.cells)):
  Calls Tryz.prog 17 #[U v.1 l.length v.2,U vm.1 cs.length vm.2] w λe w'=>e=.returned (.bool (pE l cs))∧aa ac w w':=by
 have HE:Hid (pE l cs=(eP l||(decide (60<cs.length)||cs.any kW))):=rfl;have KL:=h_ hl.large;have HM:=h_ hm;obtain⟨n,hn⟩:∃n,cs.length=n:=⟨_,rfl⟩;have HN:=h_ hn;generalize pE l cs=lc at *;generalize eP l=le at *;generalize l.length=nl at *;obtain⟨Am,cm⟩:=vm;dsimp only;rw[hn] at HE ⊢;clear hl hm hn
 cases le with
 | true=>
   go_enter Tryz.func17,Tryz.ntmps17;go_wp2_with (first|(go_at_call 12;refine KL.out.mono ?_;rintro e w1 ⟨rfl,hf⟩;have Z1:=h_ hf;clear hf)|fail);go_ret
   exact⟨af (by rw[HE.out];rfl),Z1.out⟩
 | false=>
   by_cases Vq:60<n
   ·have TT:(60:Int)<(n:Int):=by omega
    go_enter Tryz.func17,Tryz.ntmps17;go_wp2_with (first|(go_at_call 12;refine KL.out.mono ?_;rintro e w1 ⟨rfl,hf⟩;have Z1:=h_ hf;clear hf)|fail);go_ret;exact⟨af (by rw[HE.out];simp[Vq]),Z1.out⟩
   ·have TT:¬(60:Int)<(n:Int):=by omega
    go_enter Tryz.func17,Tryz.ntmps17;go_wp2_with (first|(go_at_call 12;refine KL.out.mono ?_;rintro e w1 ⟨rfl,hf⟩;have Z1:=h_ hf;clear hf)|fail)
    go_loopw [5] (λkv wr=>∃k:Nat,k≤n∧kv=I J k∧(cs.take k).any kW=false∧aa ac w wr) (λkv _=>n-(intOf kv).toNat)
    case atStart=>exact⟨0,by omega,rfl,rfl,Z1.out⟩
    case round=>
     obtain⟨k,hk,rfl,ht,hf⟩:=hrel;have HT:=h_ ht;have HF:=h_ hf;clear ht hf
     by_cases hlt:k<n
     ·have dX:k<cs.length:=by rw[HN.out];exact hlt
      obtain⟨b,off,hA,-,hbl,hcell⟩:=(HM.out.nix HF.out).at_ Cm.clen (by decide) (by omega);dsimp only at hA;subst hA;obtain⟨x0,x1,x2,x3,x4,x5⟩:=Qn (w:=wr) (b:=b) (off:=off+k * 6) (c:=cs[k]) (hcell k dX);have wF:Hid (kW cs[k]=true→cs.any kW=true):=λh=>List.any_eq_true.2 ⟨_,List.getElem_mem dX,h⟩
      have Cz:Hid (kW cs[k]=false→(cs.take (k+1)).any kW=false):=λh=>by
       rw[List.take_succ_eq_append_getElem dX,List.any_append,HT.out,List.any_cons,h];rfl
      obtain⟨q,hq⟩:∃q,cs[k]=q:=⟨_,rfl⟩;rw[hq] at x0 x1 x2 x3 x4 x5 wF Cz;have KQ:=h_ (zC q wr);clear hcell hq;generalize kW q=bq at *
      cases bq with
      | true=>
        have HY:=h_ (wF.out rfl);go_wp2_with (first|(go_at_call 37;refine KQ.out.mono ?_;rintro e w2 ⟨rfl,hf⟩;have Z2:Hid (aa ac w w2):=HF.out.trans hf;clear hf)|fail);go_ret
        exact⟨af (by rw[HE.out,HY.out];simp),Z2.out⟩
      | false=>
        have HY:=h_ (Cz.out rfl);go_wp2_with (first|(go_at_call 37;refine KQ.out.mono ?_;rintro e w2 ⟨rfl,hf⟩;have Z2:Hid (aa ac w w2):=HF.out.trans hf;clear hf)|fail);go_roundw
        case rel=>exact⟨k+1,by omega,by go_num,HY.out,Z2.out⟩
        case measure=>simp[intOf];omega
     ·obtain rfl:k=n:=by omega
      have xg:Hid (cs.any kW=false):=by
       have:=HT.out
       rwa [List.take_of_length_le (by rw[HN.out];exact Nat.le_refl _)] at this
      go_wp2;go_ret;exact⟨af (by rw[HE.out,xg.out];simp[Vq]),HF.out⟩
theorem Ff(w:World)(fo fe it se:Sl)(x:St):∃w0,w0=w.alloc (.cells #[I J x.clock,U fo.1 x.fols.length fo.2,U fe.1 x.fees.length fe.2,U it.1 x.itms.length it.2,U se.1 x.seas.length se.2,I J x.tFol,I J x.tFee,I J x.tItm,I J x.tSea] 36)∧aa ac w w0∧ai w0 w.heap.size 36 #[I J x.clock,U fo.1 x.fols.length fo.2,U fe.1 x.fees.length fe.2,U it.1 x.itms.length it.2,U se.1 x.seas.length se.2,I J x.tFol,I J x.tFee,I J x.tItm,I J x.tSea]:=
 ⟨_,rfl,(fR w).alloc _,ai.new w _ _⟩
theorem D8{w W:World}{l:List Ev}(hl:nd w G v l)(hW:aa ac w W)(k a b n:Int)(s t:ByteArray):Calls Tryz.prog 17 #[U v.1 l.length v.2,U (some ⟨W.heap.size,0,none⟩) 1 1] (W.alloc (.cells #[I J k,I J a,I J b,I J n,V s,V t] 49)) λe w'=>e=.returned (.bool (pE l [⟨k,a,b,n,s,t⟩]))∧aa ac w w':=by
 have q:=(aO.lit (s:=6) 49 hW 1 (Cm.cells ⟨k,a,b,n,s,t⟩) rfl (by unfold maxLen;omega)).sl
 have q2:aN (W.alloc (.cells #[I J k,I J a,I J b,I J n,V s,V t] 49)) (λk=>w.heap.size≤k) 6 (some ⟨W.heap.size,0,none⟩,1) ([⟨k,a,b,n,s,t⟩]:List Cm).length (([⟨k,a,b,n,s,t⟩]:List Cm).flatMap Cm.cells):=by
  have e:([⟨k,a,b,n,s,t⟩]:List Cm).flatMap Cm.cells=Cm.cells ⟨k,a,b,n,s,t⟩:=by simp
  rw[e];exact q
 exact(uI (hl.nix (hW.alloc _)) [⟨k,a,b,n,s,t⟩] q2).mono λe w' h=>⟨h.1,(hW.alloc _).trans h.2⟩
theorem GZ{l:List Ev}(h:pE l [c]=false):eP l=false∧c.s.size≤1000∧c.t.size≤1000:=by
 unfold pE kW at h;simp at h;omega
section
section
variable {H:Type} {enc:TypeId×Value→H} {W:World} {base:Nat} {sp:Nat→Bool} {held:Bool} {fuel:Nat} {cs:List Value} {x:DataW H×List MemPlace}
structure yz(c:Cm):Prop where
 a:bj c.a
 b:bj c.b
 n:bj c.n
theorem Qo{α:Type}{l:List α}(h:l.length=6):∃a b c d e f,l=[a,b,c,d,e,f]:=by
 match l,h with
 | [a,b,c,d,e,f],_=>exact⟨a,b,c,d,e,f,rfl⟩
theorem Vs(h:DataW.trod enc Tryz.prog W base sp held fuel 49 cs=some x):∃o:Cm,cs=o.cells∧yz o:=by
 have hC:Tryz.prog.cellsOf 49=6:=by kernel_rfl
 obtain⟨xs,n,-,-,hlen,xq,hg⟩:=DataW.trod_struct Tryz.underlying49 h;rw[hC] at hlen;obtain⟨c0,c1,c2,c3,c4,c5,rfl⟩:=Qo hlen;obtain⟨y0,h0⟩:=iU (i:=0) hg xq rfl rfl pk rfl rfl;obtain⟨y1,h1⟩:=iU (i:=1) hg xq rfl rfl pk rfl rfl;obtain⟨y2,h2⟩:=iU (i:=2) hg xq rfl rfl pk rfl rfl;obtain⟨y3,h3⟩:=iU (i:=3) hg xq rfl rfl pk rfl rfl;obtain⟨y4,h4⟩:=iU (i:=4) hg xq rfl rfl nT rfl rfl;obtain⟨y5,h5⟩:=iU (i:=5) hg xq rfl rfl nT rfl rfl;obtain⟨k,e0,w0⟩:=BD h0;obtain⟨a,e1,w1⟩:=BD h1;obtain⟨b,e2,w2⟩:=BD h2;obtain⟨m,e3,w3⟩:=BD h3;obtain⟨s,e4,w4⟩:=I8 h4;obtain⟨t,e5,w5⟩:=I8 h5;injection e0 with e0;injection e1 with e1;injection e2 with e2;injection e3 with e3;injection e4 with e4;injection e5 with e5;subst e0;subst e1;subst e2;subst e3;subst e4;subst e5;exact⟨⟨k,a,b,m,s,t⟩,rfl,⟨w1,w2,w3⟩⟩
end
end
end Go.Proofs.YtaecjmiobllhmaaGreat
