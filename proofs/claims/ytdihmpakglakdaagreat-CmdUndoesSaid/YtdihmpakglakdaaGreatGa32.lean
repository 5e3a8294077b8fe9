/-
  Plain: how long a state's history is, and its numbers; which events are looked at.
-/
import Derived.Test.YtdihmpakglakdaaGreatGa10
import Derived.Test.YtdihmpakglakdaaGreatGa11
import Derived.Test.YtdihmpakglakdaaGreatGa16
import Derived.Test.YtdihmpakglakdaaGreatGa25
set_option linter.unusedVariables false
set_option linter.unusedSimpArgs false
set_option maxRecDepth 100000
set_option maxHeartbeats 16000000
namespace Go.Proofs.YtdihmpakglakdaaGreat
open Go.RowKit Go.Lib
theorem lvG_len(l:List Fol):∀ (k:Nat) (ab:List Int),(levelsG l k ab).flatten.length≤k * l.length
 | 0,_=>by simp[levelsG]
 | k+1,ab=>by
   have h1:=lvG_len l k ((l.filter fun f=>ab.contains f.inn).map (·.id));have h2:=List.length_filter_le (fun f:Fol=>ab.contains f.inn) l;rw[levelsG,List.flatten_cons,List.length_append,Nat.succ_mul];omega
theorem lvG_mem(l:List Fol):∀ (k:Nat) (ab:List Int) (f:Fol),f ∈ (levelsG l k ab).flatten→f ∈ l
 | 0,_,_,h=>by simp[levelsG] at h
 | k+1,ab,f,h=>by
   rw[levelsG,List.flatten_cons,List.mem_append] at h;rcases h with h | h
   ·exact(List.mem_filter.1 h).1
   ·exact lvG_mem l k _ f h
theorem itmEvs_len(t:Itm)(n:Nat)(h:t.tags.length≤n):(itmEvs t).length≤n+3:=by
 unfold itmEvs;simp only[List.length_cons,List.length_append,List.length_map];split<;>split<;>simp<;>omega
theorem flat_le_{α β:Type}(f:α→List β)(n:Nat):∀ l:List α,(∀ a ∈ l,(f a).length≤n)→(l.flatMap f).length≤l.length * n
 | [],_=>by simp
 | a::l,h=>by
   have h1:=flat_le_ f n l fun b hb=>h b (List.mem_cons_of_mem _ hb)
   have h2:=h a (List.mem_cons_self ..);rw[List.flatMap_cons,List.length_append,List.length_cons,Nat.succ_mul];omega
theorem topEvs_len(x:St):(topEvs x).length≤8:=by
 unfold topEvs;simp only[List.length_append];split<;>split<;>split<;>first | (simp;done) | (split<;>simp)
theorem past_len(x:St)(n:Nat)(h:∀ t ∈ x.itms,t.tags.length≤n):(pastS x).length≤9+7 * x.fols.length+x.fees.length+x.itms.length * (n+3)+x.seas.length:=by
 have h1:=topEvs_len x;have h2:=lvG_len x.fols 7 [0];have h3:=flat_le_ itmEvs (n+3) x.itms fun t ht=>itmEvs_len t n (h t ht)
 have h4:(if x.clock≠0 then [(⟨13,0,0,x.clock,eS,eS,eS⟩:Ev)] else []).length≤1:=by split<;>simp
 unfold pastS levelsS;simp only[List.length_append,List.length_map];omega
structure StNums(x:St):Prop where
 fols:∀ f ∈ x.fols,I64 f.id∧I64 f.inn
 fees:∀ f ∈ x.fees,I64 f.id∧I64 f.inn
 itms:∀ t ∈ x.itms,I64 t.id∧I64 t.feed
 seas:∀ f ∈ x.seas,I64 f.id
 tFol:I64 x.tFol
 tFee:I64 x.tFee
 tItm:I64 x.tItm
 tSea:I64 x.tSea
theorem i64_0:I64 0:=by unfold I64;omega
theorem topEvs_nums{x:St}(h:StNums x):∀ e ∈ topEvs x,I64 e.a∧I64 e.b:=by
 intro e he;unfold topEvs at he;simp only[List.mem_append] at he;rcases he with he | he | he
 ·split at he
  ·simp at he
   rcases he with rfl | rfl<;>exact⟨h.tFol,i64_0⟩
  ·cases he
 ·split at he
  ·simp at he
   rcases he with rfl | ⟨-,rfl⟩ | rfl
   ·exact⟨h.tFee,i64_0⟩
   ·exact⟨h.tItm,h.tFee⟩
   ·exact⟨h.tFee,i64_0⟩
  ·cases he
 ·split at he
  ·simp at he
   rcases he with rfl | rfl<;>exact⟨h.tSea,i64_0⟩
  ·cases he
theorem past_nums{x:St}(h:StNums x):∀ e ∈ pastS x,I64 e.a∧I64 e.b:=by
 intro e he;unfold pastS at he;simp only[List.mem_append] at he;rcases he with he | he | he | he | he | he
 ·exact topEvs_nums h e he
 ·obtain⟨f,hf,rfl⟩:=List.mem_map.1 he
  exact h.fols f (lvG_mem x.fols 7 [0] f hf)
 ·obtain⟨f,hf,rfl⟩:=List.mem_map.1 he
  exact h.fees f hf
 ·obtain⟨t,ht,he⟩:=List.mem_flatMap.1 he
  have hi:=h.itms t ht;unfold itmEvs at he;simp only[List.mem_cons,List.mem_append] at he;rcases he with rfl | (he | he) | he
  ·exact hi
  ·split at he
   ·simp at he
    subst he;exact⟨hi.1,i64_0⟩
   ·cases he
  ·split at he
   ·simp at he
    subst he;exact⟨hi.1,i64_0⟩
   ·cases he
  ·obtain⟨g,-,rfl⟩:=List.mem_map.1 he
   exact⟨hi.1,i64_0⟩
 ·obtain⟨f,hf,rfl⟩:=List.mem_map.1 he
  exact⟨h.seas f hf,i64_0⟩
 ·split at he
  ·simp at he
   subst he;exact⟨i64_0,i64_0⟩
  ·cases he
theorem StP.inS64{x:St}(h:StP x){i:Int}(hi:inS x i=true):I64 i:=by
 rcases inS_iff.1 hi with rfl | ⟨f,hf,rfl⟩
 ·exact i64_0
 ·have:=h.fId hf
  unfold I64;omega
theorem folder64{n:Int}(h:folderOk n=true):I64 n:=by
 unfold folderOk at h;simp only[Bool.or_eq_true,decide_eq_true_eq] at h;rcases h with h | h
 ·rw[h]
  exact i64_0
 ·have:=idOk_iff.1 h
  unfold I64;omega
theorem StP.nums{x:St}(h:StP x):StNums x where
 fols f hf:=by
  have h1:=h.fId hf;have h2:=(h.fE f hf).1;rw[ev1] at h2;simp only[Bool.and_eq_true] at h2;exact⟨by unfold I64;omega,folder64 h2.1.2⟩
 fees f hf:=by
  have h1:=h.eId hf;have h2:=(h.eE f hf).1;rw[ev3] at h2;simp only[Bool.and_eq_true] at h2;exact⟨by unfold I64;omega,folder64 h2.1.1.2⟩
 itms t ht:=by
  have h1:=h.iId ht;exact⟨by unfold I64;omega,by unfold I64;omega⟩
 seas f hf:=by
  have h1:=h.sId hf;unfold I64;omega
 tFol:=by have:=h.fT;unfold I64;omega
 tFee:=by have:=h.eT;unfold I64;omega
 tItm:=by have:=h.iT;unfold I64;omega
 tSea:=by have:=h.sT;unfold I64;omega
theorem StP.pastLen{x:St}(h:StP x):(pastS x).length≤900000:=by
 have h1:=past_len x 8 fun t ht=>(h.iE t ht).2.2.2.1
 have h2:=h.fL;have h3:=h.eL;have h4:=h.iL;have h5:=h.sL;omega
theorem StP.pastNums{x:St}(h:StP x):∀ e ∈ pastS x,I64 e.a∧I64 e.b:=past_nums h.nums
theorem StP.stOk{x:St}(h:StP x):stOk x=true:=(stOk_iff x).2 h
def largeEvs(l:List Ev):Bool:=decide (150<l.length)||l.any evLarge
theorem largeEvs_take{l:List Ev}{k:Nat}(h:k<l.length)(h1:(l.take k).any evLarge=false)(h2:evLarge l[k]=false):(l.take (k+1)).any evLarge=false:=by
 rw[List.take_succ_eq_append_getElem h,List.any_append,h1];simp[h2]
theorem largeEvs_at{l:List Ev}{k:Nat}(h:k<l.length)(h2:evLarge l[k]=true):l.any evLarge=true:=by
 rw[List.any_eq_true];exact⟨_,List.getElem_mem h,h2⟩
theorem largeEvs_len{l:List Ev}(h:largeEvs l=false):l.length≤150:=by
 unfold largeEvs at h;simp only[Bool.or_eq_false_iff,decide_eq_false_iff_not] at h;omega
theorem maxL:maxLen=9223372036854775807:=by decide+kernel
theorem rLargeEvents_any{w:World}{v:Sl}{G:Nat→Prop}(l:List Ev)(hv:SlIn w G 7 v l.length (l.flatMap Ev.cells)):
  Calls Tryz.prog 17 #[.slice v.1 l.length v.2] w fun e w'=>e=.returned (.bool (largeEvs l))∧Frm Nix w w':=by
 have hmx:l.length≤9223372036854775807:=by
  have h1:=hv.cap;have h2:=hv.max;rw[maxL] at h2;omega
 obtain⟨Av,cv⟩:=v;dsimp only;obtain⟨n,hln⟩:∃ n,l.length=n:=⟨_,rfl⟩;have HL:=h_ hln;have HV:=h_ hv
 have HE:Hid (largeEvs l=(decide (150<n)||l.any evLarge)):=by
  unfold Hid largeEvs;rw[hln]
 rw[hln] at hmx ⊢;clear hv hln
 by_cases h150:150<n
 ·have h2:(150:Int)<(n:Int):=by omega
  go_enter Tryz.func17,Tryz.ntmps17;go_wp2;go_ret;exact⟨ret_bool (by rw[HE.out];simp[h150]),Frm.refl _ _⟩
 have h2:¬(150:Int)<(n:Int):=by omega
 go_enter Tryz.func17,Tryz.ntmps17;go_wp2
 go_loopw [3] (fun kv wr=>∃ k:Nat,k≤n∧kv=.int .i64 k∧(l.take k).any evLarge=false∧Frm Nix w wr) (fun kv _=>n - (intOf kv).toNat)
 case atStart=>exact⟨0,by omega,rfl,by simp,Frm.refl _ _⟩
 case round=>
  obtain⟨k,hk,rfl,ht,hf⟩:=hrel;have HT:=h_ ht;have HF:=h_ hf;clear ht hf
  by_cases hlt:k<n
  ·have hkl:k<l.length:=by rw[HL.out];exact hlt
   obtain⟨b,off,hA,-,hbl,hcell⟩:=(HV.out.nix HF.out).at_ Ev.clen (by decide) (by omega);dsimp only at hA;subst hA;have h7:=evc7 (w:=wr) (b:=b) (off:=off+k * 7) (e:=l[k]) (hcell k hkl);have HYes:=h_ (fun h=>largeEvs_at hkl h);have HNo:=h_ (fun h=>largeEvs_take hkl HT.out h);obtain⟨ev,hev⟩:∃ ev,l[k]=ev:=⟨_,rfl⟩;rw[hev] at h7 HYes HNo;obtain⟨x0,x1,x2,x3,x4,x5,x6⟩:=h7;have KL:Hid (∀ W,Calls Tryz.prog 38 #[.agg #[.int .i64 ev.kind,.int .i64 ev.a,.int .i64 ev.b,.int .i64 ev.n,.string ev.s,.string ev.t,.string ev.u]] W fun r w'=>r=.returned (.bool (evLarge ev))∧Frm Nix W w'):=fun W=>rLarge_any ev W
   clear hcell hev
   cases hb:evLarge ev with
   | true=>
     rw[hb] at KL;have HY:=h_ (HYes.out hb);clear hb;go_wp2_with (go_at_call 38;refine(KL.out _).mono ?_;rintro r w2 ⟨rfl,hf2⟩;have HF2:=h_ hf2;clear hf2);go_ret
     exact⟨ret_bool (by rw[HE.out,HY.out];simp),HF.out.trans HF2.out⟩
   | false=>
     rw[hb] at KL;have HY:=h_ (HNo.out hb);clear hb;go_wp2_with (go_at_call 38;refine(KL.out _).mono ?_;rintro r w2 ⟨rfl,hf2⟩;have HF2:=h_ hf2;clear hf2);go_roundw
     case rel=>exact⟨k+1,by omega,by go_num,HY.out,HF.out.trans HF2.out⟩
     case measure=>simp[intOf];omega
  ·obtain rfl:k=n:=by omega
   have HTk:Hid (l.any evLarge=false):=by
    have:=HT.out;rw[List.take_of_length_le (by rw[HL.out];exact Nat.le_refl _)] at this;exact this
   go_wp2;go_ret;exact⟨ret_bool (by rw[HE.out,HTk.out];simp;omega),HF.out⟩
section
structure EvsIn(w:World)(G:Nat→Prop)(v:Sl)(l:List Ev):Prop where
 sl:SlIn w G 7 v l.length (l.flatMap Ev.cells)
 num:∀ e ∈ l,I64 e.a∧I64 e.b
section
variable {w w1:World} {G F:Nat→Prop} {v:Sl} {l:List Ev}
theorem EvsIn.nix(h:EvsIn w G v l)(hf:Frm Nix w w1):EvsIn w1 G v l:=⟨h.sl.nix hf,h.num⟩
theorem EvsIn.frm(h:EvsIn w G v l)(hf:Frm F w w1)(hd:∀ k,G k→¬F k):EvsIn w1 G v l:=⟨h.sl.frm hf hd,h.num⟩
theorem EvsIn.large(h:EvsIn w G v l):Calls Tryz.prog 17 #[.slice v.1 l.length v.2] w fun e w'=>e=.returned (.bool (largeEvs l))∧Frm Nix w w':=rLargeEvents_any l h.sl
theorem EvsIn.fold(h:EvsIn w G v l)(hl:largeEvs l=false):Calls Tryz.prog 24 #[.slice v.1 l.length v.2] w fun e w'=>∃ g M,e=.returned (.pointer (some ⟨g,0,none⟩))∧StAt w' g M (foldE st0 l)∧Frm Nix w w'∧∀ k,SF g M k→w.heap.size≤k:=
 Fold_any l h.sl h.num (by have:=largeEvs_len hl;omega)
end
theorem StP.small{x:St}(h:StP x):StSmall x:=⟨by have:=h.fL;omega,by have:=h.eL;omega,by have:=h.iL;omega,by have:=h.sL;omega,fun t ht=>by have:=(h.iE t ht).2.2.2.1;omega⟩
theorem evs_cells{w wr:World}{G:Nat→Prop}{A:Option Addr}{c:Nat}{l:List Ev}(hv:SlIn w G 7 (A,c) l.length (l.flatMap Ev.cells))(hf:Frm Nix w wr){k:Nat}(hk:k<l.length):∃ b off,A=some ⟨b,off,none⟩∧G b∧b<wr.heap.size∧
  ∀ (F:Nat→Prop) W,¬F b→Frm F wr W→W.cell? ⟨b,off+k * 7,none⟩=some (.int .i64 l[k].kind)∧W.cell? ⟨b,off+k * 7+1,none⟩=some (.int .i64 l[k].a)∧W.cell? ⟨b,off+k * 7+2,none⟩=some (.int .i64 l[k].b)∧W.cell? ⟨b,off+k * 7+3,none⟩=some (.int .i64 l[k].n)∧W.cell? ⟨b,off+k * 7+4,none⟩=some (.string l[k].s)∧W.cell? ⟨b,off+k * 7+5,none⟩=some (.string l[k].t)∧W.cell? ⟨b,off+k * 7+6,none⟩=some (.string l[k].u):=by
 obtain⟨b,off,hA,hG,hbl,hcell⟩:=(hv.nix hf).at_ Ev.clen (by decide) (by omega);refine⟨b,off,hA,hG,hbl,fun F W hn hW=>?_⟩;obtain⟨x0,x1,x2,x3,x4,x5,x6⟩:=evc7 (w:=wr) (b:=b) (off:=off+k * 7) (e:=l[k]) (hcell k hk);exact⟨(hW.cell (p:=⟨b,off+k * 7,none⟩) hbl hn).trans x0,(hW.cell (p:=⟨b,off+k * 7+1,none⟩) hbl hn).trans x1,(hW.cell (p:=⟨b,off+k * 7+2,none⟩) hbl hn).trans x2,(hW.cell (p:=⟨b,off+k * 7+3,none⟩) hbl hn).trans x3,(hW.cell (p:=⟨b,off+k * 7+4,none⟩) hbl hn).trans x4,(hW.cell (p:=⟨b,off+k * 7+5,none⟩) hbl hn).trans x5,(hW.cell (p:=⟨b,off+k * 7+6,none⟩) hbl hn).trans x6⟩
end
end Go.Proofs.YtdihmpakglakdaaGreat
