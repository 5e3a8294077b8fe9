/- Words. -/
import Derived.Test.YtaecjmiobllhmaaGreatGr84
import Derived.Test.YtaecjmiobllhmaaGreatGr71
set_option linter.unusedVariables false
set_option linter.unusedSimpArgs false
set_option maxRecDepth 100000
set_option maxHeartbeats 16000000
namespace Go.Proofs.YtaecjmiobllhmaaGreat
open Go.Value renaming int→I,string→V,slice→U,pointer→O
open Go.IntKind renaming i64→J
open Tryz renaming prog→pQ
open Go.RowKit Go.Lib Go.ChangeShapes Go.WideShapes Go.ChangeAt Go.Deep
variable {w w1:World}{G:Nat→Prop}{ops:Array Oper}{rest:List Oper}{op:Oper}{ac:Act}{Q:Exit→Act→World→Prop}{A:Option Addr}{c fb:Nat}
structure qD where
 fo:Sl
 fe:Sl
 it:Sl
 se:Sl
 ts:List (Sl×aR)
 m:Mv
def qD.cells(d:qD):List Value:=[I J d.m.kind,I J d.m.ev.kind,I J d.m.ev.a,I J d.m.ev.b,I J d.m.ev.n,V d.m.ev.s,V d.m.ev.t,V d.m.ev.u,I J d.m.err,I J d.m.last,I J d.m.snap,I J d.m.st.clock,U d.fo.1 d.m.st.fols.length d.fo.2,U d.fe.1 d.m.st.fees.length d.fe.2,U d.it.1 d.m.st.itms.length d.it.2,U d.se.1 d.m.st.seas.length d.se.2,I J d.m.st.tFol,I J d.m.st.tFee,I J d.m.st.tItm,I J d.m.st.tSea]
theorem qD.clen(d:qD):d.cells.length=20:=rfl
structure qJ(w:World)(G:Nat→Prop)(v:Sl)(l:List qD):Prop where
 sl:aF w G 20 v l.length (l.flatMap qD.cells)
 mv:∀d∈l,jE w G d.fo d.fe d.it d.se d.ts d.m
 num:∀d∈l,bn d.m.ev.a∧bn d.m.ev.b
theorem qJ.nix{v:Sl}{l:List qD}(h:qJ w G v l)(hf:aa ag w w1):qJ w1 G v l:=⟨h.sl.nix hf,λd hd=>(h.mv d hd).nix hf,h.num⟩
theorem qJ.first{v:Sl}{l:List qD}(h:qJ w G v l){k:Nat}(hk:k≤l.length):qJ w G v (l.take k):=by
 have q:=h.sl.first hk
 rw[gy qD.clen] at q;refine⟨?_,λd hd=>h.mv d (List.mem_of_mem_take hd),λd hd=>h.num d (List.mem_of_mem_take hd)⟩;rw[List.length_take,Nat.min_eq_left hk];exact q
theorem O2{b off:Nat}{d:qD}(h:∀(j:Nat) (u:Value),d.cells[j]? =some u→w.cell? ⟨b,off+j,none⟩=some u):
  w.cell? ⟨b,off,none⟩=some (I J d.m.kind)∧w.cell? ⟨b,off+1,none⟩=some (I J d.m.ev.kind)∧w.cell? ⟨b,off+2,none⟩=some (I J d.m.ev.a)∧w.cell? ⟨b,off+3,none⟩=some (I J d.m.ev.b)∧w.cell? ⟨b,off+4,none⟩=some (I J d.m.ev.n)∧w.cell? ⟨b,off+5,none⟩=some (V d.m.ev.s)∧w.cell? ⟨b,off+6,none⟩=some (V d.m.ev.t)∧w.cell? ⟨b,off+7,none⟩=some (V d.m.ev.u)∧w.cell? ⟨b,off+8,none⟩=some (I J d.m.err)∧w.cell? ⟨b,off+9,none⟩=some (I J d.m.last)∧w.cell? ⟨b,off+10,none⟩=some (I J d.m.snap)∧w.cell? ⟨b,off+11,none⟩=some (I J d.m.st.clock)∧w.cell? ⟨b,off+12,none⟩=some (U d.fo.1 d.m.st.fols.length d.fo.2)∧w.cell? ⟨b,off+13,none⟩=some (U d.fe.1 d.m.st.fees.length d.fe.2)∧w.cell? ⟨b,off+14,none⟩=some (U d.it.1 d.m.st.itms.length d.it.2)∧w.cell? ⟨b,off+15,none⟩=some (U d.se.1 d.m.st.seas.length d.se.2)∧w.cell? ⟨b,off+16,none⟩=some (I J d.m.st.tFol)∧w.cell? ⟨b,off+17,none⟩=some (I J d.m.st.tFee)∧w.cell? ⟨b,off+18,none⟩=some (I J d.m.st.tItm)∧w.cell? ⟨b,off+19,none⟩=some (I J d.m.st.tSea):=
 ⟨h 0 _ rfl,h 1 _ rfl,h 2 _ rfl,h 3 _ rfl,h 4 _ rfl,h 5 _ rfl,h 6 _ rfl,h 7 _ rfl,h 8 _ rfl,h 9 _ rfl,h 10 _ rfl,h 11 _ rfl,h 12 _ rfl,h 13 _ rfl,h 14 _ rfl,h 15 _ rfl,h 16 _ rfl,h 17 _ rfl,h 18 _ rfl,h 19 _ rfl⟩
theorem yw(a:Au)(m:Mv)(l:List Mv):il a (m::l)=match ng a m with|none=>0|some b=>il b l+1:=rfl
def bY(l:List qD):List Mv:=l.map (·.m)
def xz(k n:Nat):Int:=if k=n then 0 else 4
theorem rW(b:Nat):∀(vs:List Value) (o:Nat) (w:World),(w.setCells b o vs).heap.size=w.heap.size
 | [],_,_=>rfl
 | v::r,o,w=>by rw[World.setCells,rW b r];simp[World.setCell]
theorem IR{cs:Array Value}{vs:List Value}(h:vs.length=cs.size):putL cs 0 vs=vs.toArray:=by
 apply Array.ext_getElem?;intro j;rw[fy]
 by_cases hj:j<vs.length
 ·rw[if_pos ⟨Nat.zero_le _,by omega,by omega⟩]
  simp
 ·rw[if_neg (λhh=>hj (by omega)),Array.getElem?_eq_none (by omega)]
  simp;omega
theorem zJ{W W0:World}{b:Nat}{z:Array Value}{l:List Value}(hb:aj W b 44 z)(hz:z.size=20)(hl:l.length=20)(h1:∀u∈l,u.oneCell'=true)(hf:aa ag W0 W)(hb0:W0.heap.size≤b)(x y:Operand)
  (hgd:op.guard=none) (ho:op.op=.store 44 x y) (hx:ac.eval x=O (some ⟨b,0,none⟩)) (hy:ac.eval y=.agg l.toArray)
  (hk:∀W',aa ag W0 W'→aj W' b 44 l.toArray→W'.heap.size=W.heap.size→wpList pQ ops Q rest (ac.put op.dst undef) W'):wpList pQ ops Q (op::rest) ac W:=
 wpList_store_mid hgd 44 x y ho b 0 l.toArray hx hy (λj hj=>by
   have J3:j<20:=by simpa [hl] using hj
   rw[Nat.zero_add];refine⟨?_,hb.frozen j⟩;rw[hb.cell,Array.getElem?_eq_getElem (by omega)];rfl) (by simp only[List.size_toArray];rw[hl];exact DX) (all_oneCell_toArray h1)
  (hk _ (hf.next (aa.setCells (F:=(·=b)) (g:=b) l 0 (aa.refl _ _) (.inl rfl)) λk hk=>.inr (by subst hk;exact hb0)) (by
   have q:=hb.putL l 0;rw[IR (by rw[hl,hz])] at q;exact q) (rW b l 0 W))
theorem pY{l:List qD}(hv:qJ w G (A,c) l)(hn:l.length≤512):
  Calls pQ 9 #[U A l.length c] w λe w'=>e=.returned (.tuple #[I J (il pK (bY l)),I J (xz (il pK (bY l)) l.length)])∧aa ag w w':=by
 obtain⟨n,d9⟩:∃n,l.length=n:=⟨_,rfl⟩;have HL:=h_ d9;have HV:=h_ hv;obtain⟨q0,Lz⟩:∃q0,il pK (bY l)=q0:=⟨_,rfl⟩;have HQ:=h_ Lz;rw[d9] at hn ⊢;rw[Lz];clear hv d9 Lz;have MA:¬512<n:=by omega
 have HS:Hid (dZ ((w.alloc (.cells #[I J 1,I J 0,I J 0] 68)).alloc (.cells #[U none 0 0,I J 0,U (some ⟨w.heap.size,0,none⟩) 1 1] 71)) (w.heap.size+1) (λk=>w.heap.size≤k∧¬k=w.heap.size+1) none 0 (some ⟨w.heap.size,0,none⟩) 1 pK):=by
  have hb:=aj.new (w.alloc (.cells #[I J 1,I J 0,I J 0] 68)) 71 #[U none 0 0,I J 0,U (some ⟨w.heap.size,0,none⟩) 1 1];rw[show (w.alloc (.cells #[I J 1,I J 0,I J 0] 68)).heap.size=w.heap.size+1 by simp] at hb;have hl:=(aI.lit (s:=3) 68 (fR w) 1 [I J 1,I J 0,I J 0] rfl (by unfold maxLen;omega)).sl.cOld;refine⟨hb,aF.none_ _ _ _,?_,λk hk=>hk.2,λe he=>by cases he⟩;have q:=(hl.nix ((fR _).alloc (.cells #[U none 0 0,I J 0,U (some ⟨w.heap.size,0,none⟩) 1 1] 71))).mono (G':=(λk=>w.heap.size≤k∧¬k=w.heap.size+1)) λk hk=>⟨hk.1,by have:=hk.2;simp at this;omega⟩
  exact q
 go_enter Tryz.func9,Tryz.ntmps9;go_wp2
 go_loopw [16] (λkv wr=>∃i:Nat,i≤n∧kv=I J i∧∃a Aa ca Aw cw,lz a∧a.all.length≤i∧il pK (bY l)=i+il a ((bY l).drop i)∧dZ wr (w.heap.size+1) (λk=>w.heap.size≤k∧¬k=w.heap.size+1) Aa ca Aw cw a∧aa ag w wr) (λkv _=>n-(intOf kv).toNat)
 case atStart=>exact⟨0,by omega,rfl,pK,none,0,_,1,IC,by simp[pK],by simp,HS.out,((fR w).alloc _).alloc _⟩
 case round=>
  obtain⟨i,hi,rfl,a,Aa,ca,Aw,cw,bO,GL,hch,hat,hf⟩:=hrel;have HA:=h_ hat;have HF:=h_ hf;have HC:=h_ hch;have HO:=h_ (And.intro bO GL);clear bO GL hch hat hf
  by_cases hlt:i<n
  ·have IU:i<l.length:=by rw[HL.out];exact hlt
   obtain⟨bb,off,hAe,-,hbl,hcell⟩:=(HV.out.sl.nix HF.out).at_ qD.clen (by decide) (by omega);dsimp only at hAe;subst hAe;have h20:=h_ (hcell i IU);have FZ:=(HV.out.mv l[i] (List.getElem_mem IU)).nix HF.out;have hnu:=HV.out.num l[i] (List.getElem_mem IU)
   have hdr:(bY l).drop i=(l[i]).m::(bY l).drop (i+1):=by
    have h1:i<(bY l).length:=by simpa [bY] using IU
    rw[List.drop_eq_getElem_cons h1];simp[bY]
   have hch2:=HC.out;rw[hdr,yw] at hch2;obtain⟨d,hd⟩:∃d,l[i]=d:=⟨_,rfl⟩;rw[hd] at h20 FZ hnu hch2;have HCe:Hid (∀(j:Nat) (v:Value),d.cells[j]? =some v→wr.cell? ⟨bb,off+i * 20+j,none⟩=some v):=h20;clear h20;have vJ:w.heap.size+1<wr.heap.size:=HA.out.blk.lt;have KS:Hid (∀W,aa ag wr W→Calls pQ 27 #[O (some ⟨w.heap.size+1,0,none⟩),.agg #[I J d.m.kind,I J d.m.ev.kind,I J d.m.ev.a,I J d.m.ev.b,I J d.m.ev.n,V d.m.ev.s,V d.m.ev.t,V d.m.ev.u,I J d.m.err,I J d.m.last,I J d.m.snap,I J d.m.st.clock,U d.fo.1 d.m.st.fols.length d.fo.2,U d.fe.1 d.m.st.fees.length d.fe.2,U d.it.1 d.m.st.itms.length d.it.2,U d.se.1 d.m.st.seas.length d.se.2,I J d.m.st.tFol,I J d.m.st.tFee,I J d.m.st.tItm,I J d.m.st.tSea]] W (bi W (w.heap.size+1) (λk=>w.heap.size≤k∧¬k=w.heap.size+1) (ng a d.m))):=λW hW=>F2 (HA.out.nix hW) HO.out.1 (FZ.nix hW) (by have:=HO.out.2;omega) (λk hk=>⟨by have:=HF.out.size;have:=hW.size;omega,by have:=hW.size;omega⟩) hnu.1 hnu.2
   have HOne:Hid (∀u∈d.cells,u.oneCell'=true):=λu hu=>by
    simp[qD.cells] at hu;rcases hu with rfl|rfl|rfl|rfl|rfl|rfl|rfl|rfl|rfl|rfl|rfl|rfl|rfl|rfl|rfl|rfl|rfl|rfl|rfl|rfl<;>rfl
   clear hcell hd FZ hnu hdr
   cases hs:ng a d.m with
   | none=>
     rw[hs] at KS hch2;simp only[Nat.add_zero] at hch2;have uw:Hid (q0=i):=by unfold Hid;rw[←HQ.out];exact hch2
     have HH:=h_ hs;clear hs hch2;go_wp2_with (first|(refine zI (l:=d.cells) HCe.out rfl _ rfl rfl rfl ?_)|(refine zJ (W0:=wr) (l:=d.cells) (aj.new wr _ _) rfl rfl HOne.out ((fR wr).alloc _) (Nat.le_refl _) _ _ rfl rfl rfl rfl ?_;intro W2 hf2 hb2 hs2;have HW2:=h_ hf2;have im:=h_ hb2;clear hf2 hb2 hs2)|(refine bj (l:=d.cells) im.out rfl _ rfl rfl rfl ?_)|(go_at_call 27;refine(KS.out _ HW2.out).mono ?_;rintro e w2 ⟨rfl,hf,-⟩;have kX:=h_ hf;clear hf)|fail)
     go_ret2
     exact⟨by rw[uw.out,show xz i n=4 from if_neg (by omega)];rfl,HF.out.next (HW2.out.nix.next kX.out λk hk=>.inl hk) λk hk=>.inr (by omega)⟩
   | some b=>
     have NB:=BV HO.out.1 hs;have O3:=yo hs;rw[hs] at KS hch2;have uw:Hid (il pK (bY l)=(i+1)+il b ((bY l).drop (i+1))):=by unfold Hid;rw[hch2];simp only;omega
     have HB:=h_ (And.intro NB O3);have HH:=h_ hs;clear hs hch2 NB O3;go_wp2_with (first|(refine zI (l:=d.cells) HCe.out rfl _ rfl rfl rfl ?_)|(refine zJ (W0:=wr) (l:=d.cells) (aj.new wr _ _) rfl rfl HOne.out ((fR wr).alloc _) (Nat.le_refl _) _ _ rfl rfl rfl rfl ?_;intro W2 hf2 hb2 hs2;have HW2:=h_ hf2;have im:=h_ hb2;clear hf2 hb2 hs2)|(refine bj (l:=d.cells) im.out rfl _ rfl rfl rfl ?_)|(go_at_call 27;refine(KS.out _ HW2.out).mono ?_;rintro e w2 ⟨rfl,hf,hx⟩;have kX:=h_ hf;have Ny:=h_ hx;clear hf hx)|fail);go_roundw
     case rel=>
      obtain⟨Aa2,ca2,Aw2,cw2,hat2⟩:=Ny.out b rfl;exact⟨i+1,by omega,by go_num,b,Aa2,ca2,Aw2,cw2,HB.out.1,by have:=HB.out.2;have:=HO.out.2;omega,uw.out,hat2,HF.out.next (HW2.out.nix.next kX.out λk hk=>.inl hk) λk hk=>.inr (by omega)⟩
     case measure=>simp[intOf];omega
  ·obtain rfl:i=n:=by omega
   have uw:Hid (q0=i):=by
    unfold Hid;rw[←HQ.out,HC.out];have:(bY l).drop i=[]:=List.drop_eq_nil_of_le (by simp[bY,HL.out]);rw[this];rfl
   go_wp2
   go_ret2
   exact⟨by rw[uw.out,show xz i i=0 from if_pos rfl];rfl,HF.out⟩
theorem DZ{n c:Nat}(hn:(512:Int)<(n:Int)):
  Calls pQ 9 #[U A n c] w λe w'=>e=.returned (.tuple #[I J 0,I J 3])∧aa ag w w':=by
 go_enter Tryz.func9,Tryz.ntmps9;go_wp2
 go_ret2
 exact⟨rfl,aa.refl _ _⟩
theorem zK{l:List qD}(hv:qJ w G (A,c) l)(hn:l.length≤512):
  Calls pQ 11 #[U A l.length c] w λe w'=>e=.returned (.bool (decide (il pK (bY l)=l.length)))∧aa ag w w':=by
 have KC:Hid (∀W,aa ag w W→Calls pQ 9 #[U A l.length c] W λe w'=>e=.returned (.tuple #[I J (il pK (bY l)),I J (xz (il pK (bY l)) l.length)])∧aa ag W w'):=λW hW=>pY (hv.nix hW) hn
 have HE:Hid ((xz (il pK (bY l)) l.length==0)=decide (il pK (bY l)=l.length)):=by
  unfold Hid xz;split<;>simp[*]
 rw[←HE.out];generalize xz (il pK (bY l)) l.length=er at *;generalize il pK (bY l)=k at *;generalize l.length=n at *;clear hv hn HE;go_enter Tryz.func11,Tryz.ntmps11;go_wp2_with (go_at_call 9;refine(KC.out _ (fR w)).mono ?_;rintro e w1 ⟨rfl,hf⟩;have Y1:=h_ hf;clear hf);go_ret;exact⟨rfl,Y1.out⟩
def mf(m:Mv):Bool:=qo m.ev||lw m.st
def mP(l:List Mv):Bool:=decide (100<l.length)||l.any mf
structure pI(w:World)(G:Nat→Prop)(v:Sl)(l:List qD):Prop where
 sl:aF w G 20 v l.length (l.flatMap qD.cells)
 st:∀d∈l,aY w G d.fo d.fe d.it d.se d.ts d.m.st
 num:∀d∈l,bn d.m.ev.a∧bn d.m.ev.b
theorem pI.nix{v:Sl}{l:List qD}(h:pI w G v l)(hf:aa ag w w1):pI w1 G v l:=⟨h.sl.nix hf,λd hd=>(h.st d hd).nix hf,h.num⟩
theorem uM{l:List Mv}(h:mP l=false):l.length≤100∧∀m∈l,lw m.st=false:=by
 unfold mP at h;simp only[Bool.or_eq_false_iff,decide_eq_false_iff_not] at h;refine⟨by omega,λm hm=>?_⟩;have:=List.any_eq_false.1 h.2 m hm;simp only[Bool.not_eq_true] at this;unfold mf at this;simp only[Bool.or_eq_false_iff] at this;exact this.2
theorem pI.small{v:Sl}{l:List qD}(h:pI w G v l)(hl:mP (bY l)=false):qJ w G v l:=
 ⟨h.sl,λd hd=>⟨h.st d hd,BS ((uM hl).2 d.m (List.mem_map.2 ⟨d,hd,rfl⟩))⟩,h.num⟩
theorem B0{l:List Mv}{k:Nat}(h:k<l.length)(h2:mf l[k]=true):l.any mf=true:=List.any_eq_true.2 ⟨_,List.getElem_mem h,h2⟩
theorem xA{l:List Mv}{k:Nat}(h:k<l.length)(h1:(l.take k).any mf=false)(h2:mf l[k]=false):(l.take (k+1)).any mf=false:=by
 rw[List.take_succ_eq_append_getElem h,List.any_append,h1,Bool.false_or];simp[h2]
theorem zL{l:List qD}(hv:pI w G (A,c) l):
  Calls pQ 7 #[U A l.length c] w λe w'=>e=.returned (.bool (mP (bY l)))∧aa ag w w':=by
 obtain⟨n,d9⟩:∃n,l.length=n:=⟨_,rfl⟩;have HL:=h_ d9;have hmx:n≤maxLen:=by have:=hv.sl.cap;have:=hv.sl.max;rw[←d9];omega
 rw[Q7] at hmx;have HV:=h_ hv;obtain⟨r,hr⟩:∃r,mP (bY l)=r:=⟨_,rfl⟩
 have HE:Hid (r=(decide (100<n)||(bY l).any mf)):=by
  unfold Hid;rw[←hr];unfold mP bY;rw[List.length_map,d9]
 rw[d9,hr];clear hv d9 hr
 by_cases h100:100<n
 ·have h2:(100:Int)<(n:Int):=by omega
  go_enter Tryz.func7,Tryz.ntmps7;go_wp2;go_ret;exact⟨af (by rw[HE.out];simp[h100]),aa.refl _ _⟩
 have h2:¬(100:Int)<(n:Int):=by omega
 go_enter Tryz.func7,Tryz.ntmps7;go_wp2
 go_loopw [3] (λkv wr=>∃k:Nat,k≤n∧kv=I J k∧((bY l).take k).any mf=false∧aa ag w wr) (λkv _=>n-(intOf kv).toNat)
 case atStart=>exact⟨0,by omega,rfl,by simp,aa.refl _ _⟩
 case round=>
  obtain⟨k,hk,rfl,ht,hf⟩:=hrel;have HT:=h_ ht;have HF:=h_ hf;clear ht hf
  by_cases hlt:k<n
  ·have cQ:k<l.length:=by rw[HL.out];exact hlt
   have Rx:k<(bY l).length:=by simpa [bY] using cQ
   obtain⟨b,off,hA,-,hbl,hcell⟩:=(HV.out.sl.nix HF.out).at_ qD.clen (by decide) (by omega);dsimp only at hA;subst hA;have h20:=O2 (w:=wr) (b:=b) (off:=off+k * 20) (d:=l[k]) (hcell k cQ);have hmk:(bY l)[k]'Rx=(l[k]).m:=by simp[bY]
   have uZ:=h_ (λh=>B0 Rx h);have yc:=h_ (λh=>xA Rx HT.out h);have hst:=HV.out.st l[k] (List.getElem_mem cQ);rw[hmk] at uZ yc;obtain⟨d,hd⟩:∃d,l[k]=d:=⟨_,rfl⟩;rw[hd] at h20 uZ yc hst;obtain⟨x0,x1,x2,x3,x4,x5,x6,x7,x8,x9,x10,x11,x12,x13,x14,x15,x16,x17,x18,x19⟩:=h20;have KE:Hid (∀W,Calls pQ 26 #[.agg #[I J d.m.ev.kind,I J d.m.ev.a,I J d.m.ev.b,I J d.m.ev.n,V d.m.ev.s,V d.m.ev.t,V d.m.ev.u]] W λr w'=>r=.returned (.bool (qo d.m.ev))∧aa ag W w'):=λW=>CW d.m.ev W
   have KS:Hid (∀W,aa ag w W→Calls pQ 13 #[.agg #[I J d.m.st.clock,U d.fo.1 d.m.st.fols.length d.fo.2,U d.fe.1 d.m.st.fees.length d.fe.2,U d.it.1 d.m.st.itms.length d.it.2,U d.se.1 d.m.st.seas.length d.se.2,I J d.m.st.tFol,I J d.m.st.tFee,I J d.m.st.tItm,I J d.m.st.tSea]] W λr w'=>r=.returned (.bool (lw d.m.st))∧aa ag W w'):=λW hW=>zE (hst.nix hW)
   have HMv:Hid (mf d.m=(qo d.m.ev||lw d.m.st)):=rfl;have HC9:Hid (∀W,aa ag wr W→W.cell? ⟨b,off+k * 20+11,none⟩=some (I J d.m.st.clock)∧W.cell? ⟨b,off+k * 20+11+1,none⟩=some (U d.fo.1 d.m.st.fols.length d.fo.2)∧W.cell? ⟨b,off+k * 20+11+2,none⟩=some (U d.fe.1 d.m.st.fees.length d.fe.2)∧W.cell? ⟨b,off+k * 20+11+3,none⟩=some (U d.it.1 d.m.st.itms.length d.it.2)∧W.cell? ⟨b,off+k * 20+11+4,none⟩=some (U d.se.1 d.m.st.seas.length d.se.2)∧W.cell? ⟨b,off+k * 20+11+5,none⟩=some (I J d.m.st.tFol)∧W.cell? ⟨b,off+k * 20+11+6,none⟩=some (I J d.m.st.tFee)∧W.cell? ⟨b,off+k * 20+11+7,none⟩=some (I J d.m.st.tItm)∧W.cell? ⟨b,off+k * 20+11+8,none⟩=some (I J d.m.st.tSea)):=λW hW=>⟨(hW.cell (p:=⟨b,off+k * 20+11,none⟩) hbl id).trans x11,(hW.cell (p:=⟨b,off+k * 20+12,none⟩) hbl id).trans x12,(hW.cell (p:=⟨b,off+k * 20+13,none⟩) hbl id).trans x13,(hW.cell (p:=⟨b,off+k * 20+14,none⟩) hbl id).trans x14,(hW.cell (p:=⟨b,off+k * 20+15,none⟩) hbl id).trans x15,(hW.cell (p:=⟨b,off+k * 20+16,none⟩) hbl id).trans x16,(hW.cell (p:=⟨b,off+k * 20+17,none⟩) hbl id).trans x17,(hW.cell (p:=⟨b,off+k * 20+18,none⟩) hbl id).trans x18,(hW.cell (p:=⟨b,off+k * 20+19,none⟩) hbl id).trans x19⟩
   clear hcell hd hmk hst;generalize qo d.m.ev=b1 at *;generalize lw d.m.st=b2 at *
   cases b1 with
   | true=>
     have HY:=h_ (uZ.out (by rw[HMv.out];rfl));go_wp2_with (first|(go_at_call 26;refine(KE.out _).mono ?_;rintro r w2 ⟨rfl,hf2⟩;have kX:Hid (aa ag w w2):=HF.out.trans hf2;obtain⟨y0,y1,y2,y3,y4,y5,y6,y7,y8⟩:=HC9.out w2 hf2;clear hf2)|(go_at_call 13;refine(KS.out _ kX.out).mono ?_;rintro r w3 ⟨rfl,hf3⟩;have Hh:Hid (aa ag w w3):=kX.out.trans hf3;clear hf3)|fail);go_ret
     exact⟨af (by rw[HE.out,HY.out];simp),kX.out⟩
   | false=>
   cases b2 with
   | true=>
     have HY:=h_ (uZ.out (by rw[HMv.out];rfl));go_wp2_with (first|(go_at_call 26;refine(KE.out _).mono ?_;rintro r w2 ⟨rfl,hf2⟩;have kX:Hid (aa ag w w2):=HF.out.trans hf2;obtain⟨y0,y1,y2,y3,y4,y5,y6,y7,y8⟩:=HC9.out w2 hf2;clear hf2)|(go_at_call 13;refine(KS.out _ kX.out).mono ?_;rintro r w3 ⟨rfl,hf3⟩;have Hh:Hid (aa ag w w3):=kX.out.trans hf3;clear hf3)|fail);go_ret
     exact⟨af (by rw[HE.out,HY.out];simp),Hh.out⟩
   | false=>
     have HY:=h_ (yc.out (by rw[HMv.out];rfl));go_wp2_with (first|(go_at_call 26;refine(KE.out _).mono ?_;rintro r w2 ⟨rfl,hf2⟩;have kX:Hid (aa ag w w2):=HF.out.trans hf2;obtain⟨y0,y1,y2,y3,y4,y5,y6,y7,y8⟩:=HC9.out w2 hf2;clear hf2)|(go_at_call 13;refine(KS.out _ kX.out).mono ?_;rintro r w3 ⟨rfl,hf3⟩;have Hh:Hid (aa ag w w3):=kX.out.trans hf3;clear hf3)|fail);go_roundw
     case rel=>exact⟨k+1,by omega,by go_num,HY.out,Hh.out⟩
     case measure=>simp[intOf];omega
  ·obtain rfl:k=n:=by omega
   have za:Hid ((bY l).any mf=false):=by
    have:=HT.out;rw[List.take_of_length_le (by simp[bY,HL.out])] at this;exact this
   go_wp2;go_ret;exact⟨af (by rw[HE.out,za.out];simp;omega),HF.out⟩
def F5:Ev:=⟨3,1,0,0,⟨#[117]⟩,⟨#[]⟩,⟨#[]⟩⟩
def PW:St:=⟨0,[],[⟨1,0,⟨#[117]⟩,⟨#[]⟩⟩],[],[],0,1,0,0⟩
def xB(k:Int)(e:Ev)(er la:Int):qD:=⟨(none,0),(none,0),(none,0),(none,0),[],⟨k,e,er,la,0,iV⟩⟩
def PX(fb:Nat):qD:=⟨(none,0),(some ⟨fb,0,none⟩,1),(none,0),(none,0),[],⟨4,mh,0,1,0,PW⟩⟩
theorem UA:il pK [⟨1,F5,0,1,0,iV⟩,⟨2,mh,0,0,0,iV⟩,⟨4,mh,0,0,0,iV⟩]=2:=by decide+kernel
theorem UB:il pK [⟨1,F5,0,1,0,iV⟩,⟨4,mh,0,0,0,iV⟩]=2:=by decide+kernel
theorem UC:il pK [⟨1,F5,30,0,0,iV⟩,⟨2,mh,6,0,0,iV⟩,⟨4,mh,0,1,0,PW⟩,⟨3,mh,0,0,0,iV⟩,⟨3,mh,1,0,0,iV⟩]=5:=by decide+kernel
theorem UD:il pK [⟨0,mh,0,0,0,iV⟩]=0:=by decide+kernel
theorem zM{W:World}(l:List qD)(hl:l.length≤512)(hm:∀d∈l,jE W (λ_=>True) d.fo d.fe d.it d.se d.ts d.m)(hn:∀d∈l,bn d.m.ev.a∧bn d.m.ev.b):qJ (W.alloc (.cells (l.flatMap qD.cells).toArray 44)) (λ_=>True) (some ⟨W.heap.size,0,none⟩,l.length) l:=by
 have q:=(aI.lit (s:=20) 44 (fR W) l.length (l.flatMap qD.cells) (pO qD.clen l) (by unfold maxLen;omega)).sl;exact⟨q.mono λ_ _=>trivial,λd hd=>(hm d hd).nix ((fR W).alloc _),hn⟩
theorem pJ(W:World)(k:Int)(e:Ev)(er la:Int):jE W (λ_=>True) (none,0) (none,0) (none,0) (none,0) [] (xB k e er la).m:=⟨aY.zero W _,DM⟩
theorem F6:aP PW:=⟨by decide,by decide,by decide,by decide,λt ht=>by cases ht⟩
theorem Na{W:World}(h:aj W fb 64 #[I J 1,I J 0,V ⟨#[117]⟩,V ⟨#[]⟩]):jE W (λ_=>True) (none,0) (some ⟨fb,0,none⟩,1) (none,0) (none,0) [] (PX fb).m:=by
 have z:=aY.zero W (λ_=>True);refine⟨⟨z.fols,⟨⟨rfl,λ_=>⟨_,rfl,trivial,h.lt,λj u hu=>?_⟩⟩,(λe=>by cases e),Nat.le_refl _,by show 1≤maxLen;unfold maxLen;omega⟩,z.itms,z.same,z.seas⟩,F6⟩;rw[Addr.add_lit,Nat.zero_add,h.cell]
 simpa [PX,PW,aX.cells] using hu
theorem Nb:bn F5.a∧bn F5.b:=⟨by unfold bn F5;decide,by unfold bn F5;decide⟩
theorem B4:bn mh.a∧bn mh.b:=⟨by unfold bn mh;decide,by unfold bn mh;decide⟩
theorem UE{W:World}(q:Nat)(hq:W.heap.size=q):Calls pQ 9 #[U (some ⟨q,0,none⟩) 3 3] (W.alloc (.cells #[I J 1,I J 3,I J 1,I J 0,I J 0,V ⟨#[117]⟩,V ⟨#[]⟩,V ⟨#[]⟩,I J 0,I J 1,I J 0,I J 0,U none 0 0,U none 0 0,U none 0 0,U none 0 0,I J 0,I J 0,I J 0,I J 0,I J 2,I J 0,I J 0,I J 0,I J 0,V ⟨#[]⟩,V ⟨#[]⟩,V ⟨#[]⟩,I J 0,I J 0,I J 0,I J 0,U none 0 0,U none 0 0,U none 0 0,U none 0 0,I J 0,I J 0,I J 0,I J 0,I J 4,I J 0,I J 0,I J 0,I J 0,V ⟨#[]⟩,V ⟨#[]⟩,V ⟨#[]⟩,I J 0,I J 0,I J 0,I J 0,U none 0 0,U none 0 0,U none 0 0,U none 0 0,I J 0,I J 0,I J 0,I J 0] 44)) λe w'=>e=.returned (.tuple #[I J 2,I J 4])∧aa ag W w':=by
 subst hq
 have h1:=zM (W:=W) [xB 1 F5 0 1,xB 2 mh 0 0,xB 4 mh 0 0] (by simp) (λd hd=>by
  simp only[List.mem_cons,List.not_mem_nil,or_false] at hd;rcases hd with rfl|rfl|rfl
  ·exact pJ _ _ _ _ _
  ·exact pJ _ _ _ _ _
  ·exact pJ _ _ _ _ _) (λd hd=>by
  simp only[List.mem_cons,List.not_mem_nil,or_false] at hd;rcases hd with rfl|rfl|rfl
  ·exact Nb
  ·exact B4
  ·exact B4)
 have q:=pY h1 (by simp);have e1:il pK (bY [xB 1 F5 0 1,xB 2 mh 0 0,xB 4 mh 0 0])=2:=UA;rw[e1] at q;exact q.mono λe w' hq=>⟨hq.1,((fR W).alloc _).trans hq.2⟩
theorem UF{W:World}(q:Nat)(hq:W.heap.size=q):Calls pQ 9 #[U (some ⟨q,0,none⟩) 2 2] (W.alloc (.cells #[I J 1,I J 3,I J 1,I J 0,I J 0,V ⟨#[117]⟩,V ⟨#[]⟩,V ⟨#[]⟩,I J 0,I J 1,I J 0,I J 0,U none 0 0,U none 0 0,U none 0 0,U none 0 0,I J 0,I J 0,I J 0,I J 0,I J 4,I J 0,I J 0,I J 0,I J 0,V ⟨#[]⟩,V ⟨#[]⟩,V ⟨#[]⟩,I J 0,I J 0,I J 0,I J 0,U none 0 0,U none 0 0,U none 0 0,U none 0 0,I J 0,I J 0,I J 0,I J 0] 44)) λe w'=>e=.returned (.tuple #[I J 2,I J 0])∧aa ag W w':=by
 subst hq
 have h1:=zM (W:=W) [xB 1 F5 0 1,xB 4 mh 0 0] (by simp) (λd hd=>by
  simp only[List.mem_cons,List.not_mem_nil,or_false] at hd;rcases hd with rfl|rfl
  ·exact pJ _ _ _ _ _
  ·exact pJ _ _ _ _ _) (λd hd=>by
  simp only[List.mem_cons,List.not_mem_nil,or_false] at hd;rcases hd with rfl|rfl
  ·exact Nb
  ·exact B4)
 have q:=pY h1 (by simp);have e1:il pK (bY [xB 1 F5 0 1,xB 4 mh 0 0])=2:=UB;rw[e1] at q;exact q.mono λe w' hq=>⟨hq.1,((fR W).alloc _).trans hq.2⟩
theorem UG{W:World}(q:Nat)(hq:W.heap.size=q)(hfb:aj W fb 64 #[I J 1,I J 0,V ⟨#[117]⟩,V ⟨#[]⟩]):Calls pQ 9 #[U (some ⟨q,0,none⟩) 5 5] (W.alloc (.cells #[I J 1,I J 3,I J 1,I J 0,I J 0,V ⟨#[117]⟩,V ⟨#[]⟩,V ⟨#[]⟩,I J 30,I J 0,I J 0,I J 0,U none 0 0,U none 0 0,U none 0 0,U none 0 0,I J 0,I J 0,I J 0,I J 0,I J 2,I J 0,I J 0,I J 0,I J 0,V ⟨#[]⟩,V ⟨#[]⟩,V ⟨#[]⟩,I J 6,I J 0,I J 0,I J 0,U none 0 0,U none 0 0,U none 0 0,U none 0 0,I J 0,I J 0,I J 0,I J 0,I J 4,I J 0,I J 0,I J 0,I J 0,V ⟨#[]⟩,V ⟨#[]⟩,V ⟨#[]⟩,I J 0,I J 1,I J 0,I J 0,U none 0 0,U (some ⟨fb,0,none⟩) 1 1,U none 0 0,U none 0 0,I J 0,I J 1,I J 0,I J 0,I J 3,I J 0,I J 0,I J 0,I J 0,V ⟨#[]⟩,V ⟨#[]⟩,V ⟨#[]⟩,I J 0,I J 0,I J 0,I J 0,U none 0 0,U none 0 0,U none 0 0,U none 0 0,I J 0,I J 0,I J 0,I J 0,I J 3,I J 0,I J 0,I J 0,I J 0,V ⟨#[]⟩,V ⟨#[]⟩,V ⟨#[]⟩,I J 1,I J 0,I J 0,I J 0,U none 0 0,U none 0 0,U none 0 0,U none 0 0,I J 0,I J 0,I J 0,I J 0] 44)) λe w'=>e=.returned (.tuple #[I J 5,I J 0])∧aa ag W w':=by
 subst hq
 have h1:=zM (W:=W) [xB 1 F5 30 0,xB 2 mh 6 0,PX fb,xB 3 mh 0 0,xB 3 mh 1 0] (by simp) (λd hd=>by
  simp only[List.mem_cons,List.not_mem_nil,or_false] at hd;rcases hd with rfl|rfl|rfl|rfl|rfl
  ·exact pJ _ _ _ _ _
  ·exact pJ _ _ _ _ _
  ·exact Na hfb
  ·exact pJ _ _ _ _ _
  ·exact pJ _ _ _ _ _) (λd hd=>by
  simp only[List.mem_cons,List.not_mem_nil,or_false] at hd;rcases hd with rfl|rfl|rfl|rfl|rfl
  ·exact Nb
  ·exact B4
  ·exact B4
  ·exact B4
  ·exact B4)
 have q:=pY h1 (by simp);have e1:il pK (bY [xB 1 F5 30 0,xB 2 mh 6 0,PX fb,xB 3 mh 0 0,xB 3 mh 1 0])=5:=UC;rw[e1] at q;exact q.mono λe w' hq=>⟨hq.1,((fR W).alloc _).trans hq.2⟩
theorem UH{W:World}(q:Nat)(hq:W.heap.size=q):Calls pQ 11 #[U (some ⟨q,0,none⟩) 1 1] (W.alloc (.cells #[I J 0,I J 0,I J 0,I J 0,I J 0,V ⟨#[]⟩,V ⟨#[]⟩,V ⟨#[]⟩,I J 0,I J 0,I J 0,I J 0,U none 0 0,U none 0 0,U none 0 0,U none 0 0,I J 0,I J 0,I J 0,I J 0] 44)) λe w'=>e=.returned (.bool false)∧aa ag W w':=by
 subst hq
 have h1:=zM (W:=W) [xB 0 mh 0 0] (by simp) (λd hd=>by
  simp only[List.mem_cons,List.not_mem_nil,or_false] at hd;rcases hd with rfl
  ·exact pJ _ _ _ _ _) (λd hd=>by
  simp only[List.mem_cons,List.not_mem_nil,or_false] at hd;rcases hd with rfl
  ·exact B4)
 have q:=zK h1 (by simp);have e1:il pK (bY [xB 0 mh 0 0])=0:=UD;rw[e1] at q;exact q.mono λe w' hq=>⟨hq.1,((fR W).alloc _).trans hq.2⟩
theorem UI{W:World}:Calls pQ 11 #[U none 0 0] W λe w'=>e=.returned (.bool true)∧aa ag W w':=
 zK (G:=λ_=>True) (l:=[]) ⟨aF.none_ _ _ _,(λd hd=>by cases hd),λd hd=>by cases hd⟩ (by decide)
theorem Nc{W W':World}{v va vb:Value}{t:TypeId}(hr:(Instr.makeSlice t va vb).run pQ W=.ok v W')(a b:Operand)(hgd:op.guard=none)(ho:op.op=.makeSlice t a b)(ha:ac.eval a=va)(hb:ac.eval b=vb)(hk:wpList pQ ops Q rest (ac.put op.dst v) W'):wpList pQ ops Q (op::rest) ac W:=
 wpList_plain hgd λ_ hK=>by
  unfold Oper.wp execOp;simp only[ho,ha,hb,Sem.run_bind,Sem.run_pure,Result.andThen_ok,hr];exact hK _ _ hk
theorem Nd:(pQ.info? 44).map (λi=>(i.zero.isSome,i.size,decide (i.bytes * 513≤281474976710656)))=some (true,20,true):=by kernel_rfl
theorem O4(W:World):∃W',(Instr.makeSlice 22 (I J 513) (I J 513)).run pQ W=.ok (U (some ⟨W.heap.size,0,none⟩) 513 513) W'∧aa ag W W':=by
 obtain⟨i,hi,hzz⟩:=Option.map_eq_some_iff.1 Nd;simp only[Prod.mk.injEq,decide_eq_true_eq] at hzz;obtain⟨z,hz⟩:=Option.isSome_iff_exists.1 hzz.1;obtain⟨W',h1,-,h3⟩:=run_makeSlice_full W W.heap.size 22 44 i z 20 Tryz.underlying22 hi hz hzz.2.1 .i64 .i64 513 (by decide) hzz.2.2 (by unfold maxLen;omega) (Nat.le_refl _);exact⟨W',h1,(fR W).grown h3 λk hk=>by cases hk⟩
theorem rr(w:World):Calls pQ 8 #[] w λe w'=>e=.returned (.bool true)∧aa ag w w':=by
 obtain⟨W2,hW2⟩:∃W2,W2=((w.alloc (.cells #[I J 3,I J 1,I J 0,I J 0,V ⟨#[117]⟩,V ⟨#[]⟩,V ⟨#[]⟩] 42)).alloc (.cells #[I J 1,I J 0,V ⟨#[117]⟩,V ⟨#[]⟩] 64)).alloc (.cells #[I J 0,U none 0 0,U (some ⟨(w.heap.size+1),0,none⟩) 1 1,U none 0 0,U none 0 0,I J 0,I J 1,I J 0,I J 0] 36):=⟨_,rfl⟩;have kX:Hid (aa ag w W2):=by unfold Hid;rw[hW2];exact(((fR w).alloc _).alloc _).alloc _
 have bT:Hid (aj W2 w.heap.size 42 #[I J 3,I J 1,I J 0,I J 0,V ⟨#[117]⟩,V ⟨#[]⟩,V ⟨#[]⟩]):=by unfold Hid;rw[hW2];exact((aj.new w _ _).alloc _).alloc _
 have im:Hid (aj W2 (w.heap.size+1) 64 #[I J 1,I J 0,V ⟨#[117]⟩,V ⟨#[]⟩]):=by
  unfold Hid;rw[hW2];have q:=aj.new (w.alloc (.cells #[I J 3,I J 1,I J 0,I J 0,V ⟨#[117]⟩,V ⟨#[]⟩,V ⟨#[]⟩] 42)) 64 #[I J 1,I J 0,V ⟨#[117]⟩,V ⟨#[]⟩];rw[show (w.alloc (.cells #[I J 3,I J 1,I J 0,I J 0,V ⟨#[117]⟩,V ⟨#[]⟩,V ⟨#[]⟩] 42)).heap.size=w.heap.size+1 by simp] at q;exact q.alloc _
 have og:Hid (aj W2 (w.heap.size+1+1) 36 #[I J 0,U none 0 0,U (some ⟨(w.heap.size+1),0,none⟩) 1 1,U none 0 0,U none 0 0,I J 0,I J 1,I J 0,I J 0]):=by
  unfold Hid;rw[hW2];have q:=aj.new ((w.alloc (.cells #[I J 3,I J 1,I J 0,I J 0,V ⟨#[117]⟩,V ⟨#[]⟩,V ⟨#[]⟩] 42)).alloc (.cells #[I J 1,I J 0,V ⟨#[117]⟩,V ⟨#[]⟩] 64)) 36 #[I J 0,U none 0 0,U (some ⟨(w.heap.size+1),0,none⟩) 1 1,U none 0 0,U none 0 0,I J 0,I J 1,I J 0,I J 0];rw[show ((w.alloc (.cells #[I J 3,I J 1,I J 0,I J 0,V ⟨#[117]⟩,V ⟨#[]⟩,V ⟨#[]⟩] 42)).alloc (.cells #[I J 1,I J 0,V ⟨#[117]⟩,V ⟨#[]⟩] 64)).heap.size=w.heap.size+1+1 by simp] at q;exact q
 have HW:=h_ hW2
 have HOn:Hid (∀u∈([I J 1,I J 3,I J 1,I J 0,I J 0,V ⟨#[117]⟩,V ⟨#[]⟩,V ⟨#[]⟩,I J 0,I J 1,I J 0,I J 0,U none 0 0,U none 0 0,U none 0 0,U none 0 0,I J 0,I J 0,I J 0,I J 0]:List Value),u.oneCell'=true):=λu hu=>by
  simp only[List.mem_cons,List.not_mem_nil,or_false] at hu;rcases hu with rfl|rfl|rfl|rfl|rfl|rfl|rfl|rfl|rfl|rfl|rfl|rfl|rfl|rfl|rfl|rfl|rfl|rfl|rfl|rfl<;>rfl
 clear hW2;go_enter Tryz.func8,Tryz.ntmps8;show Code.wp pQ (ai 0 (ae Tryz.f8)) _ _ _
 refine aC (k':=1) λK hK=>?_
 conv in aD _=>whnf
 go_wp2;refine aC (k':=2) λK hK=>?_
 conv in aD _=>whnf
 go_wp2;refine aC (k':=3) λK hK=>?_
 conv in aD _=>whnf
 go_wp2;rw[←HW.out];obtain⟨e0,e1,e2,e3,e4,e5,e6⟩:=az bT.out;refine aC (k':=4) λK hK=>?_
 conv in aD _=>whnf
 go_wp2_with (first|(refine zJ (W0:=W2) (l:=[I J 1,I J 3,I J 1,I J 0,I J 0,V ⟨#[117]⟩,V ⟨#[]⟩,V ⟨#[]⟩,I J 0,I J 1,I J 0,I J 0,U none 0 0,U none 0 0,U none 0 0,U none 0 0,I J 0,I J 0,I J 0,I J 0]) (aj.new W2 _ _) rfl rfl HOn.out ((fR W2).alloc _) (Nat.le_refl _) _ _ rfl rfl rfl rfl ?_;intro W3 hf3 hb3 hs3;have Hh:=h_ (kX.out.trans hf3);have kG:=h_ hb3;have bT:=h_ (bT.out.frm hf3 id);have im:=h_ (im.out.frm hf3 id);have og:=h_ (og.out.frm hf3 id);clear hf3 hb3 hs3)|fail);clear e0 e1 e2 e3 e4 e5 e6;refine aC (k':=5) λK hK=>?_
 conv in aD _=>whnf
 go_wp2_with (first|(refine bj (l:=[I J 1,I J 3,I J 1,I J 0,I J 0,V ⟨#[117]⟩,V ⟨#[]⟩,V ⟨#[]⟩,I J 0,I J 1,I J 0,I J 0,U none 0 0,U none 0 0,U none 0 0,U none 0 0,I J 0,I J 0,I J 0,I J 0]) (kG.out) rfl _ rfl rfl rfl ?_)|(go_at_call 9;refine(UE _ (by simp)).mono ?_;rintro e w4 ⟨rfl,hf⟩;have W4:Hid (aa ag W3 w4):=hf;clear hf)|fail);refine aC (k':=6) λK hK=>?_
 conv in aD _=>whnf
 go_wp2_with (first|(refine bj (l:=[I J 1,I J 3,I J 1,I J 0,I J 0,V ⟨#[117]⟩,V ⟨#[]⟩,V ⟨#[]⟩,I J 0,I J 1,I J 0,I J 0,U none 0 0,U none 0 0,U none 0 0,U none 0 0,I J 0,I J 0,I J 0,I J 0]) (kG.out.frm W4.out id) rfl _ rfl rfl rfl ?_)|(go_at_call 9;refine(UF _ (by simp)).mono ?_;rintro e w5 ⟨rfl,hf⟩;have W5:Hid (aa ag W3 w5):=W4.out.trans hf;clear hf)|fail);obtain⟨e0,e1,e2,e3,e4,e5,e6⟩:=az (bT.out.frm W5.out id);obtain⟨x0,x1,x2,x3,x4,x5,x6,x7,x8⟩:=aA (og.out.frm W5.out id);refine aC (k':=7) λK hK=>?_
 conv in aD _=>whnf
 go_wp2_with (first|(go_at_call 9;refine(UG _ (by simp) (im.out.frm W5.out id)).mono ?_;rintro e w6 ⟨rfl,hf⟩;have W6:Hid (aa ag W3 w6):=W5.out.trans hf;clear hf)|fail);clear e0 e1 e2 e3 e4 e5 e6 x0 x1 x2 x3 x4 x5 x6 x7 x8;obtain⟨w6m,hmk,uV⟩:=O4 w6;have pw:=h_ hmk;have W6m:Hid (aa ag W3 w6m):=W6.out.trans uV;clear hmk uV;refine aC (k':=8) λK hK=>?_
 conv in aD _=>whnf
 go_wp2_with (first|(refine Nc pw.out _ _ rfl rfl rfl rfl ?_)|(go_at_call 9;refine(DZ (by decide)).mono ?_;rintro e w7 ⟨rfl,hf⟩;have W7:Hid (aa ag W3 w7):=W6m.out.trans hf;clear hf)|fail);refine aC (k':=9) λK hK=>?_
 conv in aD _=>whnf
 go_wp2_with (first|(go_at_call 11;((with_reducible refine(UH _ (by simp)).mono ?_);rintro e w9 ⟨rfl,hf⟩);have W9:Hid (aa ag W3 w9):=W8.out.trans hf;clear hf)|(go_at_call 11;((with_reducible refine UI.mono ?_);rintro e w8 ⟨rfl,hf⟩);have W8:Hid (aa ag W3 w8):=W7.out.trans hf;clear hf)|fail);simp only[ai,ae,Tryz.f8];go_wp2;go_ret;exact⟨rfl,Hh.out.trans W9.out⟩
section
section
variable {H:Type} {enc:TypeId×Value→H} {W:World} {base:Nat} {sp:Nat→Bool} {held:Bool} {fuel:Nat} {cs:List Value} {x:DataW H×List MemPlace}
theorem tL{n i off s t:Nat}{f:Field}{xs:List (DataW H×List MemPlace)}{fs:Array Field}(hg:∀(i:Nat) (f:Field),fs[i]? =some f→DataW.trod enc pQ W base sp held n f.type ((cs.drop f.offset).take (pQ.cellsOf f.type))=xs[i]?)(mg:xs.length=fs.size)
  (hi:fs[i]? =some f) (ht:f.type=t) (h1:pQ.cellsOf t=s) (ho:f.offset=off) {l:List Value} (hv:(cs.drop off).take s=l):∃y,DataW.trod enc pQ W base sp held n t l=some y:=by
 have h:=hg i f hi;rw[ht,h1,ho,hv] at h;have hlt:i<xs.length:=by rw[mg];exact(Array.getElem?_eq_some_iff.1 hi).1
 exact⟨xs[i],by rw[h,List.getElem?_eq_getElem hlt]⟩
theorem Nf{α:Type}{l:List α}(h:l.length=20):∃c0 c1 c2 c3 c4 c5 c6 c7 c8 c9 c10 c11 c12 c13 c14 c15 c16 c17 c18 c19,l=[c0,c1,c2,c3,c4,c5,c6,c7,c8,c9,c10,c11,c12,c13,c14,c15,c16,c17,c18,c19]:=by
 match l,h with
 | [c0,c1,c2,c3,c4,c5,c6,c7,c8,c9,c10,c11,c12,c13,c14,c15,c16,c17,c18,c19],_=>exact⟨c0,c1,c2,c3,c4,c5,c6,c7,c8,c9,c10,c11,c12,c13,c14,c15,c16,c17,c18,c19,rfl⟩
structure Ry(W:World)(d:qD):Prop where
 st:aY W (rL W) d.fo d.fe d.it d.se d.ts d.m.st
 num:bn d.m.ev.a∧bn d.m.ev.b
theorem Ku:pQ.cellsOf 25=1:=by kernel_rfl
theorem Rz(h:DataW.trod enc pQ W base sp held fuel 25 cs=some x):∃n,cs=[I J n]:=by
 obtain⟨n,h1,-⟩:=DataW.trod_int Tryz.underlying25 h;exact⟨n,h1⟩
theorem UJ(h:DataW.trod enc pQ W base sp held fuel 44 cs=some x):∃d:qD,cs=d.cells∧Ry W d:=by
 have hC:pQ.cellsOf 44=20:=by kernel_rfl
 obtain⟨xs,n,-,-,hlen,mg,hg⟩:=DataW.trod_struct Tryz.underlying44 h;rw[hC] at hlen;obtain⟨c0,c1,c2,c3,c4,c5,c6,c7,c8,c9,c10,c11,c12,c13,c14,c15,c16,c17,c18,c19,rfl⟩:=Nf hlen;obtain⟨y0,h0⟩:=aZ (i:=0) hg mg rfl rfl dV rfl rfl;obtain⟨y1,h1⟩:=tL (i:=1) (s:=7) hg mg rfl rfl (by kernel_rfl) rfl rfl;obtain⟨y2,h2⟩:=tL (i:=2) (s:=1) hg mg rfl rfl Ku rfl rfl;obtain⟨y3,h3⟩:=tL (i:=3) (s:=1) hg mg rfl rfl dV rfl rfl;obtain⟨y4,h4⟩:=tL (i:=4) (s:=1) hg mg rfl rfl dV rfl rfl;obtain⟨y5,h5⟩:=tL (i:=5) (s:=9) hg mg rfl rfl (by kernel_rfl) rfl rfl;obtain⟨k,e0,w0⟩:=pU h0;obtain⟨ev,e1,w1⟩:=Ud h1;obtain⟨er,e2⟩:=Rz h2;obtain⟨la,e3,w3⟩:=pU h3;obtain⟨sn,e4,w4⟩:=pU h4;obtain⟨fo,fe,it,se,ts,s,e5,w5⟩:=Ue h5;refine⟨⟨fo,fe,it,se,ts,⟨k,ev,er,la,sn,s⟩⟩,?_,⟨w5.st,⟨w1.a,w1.b⟩⟩⟩;unfold cC at e5;injection e5 with e5;have e6:=congrArg Array.toList e5;have Ls:[c1,c2,c3,c4,c5,c6,c7]=ev.cells:=e1;have e2':[c8]=[I J er]:=e2;have e3':[c9]=[I J la]:=e3;have e4':[c10]=[I J sn]:=e4;have QA:[c0]=[I J k]:=e0;have e6':[c11,c12,c13,c14,c15,c16,c17,c18,c19]=[I J s.clock,U fo.1 s.fols.length fo.2,U fe.1 s.fees.length fe.2,U it.1 s.itms.length it.2,U se.1 s.seas.length se.2,I J s.tFol,I J s.tFee,I J s.tItm,I J s.tSea]:=e6;show [c0]++[c1,c2,c3,c4,c5,c6,c7]++[c8]++[c9]++[c10]++[c11,c12,c13,c14,c15,c16,c17,c18,c19]=_
 rw[QA,Ls,e2',e3',e4',e6'];rfl
theorem RA(h:DataW.trod enc pQ W base sp held fuel 22 cs=some x):∃A n c,∃l:List qD,cs=[U A n c]∧l.length=n∧pI W (rL W) (A,c) l:=by
 obtain⟨A,n,c,l,h1,h2,h3,h4⟩:=Bz qD.clen (by decide) Tryz.underlying22 (by kernel_rfl) (λh=>UJ h) h;exact⟨A,n,c,l,h1,h2,by rw[h2];exact h3,λd hd=>(h4 d hd).st,λd hd=>(h4 d hd).num⟩
end
end
end Go.Proofs.YtaecjmiobllhmaaGreat
