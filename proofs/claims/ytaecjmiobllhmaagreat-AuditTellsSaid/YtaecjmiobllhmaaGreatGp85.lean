/- Words. -/
import Derived.Test.YtaecjmiobllhmaaGreatGp84
import Derived.Deep.RegionHeld3
set_option linter.unusedVariables false
set_option linter.unusedSimpArgs false
set_option maxRecDepth 100000
set_option maxHeartbeats 16000000
namespace Go.Proofs.YtaecjmiobllhmaaGreat
open Go.RowKit Go.Lib
structure MvD where
 fo:Sl
 fe:Sl
 it:Sl
 se:Sl
 ts:List (Sl×Itm)
 m:Mv
def MvD.cells(d:MvD):List Value:=[.int .i64 d.m.kind,.int .i64 d.m.ev.kind,.int .i64 d.m.ev.a,.int .i64 d.m.ev.b,.int .i64 d.m.ev.n,.string d.m.ev.s,.string d.m.ev.t,.string d.m.ev.u,.int .i64 d.m.err,.int .i64 d.m.last,.int .i64 d.m.snap,.int .i64 d.m.st.clock,.slice d.fo.1 d.m.st.fols.length d.fo.2,.slice d.fe.1 d.m.st.fees.length d.fe.2,.slice d.it.1 d.m.st.itms.length d.it.2,.slice d.se.1 d.m.st.seas.length d.se.2,.int .i64 d.m.st.tFol,.int .i64 d.m.st.tFee,.int .i64 d.m.st.tItm,.int .i64 d.m.st.tSea]
theorem MvD.clen(d:MvD):d.cells.length=20:=rfl
structure MvsIn(w:World)(G:Nat→Prop)(v:Sl)(l:List MvD):Prop where
 sl:SlIn w G 20 v l.length (l.flatMap MvD.cells)
 mv:∀d∈l,MvIn w G d.fo d.fe d.it d.se d.ts d.m
 num:∀d∈l,I64 d.m.ev.a∧I64 d.m.ev.b
theorem MvsIn.nix{w w1:World}{G:Nat→Prop}{v:Sl}{l:List MvD}(h:MvsIn w G v l)(hf:Frm Nix w w1):MvsIn w1 G v l:=⟨h.sl.nix hf,λd hd=>(h.mv d hd).nix hf,h.num⟩
theorem MvsIn.first{w:World}{G:Nat→Prop}{v:Sl}{l:List MvD}(h:MvsIn w G v l){k:Nat}(hk:k≤l.length):MvsIn w G v (l.take k):=by
 have q:=h.sl.first hk
 rw[flat_take MvD.clen] at q;refine⟨?_,λd hd=>h.mv d (List.mem_of_mem_take hd),λd hd=>h.num d (List.mem_of_mem_take hd)⟩;rw[List.length_take,Nat.min_eq_left hk];exact q
theorem chkA_cons(a:Au)(m:Mv)(l:List Mv):chkA a (m::l)=match stepA a m with | none=>0 | some b=>chkA b l+1:=rfl
def msOf(l:List MvD):List Mv:=l.map (·.m)
def chkE(k n:Nat):Int:=if k=n then 0 else 4
theorem size_setCells(b:Nat):∀(vs:List Value) (o:Nat) (w:World),(w.setCells b o vs).heap.size=w.heap.size
 | [],_,_=>rfl
 | v::r,o,w=>by rw[World.setCells,size_setCells b r];simp[World.setCell]
theorem putL_all{cs:Array Value}{vs:List Value}(h:vs.length=cs.size):putL cs 0 vs=vs.toArray:=by
 apply Array.ext_getElem?;intro j;rw[putL_get]
 by_cases hj:j<vs.length
 ·rw[if_pos ⟨Nat.zero_le _,by omega,by omega⟩]
  simp
 ·rw[if_neg (λhh=>hj (by omega)),Array.getElem?_eq_none (by omega)]
  simp;omega
theorem mvStore{ops:Array Oper}{rest:List Oper}{op:Oper}{ac:Act}{W W0:World}{Q:Exit→Act→World→Prop}{b:Nat}{z:Array Value}{l:List Value}(hb:Blk W b 44 z)(hz:z.size=20)(hl:l.length=20)(h1:∀u∈l,u.oneCell'=true)(hf:Frm Nix W0 W)(hb0:W0.heap.size≤b)(x y:Operand)
  (hgd:op.guard=none) (ho:op.op=.store 44 x y) (hx:ac.eval x=.pointer (some ⟨b,0,none⟩)) (hy:ac.eval y=.agg l.toArray)
  (hk:∀W',Frm Nix W0 W'→Blk W' b 44 l.toArray→W'.heap.size=W.heap.size→wpList Tryz.prog ops Q rest (ac.put op.dst undef) W'):wpList Tryz.prog ops Q (op::rest) ac W:=
 wpList_store_mid hgd 44 x y ho b 0 l.toArray hx hy (λj hj=>by
   have hj2:j<20:=by simpa [hl] using hj
   rw[Nat.zero_add];refine⟨?_,hb.frozen j⟩;rw[hb.cell,Array.getElem?_eq_getElem (by omega)];rfl) (by simp only[List.size_toArray];rw[hl];exact mvInfo) (all_oneCell_toArray h1)
  (hk _ (hf.next (Frm.setCells (F:=(·=b)) (g:=b) l 0 (Frm.refl _ _) (.inl rfl)) λk hk=>.inr (by subst hk;exact hb0)) (by
   have q:=hb.putL l 0;rw[putL_all (by rw[hl,hz])] at q;exact q) (size_setCells b l 0 W))
theorem Check_any{w:World}{G:Nat→Prop}{A:Option Addr}{c:Nat}{l:List MvD}(hv:MvsIn w G (A,c) l)(hn:l.length≤512):
  Calls Tryz.prog 9 #[.slice A l.length c] w λe w'=>e=.returned (.tuple #[.int .i64 (chkA au0 (msOf l)),.int .i64 (chkE (chkA au0 (msOf l)) l.length)])∧Frm Nix w w':=by
 obtain⟨n,hln⟩:∃n,l.length=n:=⟨_,rfl⟩;have HL:=h_ hln;have HV:=h_ hv;obtain⟨q0,hq0⟩:∃q0,chkA au0 (msOf l)=q0:=⟨_,rfl⟩;have HQ:=h_ hq0;rw[hln] at hn ⊢;rw[hq0];clear hv hln hq0;have hn2:¬512<n:=by omega
 have HS:Hid (AuAt ((w.alloc (.cells #[.int .i64 1,.int .i64 0,.int .i64 0] 68)).alloc (.cells #[.slice none 0 0,.int .i64 0,.slice (some ⟨w.heap.size,0,none⟩) 1 1] 71)) (w.heap.size+1) (λk=>w.heap.size≤k∧¬k=w.heap.size+1) none 0 (some ⟨w.heap.size,0,none⟩) 1 au0):=by
  have hb:=Blk.new (w.alloc (.cells #[.int .i64 1,.int .i64 0,.int .i64 0] 68)) 71 #[.slice none 0 0,.int .i64 0,.slice (some ⟨w.heap.size,0,none⟩) 1 1];rw[show (w.alloc (.cells #[.int .i64 1,.int .i64 0,.int .i64 0] 68)).heap.size=w.heap.size+1 by simp] at hb;have hl:=(RowK.lit (s:=3) 68 (fR w) 1 [.int .i64 1,.int .i64 0,.int .i64 0] rfl (by unfold maxLen;omega)).sl.cOld;refine⟨hb,SlIn.none_ _ _ _,?_,λk hk=>hk.2,λe he=>by cases he⟩;have q:=(hl.nix ((fR _).alloc (.cells #[.slice none 0 0,.int .i64 0,.slice (some ⟨w.heap.size,0,none⟩) 1 1] 71))).mono (G':=(λk=>w.heap.size≤k∧¬k=w.heap.size+1)) λk hk=>⟨hk.1,by have:=hk.2;simp at this;omega⟩
  exact q
 go_enter Tryz.func9,Tryz.ntmps9;go_wp2
 go_loopw [16] (λkv wr=>∃i:Nat,i≤n∧kv=.int .i64 i∧∃a Aa ca Aw cw,AuOk a∧a.all.length≤i∧chkA au0 (msOf l)=i+chkA a ((msOf l).drop i)∧AuAt wr (w.heap.size+1) (λk=>w.heap.size≤k∧¬k=w.heap.size+1) Aa ca Aw cw a∧Frm Nix w wr) (λkv _=>n - (intOf kv).toNat)
 case atStart=>exact⟨0,by omega,rfl,au0,none,0,_,1,au0_ok,by simp[au0],by simp,HS.out,((fR w).alloc _).alloc _⟩
 case round=>
  obtain⟨i,hi,rfl,a,Aa,ca,Aw,cw,hok,hal,hch,hat,hf⟩:=hrel;have HA:=h_ hat;have HF:=h_ hf;have HC:=h_ hch;have HO:=h_ (And.intro hok hal);clear hok hal hch hat hf
  by_cases hlt:i<n
  ·have hil:i<l.length:=by rw[HL.out];exact hlt
   obtain⟨bb,off,hAe,-,hbl,hcell⟩:=(HV.out.sl.nix HF.out).at_ MvD.clen (by decide) (by omega);dsimp only at hAe;subst hAe;have h20:=h_ (hcell i hil);have hmv:=(HV.out.mv l[i] (List.getElem_mem hil)).nix HF.out;have hnu:=HV.out.num l[i] (List.getElem_mem hil)
   have hdr:(msOf l).drop i=(l[i]).m::(msOf l).drop (i+1):=by
    have h1:i<(msOf l).length:=by simpa [msOf] using hil
    rw[List.drop_eq_getElem_cons h1];simp[msOf]
   have hch2:=HC.out;rw[hdr,chkA_cons] at hch2;obtain⟨d,hd⟩:∃d,l[i]=d:=⟨_,rfl⟩;rw[hd] at h20 hmv hnu hch2;have HCe:Hid (∀(j:Nat) (v:Value),d.cells[j]? =some v→wr.cell? ⟨bb,off+i * 20+j,none⟩=some v):=h20;clear h20;have hgl:w.heap.size+1<wr.heap.size:=HA.out.blk.lt;have KS:Hid (∀W,Frm Nix wr W→Calls Tryz.prog 27 #[.pointer (some ⟨w.heap.size+1,0,none⟩),.agg #[.int .i64 d.m.kind,.int .i64 d.m.ev.kind,.int .i64 d.m.ev.a,.int .i64 d.m.ev.b,.int .i64 d.m.ev.n,.string d.m.ev.s,.string d.m.ev.t,.string d.m.ev.u,.int .i64 d.m.err,.int .i64 d.m.last,.int .i64 d.m.snap,.int .i64 d.m.st.clock,.slice d.fo.1 d.m.st.fols.length d.fo.2,.slice d.fe.1 d.m.st.fees.length d.fe.2,.slice d.it.1 d.m.st.itms.length d.it.2,.slice d.se.1 d.m.st.seas.length d.se.2,.int .i64 d.m.st.tFol,.int .i64 d.m.st.tFee,.int .i64 d.m.st.tItm,.int .i64 d.m.st.tSea]] W (StepOut W (w.heap.size+1) (λk=>w.heap.size≤k∧¬k=w.heap.size+1) (stepA a d.m))):=λW hW=>aStep_any (HA.out.nix hW) HO.out.1 (hmv.nix hW) (by have:=HO.out.2;omega) (λk hk=>⟨by have:=HF.out.size;have:=hW.size;omega,by have:=hW.size;omega⟩) hnu.1 hnu.2
   have HOne:Hid (∀u∈d.cells,u.oneCell'=true):=λu hu=>by
    simp[MvD.cells] at hu;rcases hu with rfl | rfl | rfl | rfl | rfl | rfl | rfl | rfl | rfl | rfl | rfl | rfl | rfl | rfl | rfl | rfl | rfl | rfl | rfl | rfl<;>rfl
   clear hcell hd hmv hnu hdr
   cases hs:stepA a d.m with
   | none=>
     rw[hs] at KS hch2;simp only[Nat.add_zero] at hch2;have HC2:Hid (q0=i):=by unfold Hid;rw[←HQ.out];exact hch2
     have HH:=h_ hs;clear hs hch2;go_wp2_with (first | (refine mvListO (l:=d.cells) HCe.out rfl _ rfl rfl rfl ?_) | (refine mvStore (W0:=wr) (l:=d.cells) (Blk.new wr _ _) rfl rfl HOne.out ((fR wr).alloc _) (Nat.le_refl _) _ _ rfl rfl rfl rfl ?_;intro W2 hf2 hb2 hs2;have HW2:=h_ hf2;have HB2:=h_ hb2;clear hf2 hb2 hs2) | (refine mvList (l:=d.cells) HB2.out rfl _ rfl rfl rfl ?_) | (go_at_call 27;refine(KS.out _ HW2.out).mono ?_;rintro e w2 ⟨rfl,hf,-⟩;have HF2:=h_ hf;clear hf) | fail)
     go_ret2
     exact⟨by rw[HC2.out,show chkE i n=4 from if_neg (by omega)];rfl,HF.out.next (HW2.out.nix.next HF2.out λk hk=>.inl hk) λk hk=>.inr (by omega)⟩
   | some b=>
     have hbo:=stepA_ok HO.out.1 hs;have hbl2:=stepA_len hs;rw[hs] at KS hch2;have HC2:Hid (chkA au0 (msOf l)=(i+1)+chkA b ((msOf l).drop (i+1))):=by unfold Hid;rw[hch2];simp only;omega
     have HB:=h_ (And.intro hbo hbl2);have HH:=h_ hs;clear hs hch2 hbo hbl2;go_wp2_with (first | (refine mvListO (l:=d.cells) HCe.out rfl _ rfl rfl rfl ?_) | (refine mvStore (W0:=wr) (l:=d.cells) (Blk.new wr _ _) rfl rfl HOne.out ((fR wr).alloc _) (Nat.le_refl _) _ _ rfl rfl rfl rfl ?_;intro W2 hf2 hb2 hs2;have HW2:=h_ hf2;have HB2:=h_ hb2;clear hf2 hb2 hs2) | (refine mvList (l:=d.cells) HB2.out rfl _ rfl rfl rfl ?_) | (go_at_call 27;refine(KS.out _ HW2.out).mono ?_;rintro e w2 ⟨rfl,hf,hx⟩;have HF2:=h_ hf;have HX2:=h_ hx;clear hf hx) | fail);go_roundw
     case rel=>
      obtain⟨Aa2,ca2,Aw2,cw2,hat2⟩:=HX2.out b rfl;exact⟨i+1,by omega,by go_num,b,Aa2,ca2,Aw2,cw2,HB.out.1,by have:=HB.out.2;have:=HO.out.2;omega,HC2.out,hat2,HF.out.next (HW2.out.nix.next HF2.out λk hk=>.inl hk) λk hk=>.inr (by omega)⟩
     case measure=>simp[intOf];omega
  ·obtain rfl:i=n:=by omega
   have HC2:Hid (q0=i):=by
    unfold Hid;rw[←HQ.out,HC.out];have:(msOf l).drop i=[]:=List.drop_eq_nil_of_le (by simp[msOf,HL.out]);rw[this];rfl
   go_wp2
   go_ret2
   exact⟨by rw[HC2.out,show chkE i i=0 from if_pos rfl];rfl,HF.out⟩
theorem Check_long{w:World}{A:Option Addr}{n c:Nat}(hn:(512:Int)<(n:Int)):
  Calls Tryz.prog 9 #[.slice A n c] w λe w'=>e=.returned (.tuple #[.int .i64 0,.int .i64 3])∧Frm Nix w w':=by
 go_enter Tryz.func9,Tryz.ntmps9;go_wp2
 go_ret2
 exact⟨rfl,Frm.refl _ _⟩
theorem May_any{w:World}{G:Nat→Prop}{A:Option Addr}{c:Nat}{l:List MvD}(hv:MvsIn w G (A,c) l)(hn:l.length≤512):
  Calls Tryz.prog 11 #[.slice A l.length c] w λe w'=>e=.returned (.bool (decide (chkA au0 (msOf l)=l.length)))∧Frm Nix w w':=by
 have KC:Hid (∀W,Frm Nix w W→Calls Tryz.prog 9 #[.slice A l.length c] W λe w'=>e=.returned (.tuple #[.int .i64 (chkA au0 (msOf l)),.int .i64 (chkE (chkA au0 (msOf l)) l.length)])∧Frm Nix W w'):=λW hW=>Check_any (hv.nix hW) hn
 have HE:Hid ((chkE (chkA au0 (msOf l)) l.length==0)=decide (chkA au0 (msOf l)=l.length)):=by
  unfold Hid chkE;split<;>simp[*]
 rw[←HE.out];generalize chkE (chkA au0 (msOf l)) l.length=er at *;generalize chkA au0 (msOf l)=k at *;generalize l.length=n at *;clear hv hn HE;go_enter Tryz.func11,Tryz.ntmps11;go_wp2_with (go_at_call 9;refine(KC.out _ (fR w)).mono ?_;rintro e w1 ⟨rfl,hf⟩;have Y1:=h_ hf;clear hf);go_ret;exact⟨rfl,Y1.out⟩
def eFm:Ev:=⟨3,1,0,0,⟨#[117]⟩,⟨#[]⟩,⟨#[]⟩⟩
def stX:St:=⟨0,[],[⟨1,0,⟨#[117]⟩,⟨#[]⟩⟩],[],[],0,1,0,0⟩
def mvZ(k:Int)(e:Ev)(er la:Int):MvD:=⟨(none,0),(none,0),(none,0),(none,0),[],⟨k,e,er,la,0,st0⟩⟩
def mvX(fb:Nat):MvD:=⟨(none,0),(some ⟨fb,0,none⟩,1),(none,0),(none,0),[],⟨4,ev0,0,1,0,stX⟩⟩
theorem la1:chkA au0 [⟨1,eFm,0,1,0,st0⟩,⟨2,ev0,0,0,0,st0⟩,⟨4,ev0,0,0,0,st0⟩]=2:=by decide+kernel
theorem la2:chkA au0 [⟨1,eFm,0,1,0,st0⟩,⟨4,ev0,0,0,0,st0⟩]=2:=by decide+kernel
theorem la3:chkA au0 [⟨1,eFm,30,0,0,st0⟩,⟨2,ev0,6,0,0,st0⟩,⟨4,ev0,0,1,0,stX⟩,⟨3,ev0,0,0,0,st0⟩,⟨3,ev0,1,0,0,st0⟩]=5:=by decide+kernel
theorem la4:chkA au0 [⟨0,ev0,0,0,0,st0⟩]=0:=by decide+kernel
theorem litMvs{W:World}(l:List MvD)(hl:l.length≤512)(hm:∀d∈l,MvIn W (λ_=>True) d.fo d.fe d.it d.se d.ts d.m)(hn:∀d∈l,I64 d.m.ev.a∧I64 d.m.ev.b):MvsIn (W.alloc (.cells (l.flatMap MvD.cells).toArray 44)) (λ_=>True) (some ⟨W.heap.size,0,none⟩,l.length) l:=by
 have q:=(RowK.lit (s:=20) 44 (fR W) l.length (l.flatMap MvD.cells) (flat_len MvD.clen l) (by unfold maxLen;omega)).sl;exact⟨q.mono λ_ _=>trivial,λd hd=>(hm d hd).nix ((fR W).alloc _),hn⟩
theorem mvZ_in(W:World)(k:Int)(e:Ev)(er la:Int):MvIn W (λ_=>True) (none,0) (none,0) (none,0) (none,0) [] (mvZ k e er la).m:=⟨StIn.zero W _,small0⟩
theorem stX_small:StSmall stX:=⟨by decide,by decide,by decide,by decide,λt ht=>by cases ht⟩
theorem mvX_in{W:World}{fb:Nat}(h:Blk W fb 64 #[.int .i64 1,.int .i64 0,.string ⟨#[117]⟩,.string ⟨#[]⟩]):MvIn W (λ_=>True) (none,0) (some ⟨fb,0,none⟩,1) (none,0) (none,0) [] (mvX fb).m:=by
 have z:=StIn.zero W (λ_=>True);refine⟨⟨z.fols,⟨⟨rfl,λ_=>⟨_,rfl,trivial,h.lt,λj u hu=>?_⟩⟩,(λe=>by cases e),Nat.le_refl _,by show 1≤maxLen;unfold maxLen;omega⟩,z.itms,z.same,z.seas⟩,stX_small⟩;rw[Addr.add_lit,Nat.zero_add,h.cell]
 simpa [mvX,stX,Fee.cells] using hu
theorem i64s:I64 eFm.a∧I64 eFm.b:=⟨by unfold I64 eFm;decide,by unfold I64 eFm;decide⟩
theorem i64z:I64 ev0.a∧I64 ev0.b:=⟨by unfold I64 ev0;decide,by unfold I64 ev0;decide⟩
theorem lk1{W:World}(q:Nat)(hq:W.heap.size=q):Calls Tryz.prog 9 #[.slice (some ⟨q,0,none⟩) 3 3] (W.alloc (.cells #[.int .i64 1,.int .i64 3,.int .i64 1,.int .i64 0,.int .i64 0,.string ⟨#[117]⟩,.string ⟨#[]⟩,.string ⟨#[]⟩,.int .i64 0,.int .i64 1,.int .i64 0,.int .i64 0,.slice none 0 0,.slice none 0 0,.slice none 0 0,.slice none 0 0,.int .i64 0,.int .i64 0,.int .i64 0,.int .i64 0,.int .i64 2,.int .i64 0,.int .i64 0,.int .i64 0,.int .i64 0,.string ⟨#[]⟩,.string ⟨#[]⟩,.string ⟨#[]⟩,.int .i64 0,.int .i64 0,.int .i64 0,.int .i64 0,.slice none 0 0,.slice none 0 0,.slice none 0 0,.slice none 0 0,.int .i64 0,.int .i64 0,.int .i64 0,.int .i64 0,.int .i64 4,.int .i64 0,.int .i64 0,.int .i64 0,.int .i64 0,.string ⟨#[]⟩,.string ⟨#[]⟩,.string ⟨#[]⟩,.int .i64 0,.int .i64 0,.int .i64 0,.int .i64 0,.slice none 0 0,.slice none 0 0,.slice none 0 0,.slice none 0 0,.int .i64 0,.int .i64 0,.int .i64 0,.int .i64 0] 44)) λe w'=>e=.returned (.tuple #[.int .i64 2,.int .i64 4])∧Frm Nix W w':=by
 subst hq
 have h1:=litMvs (W:=W) [mvZ 1 eFm 0 1,mvZ 2 ev0 0 0,mvZ 4 ev0 0 0] (by simp) (λd hd=>by
  simp only[List.mem_cons,List.not_mem_nil,or_false] at hd;rcases hd with rfl | rfl | rfl
  ·exact mvZ_in _ _ _ _ _
  ·exact mvZ_in _ _ _ _ _
  ·exact mvZ_in _ _ _ _ _) (λd hd=>by
  simp only[List.mem_cons,List.not_mem_nil,or_false] at hd;rcases hd with rfl | rfl | rfl
  ·exact i64s
  ·exact i64z
  ·exact i64z)
 have q:=Check_any h1 (by simp);have e1:chkA au0 (msOf [mvZ 1 eFm 0 1,mvZ 2 ev0 0 0,mvZ 4 ev0 0 0])=2:=la1;rw[e1] at q;exact q.mono λe w' hq=>⟨hq.1,((fR W).alloc _).trans hq.2⟩
theorem lk2{W:World}(q:Nat)(hq:W.heap.size=q):Calls Tryz.prog 9 #[.slice (some ⟨q,0,none⟩) 2 2] (W.alloc (.cells #[.int .i64 1,.int .i64 3,.int .i64 1,.int .i64 0,.int .i64 0,.string ⟨#[117]⟩,.string ⟨#[]⟩,.string ⟨#[]⟩,.int .i64 0,.int .i64 1,.int .i64 0,.int .i64 0,.slice none 0 0,.slice none 0 0,.slice none 0 0,.slice none 0 0,.int .i64 0,.int .i64 0,.int .i64 0,.int .i64 0,.int .i64 4,.int .i64 0,.int .i64 0,.int .i64 0,.int .i64 0,.string ⟨#[]⟩,.string ⟨#[]⟩,.string ⟨#[]⟩,.int .i64 0,.int .i64 0,.int .i64 0,.int .i64 0,.slice none 0 0,.slice none 0 0,.slice none 0 0,.slice none 0 0,.int .i64 0,.int .i64 0,.int .i64 0,.int .i64 0] 44)) λe w'=>e=.returned (.tuple #[.int .i64 2,.int .i64 0])∧Frm Nix W w':=by
 subst hq
 have h1:=litMvs (W:=W) [mvZ 1 eFm 0 1,mvZ 4 ev0 0 0] (by simp) (λd hd=>by
  simp only[List.mem_cons,List.not_mem_nil,or_false] at hd;rcases hd with rfl | rfl
  ·exact mvZ_in _ _ _ _ _
  ·exact mvZ_in _ _ _ _ _) (λd hd=>by
  simp only[List.mem_cons,List.not_mem_nil,or_false] at hd;rcases hd with rfl | rfl
  ·exact i64s
  ·exact i64z)
 have q:=Check_any h1 (by simp);have e1:chkA au0 (msOf [mvZ 1 eFm 0 1,mvZ 4 ev0 0 0])=2:=la2;rw[e1] at q;exact q.mono λe w' hq=>⟨hq.1,((fR W).alloc _).trans hq.2⟩
theorem lk3{W:World}{fb:Nat}(q:Nat)(hq:W.heap.size=q)(hfb:Blk W fb 64 #[.int .i64 1,.int .i64 0,.string ⟨#[117]⟩,.string ⟨#[]⟩]):Calls Tryz.prog 9 #[.slice (some ⟨q,0,none⟩) 5 5] (W.alloc (.cells #[.int .i64 1,.int .i64 3,.int .i64 1,.int .i64 0,.int .i64 0,.string ⟨#[117]⟩,.string ⟨#[]⟩,.string ⟨#[]⟩,.int .i64 30,.int .i64 0,.int .i64 0,.int .i64 0,.slice none 0 0,.slice none 0 0,.slice none 0 0,.slice none 0 0,.int .i64 0,.int .i64 0,.int .i64 0,.int .i64 0,.int .i64 2,.int .i64 0,.int .i64 0,.int .i64 0,.int .i64 0,.string ⟨#[]⟩,.string ⟨#[]⟩,.string ⟨#[]⟩,.int .i64 6,.int .i64 0,.int .i64 0,.int .i64 0,.slice none 0 0,.slice none 0 0,.slice none 0 0,.slice none 0 0,.int .i64 0,.int .i64 0,.int .i64 0,.int .i64 0,.int .i64 4,.int .i64 0,.int .i64 0,.int .i64 0,.int .i64 0,.string ⟨#[]⟩,.string ⟨#[]⟩,.string ⟨#[]⟩,.int .i64 0,.int .i64 1,.int .i64 0,.int .i64 0,.slice none 0 0,.slice (some ⟨fb,0,none⟩) 1 1,.slice none 0 0,.slice none 0 0,.int .i64 0,.int .i64 1,.int .i64 0,.int .i64 0,.int .i64 3,.int .i64 0,.int .i64 0,.int .i64 0,.int .i64 0,.string ⟨#[]⟩,.string ⟨#[]⟩,.string ⟨#[]⟩,.int .i64 0,.int .i64 0,.int .i64 0,.int .i64 0,.slice none 0 0,.slice none 0 0,.slice none 0 0,.slice none 0 0,.int .i64 0,.int .i64 0,.int .i64 0,.int .i64 0,.int .i64 3,.int .i64 0,.int .i64 0,.int .i64 0,.int .i64 0,.string ⟨#[]⟩,.string ⟨#[]⟩,.string ⟨#[]⟩,.int .i64 1,.int .i64 0,.int .i64 0,.int .i64 0,.slice none 0 0,.slice none 0 0,.slice none 0 0,.slice none 0 0,.int .i64 0,.int .i64 0,.int .i64 0,.int .i64 0] 44)) λe w'=>e=.returned (.tuple #[.int .i64 5,.int .i64 0])∧Frm Nix W w':=by
 subst hq
 have h1:=litMvs (W:=W) [mvZ 1 eFm 30 0,mvZ 2 ev0 6 0,mvX fb,mvZ 3 ev0 0 0,mvZ 3 ev0 1 0] (by simp) (λd hd=>by
  simp only[List.mem_cons,List.not_mem_nil,or_false] at hd;rcases hd with rfl | rfl | rfl | rfl | rfl
  ·exact mvZ_in _ _ _ _ _
  ·exact mvZ_in _ _ _ _ _
  ·exact mvX_in hfb
  ·exact mvZ_in _ _ _ _ _
  ·exact mvZ_in _ _ _ _ _) (λd hd=>by
  simp only[List.mem_cons,List.not_mem_nil,or_false] at hd;rcases hd with rfl | rfl | rfl | rfl | rfl
  ·exact i64s
  ·exact i64z
  ·exact i64z
  ·exact i64z
  ·exact i64z)
 have q:=Check_any h1 (by simp);have e1:chkA au0 (msOf [mvZ 1 eFm 30 0,mvZ 2 ev0 6 0,mvX fb,mvZ 3 ev0 0 0,mvZ 3 ev0 1 0])=5:=la3;rw[e1] at q;exact q.mono λe w' hq=>⟨hq.1,((fR W).alloc _).trans hq.2⟩
theorem lk4{W:World}(q:Nat)(hq:W.heap.size=q):Calls Tryz.prog 11 #[.slice (some ⟨q,0,none⟩) 1 1] (W.alloc (.cells #[.int .i64 0,.int .i64 0,.int .i64 0,.int .i64 0,.int .i64 0,.string ⟨#[]⟩,.string ⟨#[]⟩,.string ⟨#[]⟩,.int .i64 0,.int .i64 0,.int .i64 0,.int .i64 0,.slice none 0 0,.slice none 0 0,.slice none 0 0,.slice none 0 0,.int .i64 0,.int .i64 0,.int .i64 0,.int .i64 0] 44)) λe w'=>e=.returned (.bool false)∧Frm Nix W w':=by
 subst hq
 have h1:=litMvs (W:=W) [mvZ 0 ev0 0 0] (by simp) (λd hd=>by
  simp only[List.mem_cons,List.not_mem_nil,or_false] at hd;rcases hd with rfl
  ·exact mvZ_in _ _ _ _ _) (λd hd=>by
  simp only[List.mem_cons,List.not_mem_nil,or_false] at hd;rcases hd with rfl
  ·exact i64z)
 have q:=May_any h1 (by simp);have e1:chkA au0 (msOf [mvZ 0 ev0 0 0])=0:=la4;rw[e1] at q;exact q.mono λe w' hq=>⟨hq.1,((fR W).alloc _).trans hq.2⟩
theorem lk5{W:World}:Calls Tryz.prog 11 #[.slice none 0 0] W λe w'=>e=.returned (.bool true)∧Frm Nix W w':=
 May_any (G:=λ_=>True) (l:=[]) ⟨SlIn.none_ _ _ _,(λd hd=>by cases hd),λd hd=>by cases hd⟩ (by decide)
theorem mkStep{ops:Array Oper}{rest:List Oper}{op:Oper}{ac:Act}{W W':World}{Q:Exit→Act→World→Prop}{v va vb:Value}{t:TypeId}(hr:(Instr.makeSlice t va vb).run Tryz.prog W=.ok v W')(a b:Operand)(hgd:op.guard=none)(ho:op.op=.makeSlice t a b)(ha:ac.eval a=va)(hb:ac.eval b=vb)(hk:wpList Tryz.prog ops Q rest (ac.put op.dst v) W'):wpList Tryz.prog ops Q (op::rest) ac W:=
 wpList_plain hgd λ_ hK=>by
  unfold Oper.wp execOp;simp only[ho,ha,hb,Sem.run_bind,Sem.run_pure,Result.andThen_ok,hr];exact hK _ _ hk
theorem mkInfo:(Tryz.prog.info? 44).map (λi=>(i.zero.isSome,i.size,decide (i.bytes * 513≤281474976710656)))=some (true,20,true):=by kernel_rfl
theorem mk513(W:World):∃W',(Instr.makeSlice 22 (.int .i64 513) (.int .i64 513)).run Tryz.prog W=.ok (.slice (some ⟨W.heap.size,0,none⟩) 513 513) W'∧Frm Nix W W':=by
 obtain⟨i,hi,hzz⟩:=Option.map_eq_some_iff.1 mkInfo;simp only[Prod.mk.injEq,decide_eq_true_eq] at hzz;obtain⟨z,hz⟩:=Option.isSome_iff_exists.1 hzz.1;obtain⟨W',h1,-,h3⟩:=run_makeSlice_full W W.heap.size 22 44 i z 20 Tryz.underlying22 hi hz hzz.2.1 .i64 .i64 513 (by decide) hzz.2.2 (by unfold maxLen;omega) (Nat.le_refl _);exact⟨W',h1,(fR W).grown h3 λk hk=>by cases hk⟩
theorem lives37_any(w:World):Calls Tryz.prog 8 #[] w λe w'=>e=.returned (.bool true)∧Frm Nix w w':=by
 obtain⟨W2,hW2⟩:∃W2,W2=((w.alloc (.cells #[.int .i64 3,.int .i64 1,.int .i64 0,.int .i64 0,.string ⟨#[117]⟩,.string ⟨#[]⟩,.string ⟨#[]⟩] 42)).alloc (.cells #[.int .i64 1,.int .i64 0,.string ⟨#[117]⟩,.string ⟨#[]⟩] 64)).alloc (.cells #[.int .i64 0,.slice none 0 0,.slice (some ⟨(w.heap.size+1),0,none⟩) 1 1,.slice none 0 0,.slice none 0 0,.int .i64 0,.int .i64 1,.int .i64 0,.int .i64 0] 36):=⟨_,rfl⟩;have HF2:Hid (Frm Nix w W2):=by unfold Hid;rw[hW2];exact(((fR w).alloc _).alloc _).alloc _
 have HB1:Hid (Blk W2 w.heap.size 42 #[.int .i64 3,.int .i64 1,.int .i64 0,.int .i64 0,.string ⟨#[117]⟩,.string ⟨#[]⟩,.string ⟨#[]⟩]):=by unfold Hid;rw[hW2];exact((Blk.new w _ _).alloc _).alloc _
 have HB2:Hid (Blk W2 (w.heap.size+1) 64 #[.int .i64 1,.int .i64 0,.string ⟨#[117]⟩,.string ⟨#[]⟩]):=by
  unfold Hid;rw[hW2];have q:=Blk.new (w.alloc (.cells #[.int .i64 3,.int .i64 1,.int .i64 0,.int .i64 0,.string ⟨#[117]⟩,.string ⟨#[]⟩,.string ⟨#[]⟩] 42)) 64 #[.int .i64 1,.int .i64 0,.string ⟨#[117]⟩,.string ⟨#[]⟩];rw[show (w.alloc (.cells #[.int .i64 3,.int .i64 1,.int .i64 0,.int .i64 0,.string ⟨#[117]⟩,.string ⟨#[]⟩,.string ⟨#[]⟩] 42)).heap.size=w.heap.size+1 by simp] at q;exact q.alloc _
 have HB3:Hid (Blk W2 (w.heap.size+1+1) 36 #[.int .i64 0,.slice none 0 0,.slice (some ⟨(w.heap.size+1),0,none⟩) 1 1,.slice none 0 0,.slice none 0 0,.int .i64 0,.int .i64 1,.int .i64 0,.int .i64 0]):=by
  unfold Hid;rw[hW2];have q:=Blk.new ((w.alloc (.cells #[.int .i64 3,.int .i64 1,.int .i64 0,.int .i64 0,.string ⟨#[117]⟩,.string ⟨#[]⟩,.string ⟨#[]⟩] 42)).alloc (.cells #[.int .i64 1,.int .i64 0,.string ⟨#[117]⟩,.string ⟨#[]⟩] 64)) 36 #[.int .i64 0,.slice none 0 0,.slice (some ⟨(w.heap.size+1),0,none⟩) 1 1,.slice none 0 0,.slice none 0 0,.int .i64 0,.int .i64 1,.int .i64 0,.int .i64 0];rw[show ((w.alloc (.cells #[.int .i64 3,.int .i64 1,.int .i64 0,.int .i64 0,.string ⟨#[117]⟩,.string ⟨#[]⟩,.string ⟨#[]⟩] 42)).alloc (.cells #[.int .i64 1,.int .i64 0,.string ⟨#[117]⟩,.string ⟨#[]⟩] 64)).heap.size=w.heap.size+1+1 by simp] at q;exact q
 have HW:=h_ hW2
 have HOn:Hid (∀u∈([.int .i64 1,.int .i64 3,.int .i64 1,.int .i64 0,.int .i64 0,.string ⟨#[117]⟩,.string ⟨#[]⟩,.string ⟨#[]⟩,.int .i64 0,.int .i64 1,.int .i64 0,.int .i64 0,.slice none 0 0,.slice none 0 0,.slice none 0 0,.slice none 0 0,.int .i64 0,.int .i64 0,.int .i64 0,.int .i64 0]:List Value),u.oneCell'=true):=λu hu=>by
  simp only[List.mem_cons,List.not_mem_nil,or_false] at hu;rcases hu with rfl | rfl | rfl | rfl | rfl | rfl | rfl | rfl | rfl | rfl | rfl | rfl | rfl | rfl | rfl | rfl | rfl | rfl | rfl | rfl<;>rfl
 clear hW2;go_enter Tryz.func8,Tryz.ntmps8;show Code.wp Tryz.prog (peel 0 (bodyOf Tryz.f8)) _ _ _
 refine peelK (k':=1) λK hK=>?_
 conv in hdC _=>whnf
 go_wp2;refine peelK (k':=2) λK hK=>?_
 conv in hdC _=>whnf
 go_wp2;refine peelK (k':=3) λK hK=>?_
 conv in hdC _=>whnf
 go_wp2;rw[←HW.out];obtain⟨e0,e1,e2,e3,e4,e5,e6⟩:=blk7 HB1.out;refine peelK (k':=4) λK hK=>?_
 conv in hdC _=>whnf
 go_wp2_with (first | (refine mvStore (W0:=W2) (l:=[.int .i64 1,.int .i64 3,.int .i64 1,.int .i64 0,.int .i64 0,.string ⟨#[117]⟩,.string ⟨#[]⟩,.string ⟨#[]⟩,.int .i64 0,.int .i64 1,.int .i64 0,.int .i64 0,.slice none 0 0,.slice none 0 0,.slice none 0 0,.slice none 0 0,.int .i64 0,.int .i64 0,.int .i64 0,.int .i64 0]) (Blk.new W2 _ _) rfl rfl HOn.out ((fR W2).alloc _) (Nat.le_refl _) _ _ rfl rfl rfl rfl ?_;intro W3 hf3 hb3 hs3;have HF3:=h_ (HF2.out.trans hf3);have HB4:=h_ hb3;have HB1:=h_ (HB1.out.frm hf3 id);have HB2:=h_ (HB2.out.frm hf3 id);have HB3:=h_ (HB3.out.frm hf3 id);clear hf3 hb3 hs3) | fail);clear e0 e1 e2 e3 e4 e5 e6;refine peelK (k':=5) λK hK=>?_
 conv in hdC _=>whnf
 go_wp2_with (first | (refine mvList (l:=[.int .i64 1,.int .i64 3,.int .i64 1,.int .i64 0,.int .i64 0,.string ⟨#[117]⟩,.string ⟨#[]⟩,.string ⟨#[]⟩,.int .i64 0,.int .i64 1,.int .i64 0,.int .i64 0,.slice none 0 0,.slice none 0 0,.slice none 0 0,.slice none 0 0,.int .i64 0,.int .i64 0,.int .i64 0,.int .i64 0]) (HB4.out) rfl _ rfl rfl rfl ?_) | (go_at_call 9;refine(lk1 _ (by simp)).mono ?_;rintro e w4 ⟨rfl,hf⟩;have W4:Hid (Frm Nix W3 w4):=hf;clear hf) | fail);refine peelK (k':=6) λK hK=>?_
 conv in hdC _=>whnf
 go_wp2_with (first | (refine mvList (l:=[.int .i64 1,.int .i64 3,.int .i64 1,.int .i64 0,.int .i64 0,.string ⟨#[117]⟩,.string ⟨#[]⟩,.string ⟨#[]⟩,.int .i64 0,.int .i64 1,.int .i64 0,.int .i64 0,.slice none 0 0,.slice none 0 0,.slice none 0 0,.slice none 0 0,.int .i64 0,.int .i64 0,.int .i64 0,.int .i64 0]) (HB4.out.frm W4.out id) rfl _ rfl rfl rfl ?_) | (go_at_call 9;refine(lk2 _ (by simp)).mono ?_;rintro e w5 ⟨rfl,hf⟩;have W5:Hid (Frm Nix W3 w5):=W4.out.trans hf;clear hf) | fail);obtain⟨e0,e1,e2,e3,e4,e5,e6⟩:=blk7 (HB1.out.frm W5.out id);obtain⟨x0,x1,x2,x3,x4,x5,x6,x7,x8⟩:=blk9 (HB3.out.frm W5.out id);refine peelK (k':=7) λK hK=>?_
 conv in hdC _=>whnf
 go_wp2_with (first | (go_at_call 9;refine(lk3 _ (by simp) (HB2.out.frm W5.out id)).mono ?_;rintro e w6 ⟨rfl,hf⟩;have W6:Hid (Frm Nix W3 w6):=W5.out.trans hf;clear hf) | fail);clear e0 e1 e2 e3 e4 e5 e6 x0 x1 x2 x3 x4 x5 x6 x7 x8;obtain⟨w6m,hmk,hfm⟩:=mk513 w6;have HMk:=h_ hmk;have W6m:Hid (Frm Nix W3 w6m):=W6.out.trans hfm;clear hmk hfm;refine peelK (k':=8) λK hK=>?_
 conv in hdC _=>whnf
 go_wp2_with (first | (refine mkStep HMk.out _ _ rfl rfl rfl rfl ?_) | (go_at_call 9;refine(Check_long (by decide)).mono ?_;rintro e w7 ⟨rfl,hf⟩;have W7:Hid (Frm Nix W3 w7):=W6m.out.trans hf;clear hf) | fail);refine peelK (k':=9) λK hK=>?_
 conv in hdC _=>whnf
 go_wp2_with (first | (go_at_call 11;((with_reducible refine(lk4 _ (by simp)).mono ?_);rintro e w9 ⟨rfl,hf⟩);have W9:Hid (Frm Nix W3 w9):=W8.out.trans hf;clear hf) | (go_at_call 11;((with_reducible refine lk5.mono ?_);rintro e w8 ⟨rfl,hf⟩);have W8:Hid (Frm Nix W3 w8):=W7.out.trans hf;clear hf) | fail);simp only[peel,bodyOf,Tryz.f8];go_wp2;go_ret;exact⟨rfl,HF3.out.trans W9.out⟩
end Go.Proofs.YtaecjmiobllhmaaGreat
