/-
  Contracts: built, From, Check, History.
-/
import Derived.Test.YtlafbakoefcifaaGreatGa32
import Derived.Test.YtlafbakoefcifaaGreatGa35
import Derived.Test.YtlafbakoefcifaaGreatGa25
import Derived.Test.YtlafbakoefcifaaGreatGa10
import Derived.Deep.RegionWith
import Derived.Test.YtlafbakoefcifaaGreatGa27
import Derived.Test.YtlafbakoefcifaaGreatGa26
set_option linter.unusedVariables false
set_option linter.unusedSimpArgs false
set_option maxRecDepth 100000
set_option maxHeartbeats 16000000
namespace Go.Proofs.YtlafbakoefcifaaGreat
open Go.RowKit Go.Lib
theorem StP.small{x:St}(h:StP x):StSmall x:=⟨by have:=h.fL;omega,by have:=h.eL;omega,by have:=h.iL;omega,by have:=h.sL;omega,fun t ht=>by have:=(h.iE t ht).2.2.2.1;omega⟩
theorem leads_fits:∀ {l:List Ev} {x z:St} {e:Ev} {r:List Ev},Leads x (l++e::r) z→fits (foldE x l) e=true
 | [],_,_,_,_,h=>h.1
 | a::l,x,z,e,r,h=>by
   have h1:=h.1;have:=leads_fits (l:=l) h.2;unfold foldE at this ⊢;rw[List.foldl_cons,show (applyS x a).1=doS x a by simp[applyS,h1]];exact this
theorem leads_step{l:List Ev}{x:St}{e:Ev}(h:Leads x l (foldE x l))(hf:fits (foldE x l) e=true):Leads x (l++[e]) (foldE x (l++[e])):=by
 have e0:foldE x (l++[e])=(applyS (foldE x l) e).1:=by
  unfold foldE;rw[List.foldl_append];rfl
 have e1:foldE x (l++[e])=doS (foldE x l) e:=by
  rw[e0];simp[applyS,hf]
 rw[e1];exact h.app ⟨hf,rfl⟩
def BuiltOut(w:World)(x:St)(e:Ending)(w':World):Prop:=
 (stOk x=true∧∃ g M A c,e=.returned (.tuple #[.pointer (some ⟨g,0,none⟩),.slice A (pastS x).length c])∧StAt w' g M x∧RowK 38 7 w w' (.slice A (pastS x).length c) (pastS x).length ((pastS x).flatMap Ev.cells)∧(∀ k,SF g M k→w.heap.size≤k))∨
 (stOk x=false∧e=.returned (.tuple #[.pointer none,.slice none 0 0])∧Frm Nix w w')
theorem built_any{w:World}{fo fe it se:Sl}{ts:List (Sl×Itm)}{x:St}{G:Nat→Prop}(hS:StIn w G fo fe it se ts x)(hsm:StSmall x)(hp:(pastS x).length≤900000)(hI:∀ e ∈ pastS x,I64 e.a∧I64 e.b):
  Calls Tryz.prog 63 #[stV fo fe it se x] w (BuiltOut w x):=by
 obtain⟨w0,hw0⟩:∃ w0,w0=w.alloc (.cells #[.int .i64 x.clock,.slice fo.1 x.fols.length fo.2,.slice fe.1 x.fees.length fe.2,.slice it.1 x.itms.length it.2,.slice se.1 x.seas.length se.2,.int .i64 x.tFol,.int .i64 x.tFee,.int .i64 x.tItm,.int .i64 x.tSea] 30):=⟨_,rfl⟩;have hf0:Frm Nix w w0:=by rw[hw0];exact(fR w).alloc _
 have hb0:Blk w0 w.heap.size 30 #[.int .i64 x.clock,.slice fo.1 x.fols.length fo.2,.slice fe.1 x.fees.length fe.2,.slice it.1 x.itms.length it.2,.slice se.1 x.seas.length se.2,.int .i64 x.tFol,.int .i64 x.tFee,.int .i64 x.tItm,.int .i64 x.tSea]:=by rw[hw0];exact Blk.new w _ _
 obtain⟨x0,x1,x2,x3,x4,x5,x6,x7,x8⟩:=blk9 hb0;have KP:=h_ (past_any (hS.nix hf0) hsm hp);have HS:=h_ hS;have HSm:=h_ hsm;have HI:=h_ hI;have HF0:=h_ hf0;have HB0:=h_ hb0;have HW0:=h_ hw0;clear hS hsm hI hf0 hb0 hw0;obtain⟨l,hl⟩:∃ l,pastS x=l:=⟨_,rfl⟩;obtain⟨n,hn⟩:∃ n,l.length=n:=⟨_,rfl⟩;have HLP:=h_ hl;have HLN:=h_ hn;rw[hl] at HI KP hp;rw[hn] at KP hp;clear hl hn;unfold stV at *;go_enter Tryz.func63,Tryz.ntmps63
 go_wp2_with (first
  | (go_at_call 101;rw[← HW0.out];refine KP.out.mono ?_;rintro r w1 ⟨A,c,rfl,hrow⟩;have HR:=h_ hrow;have KN:=h_ (New_any w1);clear hrow)
  | (go_at_call 7;refine KN.out.mono ?_;rintro r w2 ⟨g,M,rfl,hs,hf,hg⟩;have HS2:=h_ hs;have HF2:=h_ hf;have HG:=h_ hg;clear hs hf hg))
 go_loopw [13] (fun kv wr=>∃ k:Nat,k≤n∧kv=.int .i64 k∧StAt wr g M (foldE st0 (l.take k))∧Frm Nix w1 wr∧Leads st0 (l.take k) (foldE st0 (l.take k))) (fun kv _=>n - (intOf kv).toNat)
 case atStart=>exact⟨0,by omega,rfl,HS2.out,HF2.out,rfl⟩
 case round=>
  obtain⟨k,hk,rfl,hs,hf,hl⟩:=hrel;have HS3:=h_ hs;have HF3:=h_ hf;have HL3:=h_ hl;clear hs hf hl
  by_cases hlt:k<n
  ·have hkl:k<l.length:=by rw[HLN.out];exact hlt
   have hsl:=(HR.out.more HF3.out).sl;rw[← HLN.out] at hsl;obtain⟨b,off,hA,-,hbl,hcell⟩:=hsl.at_ Ev.clen (by decide) (by omega);dsimp only at hA;subst hA;have hce:=hcell k hkl;have hie:=HI.out l[k] (List.getElem_mem hkl);have HFT:=h_ (foldE_take (x:=st0) hkl);have HDrop:Hid (l=l.take k++l[k]::l.drop (k+1)):=by unfold Hid;rw[← List.drop_eq_getElem_cons hkl,List.take_append_drop]
   have HTk:Hid (l.take (k+1)=l.take k++[l[k]]):=List.take_succ_eq_append_getElem hkl;obtain⟨ev,hev⟩:∃ ev,l[k]=ev:=⟨_,rfl⟩;rw[hev] at hce hie HFT HDrop HTk;obtain⟨y0,y1,y2,y3,y4,y5,y6⟩:=evc7 (w:=wr) (b:=b) (off:=off+k * 7) (e:=ev) hce
   have KA:Hid (Calls Tryz.prog 14 #[.pointer (some ⟨g,0,none⟩),.agg #[.int .i64 ev.kind,.int .i64 ev.a,.int .i64 ev.b,.int .i64 ev.n,.string ev.s,.string ev.t,.string ev.u]] (wr.alloc (.cells #[.int .i64 ev.kind,.int .i64 ev.a,.int .i64 ev.b,.int .i64 ev.n,.string ev.s,.string ev.t,.string ev.u] 38)) fun r w'=>r=.returned (.bool (fits (foldE st0 (l.take k)) ev))∧StAt w' g M (foldE st0 (l.take (k+1)))∧Frm Nix w1 w'):=
    (Apply_any (HS3.out.nix ((fR wr).alloc _)) ev hie.1 hie.2).mono fun r w' ⟨h1,h2,h3⟩=>⟨by rw[h1];unfold applyS;cases fits (foldE st0 (l.take k)) ev<;>rfl,by rw[HFT.out];exact h2,frm_own (HF3.out.alloc _) h3 HG.out⟩
   clear hcell hce hev hie hsl
   cases hfit:fits (foldE st0 (l.take k)) ev with
   | true=>
     rw[hfit] at KA;have HL4:Hid (Leads st0 (l.take (k+1)) (foldE st0 (l.take (k+1)))):=by unfold Hid;rw[HTk.out];exact leads_step HL3.out hfit
     clear hfit;go_wp2_with (go_at_call 14;refine KA.out.mono ?_;rintro r w3 ⟨rfl,hs2,hf2⟩;have HS4:=h_ hs2;have HF4:=h_ hf2;clear hs2 hf2);go_roundw
     case rel=>exact⟨k+1,by omega,by go_num,HS4.out,HF4.out,HL4.out⟩
     case measure=>simp[intOf];omega
   | false=>
     rw[hfit] at KA
     have HNo:Hid (stOk x=false):=by
      unfold Hid
      cases hok:stOk x with
      | false=>rfl
      | true=>
        exfalso
        have h1:=(leads_iff_ok x).2 hok;rw[HLP.out,HDrop.out] at h1;have:=leads_fits h1;rw[hfit] at this
        cases this
     clear hfit;go_wp2_with (go_at_call 14;refine KA.out.mono ?_;rintro r w3 ⟨rfl,hs2,hf2⟩;have HS4:=h_ hs2;have HF4:=h_ hf2;clear hs2 hf2)
     go_ret2
     exact .inr ⟨HNo.out,rfl,(HF0.out.trans HR.out.frm).trans HF4.out⟩
  ·obtain rfl:k=n:=by omega
   have HTk:Hid (l.take k=l):=List.take_of_length_le (by rw[HLN.out];exact Nat.le_refl _);rw[HTk.out] at HS3 HL3;obtain⟨y,hy⟩:∃ y,foldE st0 l=y:=⟨_,rfl⟩;rw[hy] at HS3 HL3;have hfw:Frm Nix w wr:=(HF0.out.trans HR.out.frm).trans HF3.out;have KT:Hid (∀ W,Frm Nix wr W→Calls Tryz.prog 10 #[.pointer (some ⟨g,0,none⟩)] W fun e w'=>∃ fo fe it se:Sl,∃ ts:List (Sl×Itm),e=.returned (stV fo fe it se y)∧StIn w' (fun k=>W.heap.size≤k) fo fe it se ts y∧Frm Nix W w'):=fun W hW=>Tell_any (HS3.out.nix hW)
   have KQ:Hid (∀ W W0 fo' fe' it' se' ts',Frm Nix wr W→StIn W (fun k=>W0≤k) fo' fe' it' se' ts' y→Calls Tryz.prog 41 #[stV fo' fe' it' se' y,stV fo fe it se x] W fun e w'=>e=.returned (.bool (decide (y=x)))∧Frm Nix W w'):=fun W W0 fo' fe' it' se' ts' hW hin=>Same_any hin (HS.out.nix (hfw.trans hW)) HS3.out.ok.small HSm.out
   have HBx:Hid (∀ W,Frm Nix wr W→Blk W w.heap.size 30 #[.int .i64 x.clock,.slice fo.1 x.fols.length fo.2,.slice fe.1 x.fees.length fe.2,.slice it.1 x.itms.length it.2,.slice se.1 x.seas.length se.2,.int .i64 x.tFol,.int .i64 x.tFee,.int .i64 x.tItm,.int .i64 x.tSea]):=fun W hW=>(HB0.out.frm (HR.out.frm.trans HF3.out) id).frm hW id
   have HY:Hid (stOk x=decide (y=x)):=by
    unfold Hid
    by_cases hyx:y=x
    ·rw[decide_eq_true hyx]
     refine(leads_iff_ok x).1 ?_;rw[HLP.out];have:=HL3.out
     rwa [hyx] at this
    ·rw[decide_eq_false hyx]
     cases hok:stOk x with
     | false=>rfl
     | true=>
       exfalso
       have h1:=(leads_iff_ok x).2 hok;rw[HLP.out] at h1;have:=h1.fold;rw[hy] at this;exact hyx this
   have HFW:=h_ hfw;clear hfw hy;obtain⟨z0,z1,z2,z3,z4,z5,z6,z7,z8⟩:=blk9 (HBx.out wr (Frm.refl _ _));unfold stV at KT KQ
   by_cases hyx:y=x
   ·rw[decide_eq_true hyx] at KQ HY
    have HYX:=h_ hyx;clear hyx;go_wp2
    go_region_with (first
     | (go_at_call 10;refine(KT.out _ (fR wr).drew).mono ?_;rintro r w4 ⟨fo',fe',it',se',ts',rfl,hin,hf4⟩;have HF5:Hid (Frm Nix wr w4):=(fR wr).drew.trans hf4;have KQ2:=h_ (KQ.out _ _ _ _ _ _ _ HF5.out hin);obtain⟨q0,q1,q2,q3,q4,q5,q6,q7,q8⟩:=blk9 (HBx.out _ HF5.out);clear hin hf4)
     | (go_at_call 41;refine KQ2.out.mono ?_;rintro r w5 ⟨rfl,hf5⟩;have HF6:=h_ (HF5.out.trans hf5);clear hf5))
    all_goals
     go_wp2
     go_ret2
     have hs:=HS3.out.nix HF6.out;rw[HYX.out] at hs;refine .inl ⟨HY.out,g,M,A,c,?_,hs,?_,fun k hk=>Nat.le_trans (Nat.le_trans HF0.out.size HR.out.frm.size) (HG.out k hk)⟩
     ·rw[HLP.out,HLN.out]
      rfl
     ·rw[HLP.out,HLN.out]
      exact(HR.out.more (HF3.out.trans HF6.out)).since HF0.out
   ·rw[decide_eq_false hyx] at KQ HY
    clear hyx;go_wp2
    go_region_with (first
     | (go_at_call 10;refine(KT.out _ (fR wr).drew).mono ?_;rintro r w4 ⟨fo',fe',it',se',ts',rfl,hin,hf4⟩;have HF5:Hid (Frm Nix wr w4):=(fR wr).drew.trans hf4;have KQ2:=h_ (KQ.out _ _ _ _ _ _ _ HF5.out hin);obtain⟨q0,q1,q2,q3,q4,q5,q6,q7,q8⟩:=blk9 (HBx.out _ HF5.out);clear hin hf4)
     | (go_at_call 41;refine KQ2.out.mono ?_;rintro r w5 ⟨rfl,hf5⟩;have HF6:=h_ (HF5.out.trans hf5);clear hf5))
    all_goals
     go_wp2
     go_ret2
     exact .inr ⟨HY.out,rfl,HFW.out.trans HF6.out⟩
section
section
variable {w:World} {fo fe it se:Sl} {ts:List (Sl×Itm)} {x:St} {G:Nat→Prop}
theorem box_st(w:World)(fo fe it se:Sl)(x:St):∃ w0,w0=w.alloc (.cells #[.int .i64 x.clock,.slice fo.1 x.fols.length fo.2,.slice fe.1 x.fees.length fe.2,.slice it.1 x.itms.length it.2,.slice se.1 x.seas.length se.2,.int .i64 x.tFol,.int .i64 x.tFee,.int .i64 x.tItm,.int .i64 x.tSea] 30)∧Frm Nix w w0∧Blk w0 w.heap.size 30 #[.int .i64 x.clock,.slice fo.1 x.fols.length fo.2,.slice fe.1 x.fees.length fe.2,.slice it.1 x.itms.length it.2,.slice se.1 x.seas.length se.2,.int .i64 x.tFol,.int .i64 x.tFee,.int .i64 x.tItm,.int .i64 x.tSea]:=
 ⟨_,rfl,(fR w).alloc _,Blk.new w _ _⟩
theorem From_yes(hS:StIn w G fo fe it se ts x)(hsm:StSmall x)(hp:(pastS x).length≤900000)(hI:∀ e ∈ pastS x,I64 e.a∧I64 e.b)(hok:stOk x=true):
  Calls Tryz.prog 39 #[stV fo fe it se x] w fun e w'=>∃ g M,e=.returned (.tuple #[.pointer (some ⟨g,0,none⟩),.int .i64 0])∧StAt w' g M x∧Frm Nix w w'∧∀ k,SF g M k→w.heap.size≤k:=by
 obtain⟨w0,hw0,hf0,hb0⟩:=box_st w fo fe it se x;obtain⟨x0,x1,x2,x3,x4,x5,x6,x7,x8⟩:=blk9 hb0
 have KB:Hid (Calls Tryz.prog 63 #[stV fo fe it se x] w0 fun e w'=>∃ g M A c,e=.returned (.tuple #[.pointer (some ⟨g,0,none⟩),.slice A (pastS x).length c])∧StAt w' g M x∧Frm Nix w w'∧∀ k,SF g M k→w.heap.size≤k):=
  (built_any (hS.nix hf0) hsm hp hI).mono fun e w' h=>by
   rcases h with ⟨-,g,M,A,c,h1,h2,h3,h4⟩ | ⟨h1,-⟩
   ·exact⟨g,M,A,c,h1,h2,hf0.trans h3.frm,fun k hk=>Nat.le_trans hf0.size (h4 k hk)⟩
   ·rw[hok] at h1
    cases h1
 have HW:=h_ hw0;clear hS hsm hp hI hok hw0 hf0 hb0;unfold stV at *;go_enter Tryz.func39,Tryz.ntmps39;go_wp2_with (go_at_call 63;rw[← HW.out];refine KB.out.mono ?_;rintro r w1 ⟨g,M,A,c,rfl,h1,h2,h3⟩;have H:=h_ (And.intro h1 (And.intro h2 h3));clear h1 h2 h3)
 go_ret2
 exact⟨g,M,rfl,H.out⟩
theorem From_no(hS:StIn w G fo fe it se ts x)(hsm:StSmall x)(hp:(pastS x).length≤900000)(hI:∀ e ∈ pastS x,I64 e.a∧I64 e.b)(hok:stOk x=false):
  Calls Tryz.prog 39 #[stV fo fe it se x] w fun e w'=>e=.returned (.tuple #[.pointer none,.int .i64 210])∧Frm Nix w w':=by
 obtain⟨w0,hw0,hf0,hb0⟩:=box_st w fo fe it se x;obtain⟨x0,x1,x2,x3,x4,x5,x6,x7,x8⟩:=blk9 hb0
 have KB:Hid (Calls Tryz.prog 63 #[stV fo fe it se x] w0 fun e w'=>e=.returned (.tuple #[.pointer none,.slice none 0 0])∧Frm Nix w w'):=
  (built_any (hS.nix hf0) hsm hp hI).mono fun e w' h=>by
   rcases h with ⟨h1,-⟩ | ⟨-,h1,h2⟩
   ·rw[hok] at h1
    cases h1
   ·exact⟨h1,hf0.trans h2⟩
 have HW:=h_ hw0;clear hS hsm hp hI hok hw0 hf0 hb0;unfold stV at *;go_enter Tryz.func39,Tryz.ntmps39;go_wp2_with (go_at_call 63;rw[← HW.out];refine KB.out.mono ?_;rintro r w1 ⟨rfl,h1⟩;have H:=h_ h1;clear h1)
 go_ret2
 exact⟨rfl,H.out⟩
theorem Check_any(hS:StIn w G fo fe it se ts x)(hsm:StSmall x)(hp:(pastS x).length≤900000)(hI:∀ e ∈ pastS x,I64 e.a∧I64 e.b):
  Calls Tryz.prog 40 #[stV fo fe it se x] w fun e w'=>e=.returned (.int .i64 (if stOk x=true then 0 else 210))∧Frm Nix w w':=by
 obtain⟨w0,hw0,hf0,hb0⟩:=box_st w fo fe it se x;obtain⟨x0,x1,x2,x3,x4,x5,x6,x7,x8⟩:=blk9 hb0
 have KB:Hid (Calls Tryz.prog 39 #[stV fo fe it se x] w0 fun e w'=>∃ p,e=.returned (.tuple #[.pointer p,.int .i64 (if stOk x=true then 0 else 210)])∧Frm Nix w w'):=by
  cases hok:stOk x with
  | true=>exact(From_yes (hS.nix hf0) hsm hp hI hok).mono fun e w' ⟨g,M,h1,h2,h3,h4⟩=>⟨_,h1,hf0.trans h3⟩
  | false=>exact(From_no (hS.nix hf0) hsm hp hI hok).mono fun e w' ⟨h1,h2⟩=>⟨_,h1,hf0.trans h2⟩
 have HW:=h_ hw0;clear hS hsm hp hI hw0 hf0 hb0;unfold stV at *;generalize (if stOk x=true then (0:Int) else 210)=r at *;go_enter Tryz.func40,Tryz.ntmps40;go_wp2_with (go_at_call 39;rw[← HW.out];refine KB.out.mono ?_;rintro q w1 ⟨p,rfl,h1⟩;have H:=h_ h1;clear h1);go_ret;exact⟨rfl,H.out⟩
theorem History_yes(hS:StIn w G fo fe it se ts x)(hsm:StSmall x)(hp:(pastS x).length≤900000)(hI:∀ e ∈ pastS x,I64 e.a∧I64 e.b)(hok:stOk x=true):
  Calls Tryz.prog 18 #[stV fo fe it se x] w fun e w'=>∃ A c,e=.returned (.slice A (pastS x).length c)∧RowK 38 7 w w' (.slice A (pastS x).length c) (pastS x).length ((pastS x).flatMap Ev.cells):=by
 obtain⟨w0,hw0,hf0,hb0⟩:=box_st w fo fe it se x;obtain⟨x0,x1,x2,x3,x4,x5,x6,x7,x8⟩:=blk9 hb0
 have KB:Hid (Calls Tryz.prog 63 #[stV fo fe it se x] w0 fun e w'=>∃ g A c,e=.returned (.tuple #[.pointer (some ⟨g,0,none⟩),.slice A (pastS x).length c])∧RowK 38 7 w w' (.slice A (pastS x).length c) (pastS x).length ((pastS x).flatMap Ev.cells)):=
  (built_any (hS.nix hf0) hsm hp hI).mono fun e w' h=>by
   rcases h with ⟨-,g,M,A,c,h1,h2,h3,h4⟩ | ⟨h1,-⟩
   ·exact⟨g,A,c,h1,h3.since hf0⟩
   ·rw[hok] at h1
    cases h1
 have HW:=h_ hw0;clear hS hsm hp hI hok hw0 hf0 hb0;unfold stV at *;generalize (pastS x).flatMap Ev.cells=L at *;generalize (pastS x).length=n at *;go_enter Tryz.func18,Tryz.ntmps18;go_wp2_with (go_at_call 63;rw[← HW.out];refine KB.out.mono ?_;rintro r w1 ⟨g,A,c,rfl,h1⟩;have H:=h_ h1;clear h1);go_ret;exact⟨A,c,rfl,H.out⟩
end
end
def bU:ByteArray:=⟨#[117]⟩
def bT:ByteArray:=⟨#[116]⟩
def bG:ByteArray:=⟨#[103]⟩
def bGo:ByteArray:=⟨#[103,111]⟩
def lItm:Itm:=⟨5,1,7,bG,eS,eS,false,false,[bGo]⟩
def lX:St:=⟨0,[],[⟨1,0,bU,bT⟩],[lItm],[],0,1,5,0⟩
def lX1:St:=⟨0,[],[⟨1,0,bU,bT⟩],[],[],0,1,0,0⟩
def lX2:St:=⟨0,[],[⟨1,0,bU,bT⟩],[⟨5,1,7,bG,eS,eS,false,false,[]⟩],[],0,1,5,0⟩
def lY:St:=⟨0,[],[],[],[],0,1,5,0⟩
def lZ:St:=⟨0,[],[],[],[],0,0,1,0⟩
theorem l1:applyS st0 ⟨3,1,0,0,bU,bT,eS⟩=(lX1,true):=by decide+kernel
theorem l2:applyS lX1 ⟨3,2,0,0,bU,bT,eS⟩=(lX1,false):=by decide+kernel
theorem l3:applyS lX1 ⟨7,5,1,7,bG,eS,eS⟩=(lX2,true):=by decide+kernel
theorem l4:applyS lX2 ⟨10,5,0,1,bGo,eS,eS⟩=(lX,true):=by decide+kernel
theorem l5:fits lX ⟨4,1,0,0,eS,eS,eS⟩=true:=by decide+kernel
theorem l6:applyS lX ⟨4,1,0,0,eS,eS,eS⟩=(lY,true):=by decide+kernel
theorem l7:guidS lX 1 bG=5:=by decide+kernel
theorem l8:placeS lX bU=1:=by decide+kernel
theorem l9:itmAt lX 5=lItm:=by decide+kernel
theorem l10:isI Itm.id 5 lX.itms=true:=by decide+kernel
theorem l11:stOk lX=true:=by decide+kernel
theorem l12:stOk lZ=false:=by decide+kernel
theorem l13:(pastS lX).length=6:=by decide+kernel
theorem l14:(pastS lZ).length=0:=by decide+kernel
theorem l15:lX≠lY:=by decide+kernel
theorem small_of{x:St}(h:decide (x.fols.length≤100∧x.fees.length≤100∧x.itms.length≤100∧x.seas.length≤100)=true)(ht:x.itms.all (fun t=>decide (t.tags.length≤100))=true):StSmall x:=by
 simp only[decide_eq_true_eq] at h;exact⟨by omega,by omega,by omega,by omega,fun t hm=>by have:=List.all_eq_true.1 ht t hm;simp only[decide_eq_true_eq] at this;omega⟩
theorem lX_small:StSmall lX:=small_of (by decide+kernel) (by decide+kernel)
theorem lY_small:StSmall lY:=small_of (by decide+kernel) (by decide+kernel)
theorem lZ_small:StSmall lZ:=small_of (by decide+kernel) (by decide+kernel)
theorem i64_of{l:List Ev}(h:l.all (fun e=>decide (-9223372036854775808≤e.a∧e.a≤9223372036854775807∧ -9223372036854775808≤e.b∧e.b≤9223372036854775807))=true):∀ e ∈ l,I64 e.a∧I64 e.b:=fun e he=>by
 have:=List.all_eq_true.1 h e he;simp only[decide_eq_true_eq] at this;exact⟨⟨this.1,this.2.1⟩,this.2.2.1,this.2.2.2⟩
theorem lX_i64:∀ e ∈ pastS lX,I64 e.a∧I64 e.b:=i64_of (by decide+kernel)
theorem lZ_i64:∀ e ∈ pastS lZ,I64 e.a∧I64 e.b:=i64_of (by decide+kernel)
theorem ap1{w:World}{g:Nat}{M:Ms}(h:StAt w g M st0):Calls Tryz.prog 14 #[.pointer (some ⟨g,0,none⟩),.agg #[.int .i64 3,.int .i64 1,.int .i64 0,.int .i64 0,.string ⟨#[117]⟩,.string ⟨#[116]⟩,.string ⟨#[]⟩]] w fun e w'=>e=.returned (.bool true)∧StAt w' g M lX1∧Frm (SF g M) w w':=by
 have:=Apply_any h ⟨3,1,0,0,⟨#[117]⟩,⟨#[116]⟩,⟨#[]⟩⟩ ⟨by decide,by decide⟩ ⟨by decide,by decide⟩;rw[show applyS st0 ⟨3,1,0,0,⟨#[117]⟩,⟨#[116]⟩,⟨#[]⟩⟩=(lX1,true) from l1] at this;exact this
theorem ap2{w:World}{g:Nat}{M:Ms}(h:StAt w g M lX1):Calls Tryz.prog 14 #[.pointer (some ⟨g,0,none⟩),.agg #[.int .i64 3,.int .i64 2,.int .i64 0,.int .i64 0,.string ⟨#[117]⟩,.string ⟨#[116]⟩,.string ⟨#[]⟩]] w fun e w'=>e=.returned (.bool false)∧StAt w' g M lX1∧Frm (SF g M) w w':=by
 have:=Apply_any h ⟨3,2,0,0,⟨#[117]⟩,⟨#[116]⟩,⟨#[]⟩⟩ ⟨by decide,by decide⟩ ⟨by decide,by decide⟩;rw[show applyS lX1 ⟨3,2,0,0,⟨#[117]⟩,⟨#[116]⟩,⟨#[]⟩⟩=(lX1,false) from l2] at this;exact this
theorem ap3{w:World}{g:Nat}{M:Ms}(h:StAt w g M lX1):Calls Tryz.prog 14 #[.pointer (some ⟨g,0,none⟩),.agg #[.int .i64 7,.int .i64 5,.int .i64 1,.int .i64 7,.string ⟨#[103]⟩,.string ⟨#[]⟩,.string ⟨#[]⟩]] w fun e w'=>e=.returned (.bool true)∧StAt w' g M lX2∧Frm (SF g M) w w':=by
 have:=Apply_any h ⟨7,5,1,7,⟨#[103]⟩,⟨#[]⟩,⟨#[]⟩⟩ ⟨by decide,by decide⟩ ⟨by decide,by decide⟩;rw[show applyS lX1 ⟨7,5,1,7,⟨#[103]⟩,⟨#[]⟩,⟨#[]⟩⟩=(lX2,true) from l3] at this;exact this
theorem ap4{w:World}{g:Nat}{M:Ms}(h:StAt w g M lX2):Calls Tryz.prog 14 #[.pointer (some ⟨g,0,none⟩),.agg #[.int .i64 10,.int .i64 5,.int .i64 0,.int .i64 1,.string ⟨#[103,111]⟩,.string ⟨#[]⟩,.string ⟨#[]⟩]] w fun e w'=>e=.returned (.bool true)∧StAt w' g M lX∧Frm (SF g M) w w':=by
 have:=Apply_any h ⟨10,5,0,1,⟨#[103,111]⟩,⟨#[]⟩,⟨#[]⟩⟩ ⟨by decide,by decide⟩ ⟨by decide,by decide⟩;rw[show applyS lX2 ⟨10,5,0,1,⟨#[103,111]⟩,⟨#[]⟩,⟨#[]⟩⟩=(lX,true) from l4] at this;exact this
theorem ap5{w:World}{g:Nat}{M:Ms}(h:StAt w g M lX):Calls Tryz.prog 14 #[.pointer (some ⟨g,0,none⟩),.agg #[.int .i64 4,.int .i64 1,.int .i64 0,.int .i64 0,.string ⟨#[]⟩,.string ⟨#[]⟩,.string ⟨#[]⟩]] w fun e w'=>e=.returned (.bool true)∧StAt w' g M lY∧Frm (SF g M) w w':=by
 have:=Apply_any h ⟨4,1,0,0,⟨#[]⟩,⟨#[]⟩,⟨#[]⟩⟩ ⟨by decide,by decide⟩ ⟨by decide,by decide⟩;rw[show applyS lX ⟨4,1,0,0,⟨#[]⟩,⟨#[]⟩,⟨#[]⟩⟩=(lY,true) from l6] at this;exact this
theorem fi5{w:World}{g:Nat}{M:Ms}(h:StAt w g M lX):Calls Tryz.prog 13 #[.pointer (some ⟨g,0,none⟩),.agg #[.int .i64 4,.int .i64 1,.int .i64 0,.int .i64 0,.string ⟨#[]⟩,.string ⟨#[]⟩,.string ⟨#[]⟩]] w fun e w'=>e=.returned (.bool true)∧Frm Nix w w':=by
 have:=Fits_any h ⟨4,1,0,0,⟨#[]⟩,⟨#[]⟩,⟨#[]⟩⟩ ⟨by decide,by decide⟩ ⟨by decide,by decide⟩;rw[show fits lX ⟨4,1,0,0,⟨#[]⟩,⟨#[]⟩,⟨#[]⟩⟩=true from l5] at this;exact this
theorem gu5{w:World}{g:Nat}{M:Ms}(h:StAt w g M lX):Calls Tryz.prog 36 #[.pointer (some ⟨g,0,none⟩),.int .i64 1,.string ⟨#[103]⟩] w fun e w'=>e=.returned (.tuple #[.int .i64 5,.bool true])∧w=w':=by
 have:=Guid_any h (b:=1) ⟨by decide,by decide⟩ ⟨#[103]⟩ (by decide);rw[show guidS lX 1 ⟨#[103]⟩=5 from l7] at this;exact this
theorem pl5{w:World}{g:Nat}{M:Ms}(h:StAt w g M lX):Calls Tryz.prog 35 #[.pointer (some ⟨g,0,none⟩),.string ⟨#[117]⟩] w fun e w'=>e=.returned (.tuple #[.int .i64 1,.bool true])∧w=w':=by
 have:=Place_any h ⟨#[117]⟩ (by decide);rw[show placeS lX ⟨#[117]⟩=1 from l8] at this;exact this
theorem it5{w:World}{g:Nat}{M:Ms}(h:StAt w g M lX):Calls Tryz.prog 32 #[.pointer (some ⟨g,0,none⟩),.int .i64 5] w fun e w'=>∃ v':Sl,e=.returned (.tuple #[.agg #[.int .i64 5,.int .i64 1,.int .i64 7,.string ⟨#[103]⟩,.string ⟨#[]⟩,.string ⟨#[]⟩,.bool false,.bool false,.slice v'.1 1 v'.2],.bool true])∧SlIn w' (fun k=>w.heap.size≤k) 1 v' lItm.tags.length (lItm.tags.map Value.string)∧Frm Nix w w':=by
 have:=Item_any h (i:=5) ⟨by decide,by decide⟩;rw[l9,l10] at this;exact this
theorem fr5(w:World):Calls Tryz.prog 39 #[.agg #[.int .i64 0,.slice none 0 0,.slice none 0 0,.slice none 0 0,.slice none 0 0,.int .i64 0,.int .i64 0,.int .i64 1,.int .i64 0]] w fun e w'=>e=.returned (.tuple #[.pointer none,.int .i64 210])∧Frm Nix w w':=
 From_no (x:=lZ) (fo:=(none,0)) (fe:=(none,0)) (it:=(none,0)) (se:=(none,0)) (ts:=[]) (G:=fun _=>True) ⟨SlIn.none_ _ _ _,SlIn.none_ _ _ _,⟨SlIn.none_ _ _ _,fun _ h=>by cases h⟩,rfl,SlIn.none_ _ _ _⟩ lZ_small (by rw[l14];omega) lZ_i64 l12
theorem fo5(w:World):Calls Tryz.prog 15 #[.slice none 0 0] w fun e w'=>∃ g,e=.returned (.pointer (some ⟨g,0,none⟩))∧Frm Nix w w':=
 (Fold_any (v:=(none,0)) (G:=fun _=>True) [] (SlIn.none_ _ _ _) (fun _ h=>by cases h) (by simp)).mono fun e w' ⟨g,M,q1,q2,q3,q4⟩=>⟨g,q1,q3⟩
structure LData(w w9:World)(n:Nat):Prop where
 frm:Frm Nix w w9
 x:StIn w9 (fun _=>True) (none,0) (some ⟨n,0,none⟩,1) (some ⟨n+2,0,none⟩,1) (none,0) [((some ⟨n+1,0,none⟩,1),lItm)] lX
 y:StIn w9 (fun _=>True) (none,0) (none,0) (none,0) (none,0) [] lY
 b8:Blk w9 (n+3) 30 #[.int .i64 0,.slice none 0 0,.slice (some ⟨n,0,none⟩) 1 1,.slice (some ⟨n+2,0,none⟩) 1 1,.slice none 0 0,.int .i64 0,.int .i64 1,.int .i64 5,.int .i64 0]
 b9:Blk w9 (n+4) 30 #[.int .i64 0,.slice none 0 0,.slice none 0 0,.slice none 0 0,.slice none 0 0,.int .i64 0,.int .i64 1,.int .i64 5,.int .i64 0]
 bi:Blk w9 (n+2) 54 #[.int .i64 5,.int .i64 1,.int .i64 7,.string ⟨#[103]⟩,.string ⟨#[]⟩,.string ⟨#[]⟩,.bool false,.bool false,.slice (some ⟨n+1,0,none⟩) 1 1]
theorem LData.nix{w w9 w2:World}{n:Nat}(h:LData w w9 n)(hf:Frm Nix w9 w2):LData w w2 n:=⟨h.frm.trans hf,h.x.nix hf,h.y.nix hf,h.b8.frm hf id,h.b9.frm hf id,h.bi.frm hf id⟩
theorem ldata(w8:World):∃ w9,w9=((((w8.alloc (.cells #[.int .i64 1,.int .i64 0,.string ⟨#[117]⟩,.string ⟨#[116]⟩] 51)).alloc (.cells #[.string ⟨#[103,111]⟩] 9)).alloc (.cells #[.int .i64 5,.int .i64 1,.int .i64 7,.string ⟨#[103]⟩,.string ⟨#[]⟩,.string ⟨#[]⟩,.bool false,.bool false,.slice (some ⟨w8.heap.size+1,0,none⟩) 1 1] 54)).alloc (.cells #[.int .i64 0,.slice none 0 0,.slice (some ⟨w8.heap.size,0,none⟩) 1 1,.slice (some ⟨w8.heap.size+2,0,none⟩) 1 1,.slice none 0 0,.int .i64 0,.int .i64 1,.int .i64 5,.int .i64 0] 30)).alloc (.cells #[.int .i64 0,.slice none 0 0,.slice none 0 0,.slice none 0 0,.slice none 0 0,.int .i64 0,.int .i64 1,.int .i64 5,.int .i64 0] 30)∧LData w8 w9 w8.heap.size:=by
 refine⟨_,rfl,?_⟩;obtain⟨wa,ha⟩:∃ wa,wa=w8.alloc (.cells #[.int .i64 1,.int .i64 0,.string ⟨#[117]⟩,.string ⟨#[116]⟩] 51):=⟨_,rfl⟩;have sa:wa.heap.size=w8.heap.size+1:=by rw[ha];simp
 have fa:Frm Nix w8 wa:=by rw[ha];exact(fR w8).alloc _
 have ba:Blk wa w8.heap.size 51 #[.int .i64 1,.int .i64 0,.string ⟨#[117]⟩,.string ⟨#[116]⟩]:=by rw[ha];exact Blk.new _ _ _
 rw[← ha];obtain⟨wb,hb⟩:∃ wb,wb=wa.alloc (.cells #[.string ⟨#[103,111]⟩] 9):=⟨_,rfl⟩;have sb:wb.heap.size=w8.heap.size+2:=by rw[hb];simp[sa]
 have fb:Frm Nix wa wb:=by rw[hb];exact(fR wa).alloc _
 have bb:Blk wb (w8.heap.size+1) 9 #[.string ⟨#[103,111]⟩]:=by rw[← sa,hb];exact Blk.new _ _ _
 rw[← hb];obtain⟨wc,hc⟩:∃ wc,wc=wb.alloc (.cells #[.int .i64 5,.int .i64 1,.int .i64 7,.string ⟨#[103]⟩,.string ⟨#[]⟩,.string ⟨#[]⟩,.bool false,.bool false,.slice (some ⟨w8.heap.size+1,0,none⟩) 1 1] 54):=⟨_,rfl⟩;have sc:wc.heap.size=w8.heap.size+3:=by rw[hc];simp[sb]
 have fc:Frm Nix wb wc:=by rw[hc];exact(fR wb).alloc _
 have bc:Blk wc (w8.heap.size+2) 54 #[.int .i64 5,.int .i64 1,.int .i64 7,.string ⟨#[103]⟩,.string ⟨#[]⟩,.string ⟨#[]⟩,.bool false,.bool false,.slice (some ⟨w8.heap.size+1,0,none⟩) 1 1]:=by rw[← sb,hc];exact Blk.new _ _ _
 rw[← hc];obtain⟨wd,hd⟩:∃ wd,wd=wc.alloc (.cells #[.int .i64 0,.slice none 0 0,.slice (some ⟨w8.heap.size,0,none⟩) 1 1,.slice (some ⟨w8.heap.size+2,0,none⟩) 1 1,.slice none 0 0,.int .i64 0,.int .i64 1,.int .i64 5,.int .i64 0] 30):=⟨_,rfl⟩;have sd:wd.heap.size=w8.heap.size+4:=by rw[hd];simp[sc]
 have fd:Frm Nix wc wd:=by rw[hd];exact(fR wc).alloc _
 have bd:Blk wd (w8.heap.size+3) 30 #[.int .i64 0,.slice none 0 0,.slice (some ⟨w8.heap.size,0,none⟩) 1 1,.slice (some ⟨w8.heap.size+2,0,none⟩) 1 1,.slice none 0 0,.int .i64 0,.int .i64 1,.int .i64 5,.int .i64 0]:=by rw[← sc,hd];exact Blk.new _ _ _
 rw[← hd];have fe:=(fR wd).alloc (.cells #[.int .i64 0,.slice none 0 0,.slice none 0 0,.slice none 0 0,.slice none 0 0,.int .i64 0,.int .i64 1,.int .i64 5,.int .i64 0] 30);have be:Blk (wd.alloc (.cells #[.int .i64 0,.slice none 0 0,.slice none 0 0,.slice none 0 0,.slice none 0 0,.int .i64 0,.int .i64 1,.int .i64 5,.int .i64 0] 30)) (w8.heap.size+4) 30 #[.int .i64 0,.slice none 0 0,.slice none 0 0,.slice none 0 0,.slice none 0 0,.int .i64 0,.int .i64 1,.int .i64 5,.int .i64 0]:=by rw[← sd];exact Blk.new _ _ #[.int .i64 0,.slice none 0 0,.slice none 0 0,.slice none 0 0,.slice none 0 0,.int .i64 0,.int .i64 1,.int .i64 5,.int .i64 0]
 generalize wd.alloc (.cells #[.int .i64 0,.slice none 0 0,.slice none 0 0,.slice none 0 0,.slice none 0 0,.int .i64 0,.int .i64 1,.int .i64 5,.int .i64 0] 30)=w9 at fe be ⊢;have ba9:=ba.frm (((fb.trans fc).trans fd).trans fe) id;have bb9:=bb.frm ((fc.trans fd).trans fe) id;have bc9:=bc.frm (fd.trans fe) id;have mx:∀ n:Nat,n≤1→n≤maxLen:=fun n hn=>by unfold maxLen;omega
 exact⟨(((fa.trans fb).trans fc).trans fd).trans fe,⟨SlIn.none_ _ _ _,⟨(Rd.of_obj ba9 1 rfl).mono fun _ _=>trivial,(fun h=>by cases h),Nat.le_refl _,mx 1 (Nat.le_refl _)⟩,⟨⟨(Rd.of_obj bc9 1 rfl).mono fun _ _=>trivial,(fun h=>by cases h),Nat.le_refl _,mx 1 (Nat.le_refl _)⟩,fun p hp=>by
  simp only[List.mem_singleton] at hp;subst hp;exact⟨(Rd.of_obj bb9 1 rfl).mono fun _ _=>trivial,(fun h=>by cases h),Nat.le_refl _,mx 1 (Nat.le_refl _)⟩⟩,rfl,SlIn.none_ _ _ _⟩,⟨SlIn.none_ _ _ _,SlIn.none_ _ _ _,⟨SlIn.none_ _ _ _,fun _ h=>by cases h⟩,rfl,SlIn.none_ _ _ _⟩,bd.frm fe id,be,bc9⟩
end Go.Proofs.YtlafbakoefcifaaGreat
