/- Words. -/
import Derived.Test.YtaecjmiobllhmaaGreatGp02
import Derived.Test.YtaecjmiobllhmaaGreatGp06
set_option linter.unusedVariables false
set_option linter.unusedSimpArgs false
set_option maxRecDepth 100000
set_option maxHeartbeats 16000000
namespace Go.Proofs.YtaecjmiobllhmaaGreat
open Go.Lib Go.RowKit
def rightG:Nat→List UInt8→Bool
 | 0,_=>true
 | n+1,l=>if l=[] then true else if decodeL l=(65533,1) then false else rightG n (l.drop (decodeL l).2)
def rightD(l:List UInt8):Bool:=rightG l.length l
theorem rightG_nil:∀n,rightG n []=true
 | 0=>rfl
 | _+1=>by simp[rightG]
theorem rightG_fuel:∀(n m:Nat) (l:List UInt8),l.length≤n→l.length≤m→rightG n l=rightG m l
 | 0,m,l,hn,_=>by
   have:l=[]:=List.eq_nil_of_length_eq_zero (by omega);subst this
   rw[rightG_nil,rightG_nil]
 | n+1,0,l,_,hm=>by
   have:l=[]:=List.eq_nil_of_length_eq_zero (by omega);subst this
   rw[rightG_nil,rightG_nil]
 | n+1,m+1,l,hn,hm=>by
   by_cases hne:l=[]
   ·subst hne
    rw[rightG_nil,rightG_nil]
   ·have hw:=decodeL_width l
    have hl:0<l.length:=List.length_pos_iff.2 hne;simp only[rightG,if_neg hne];rw[rightG_fuel n m _ (by rw[List.length_drop];omega) (by rw[List.length_drop];omega)]
theorem rightD_nil:rightD []=true:=rfl
theorem rightD_bad(l:List UInt8)(h:decodeL l=(65533,1))(hne:l≠[]):rightD l=false:=by
 have hl:0<l.length:=List.length_pos_iff.2 hne;unfold rightD;obtain⟨n,hn⟩:∃n,l.length=n+1:=⟨l.length - 1,by omega⟩;rw[hn];simp[rightG,hne,h]
theorem rightD_step(l:List UInt8)(h:decodeL l≠(65533,1))(hne:l≠[]):rightD l=rightD (l.drop (decodeL l).2):=by
 have hw:=decodeL_width l;have hl:0<l.length:=List.length_pos_iff.2 hne;unfold rightD;obtain⟨n,hn⟩:∃n,l.length=n+1:=⟨l.length - 1,by omega⟩;rw[hn];simp only[rightG,if_neg hne,if_neg h];exact rightG_fuel _ _ _ (by rw[List.length_drop];omega) (by rw[List.length_drop];exact Nat.le_refl _)
theorem three_of{l:List UInt8}(h:2<l.length):∃t,l=l.getD 0 0::l.getD 1 0::l.getD 2 0::t:=by
 match l,h with
 | _::_::_::t,_=>exact⟨t,by simp⟩
theorem u8_of_nat{x:UInt8}{n:Nat}(h:x.toNat=n):x=UInt8.ofNat n:=by
 rw[←h];simp
theorem bad_prefix(l:List UInt8)(h:(decodeL l).1=65533):decodeL l=(65533,1)∨decodeL l=(65533,3)∧∃t,l=239::191::189::t:=by
 rw[decodeL_N] at h ⊢;have k0:=(l.getD 0 0).toNat_lt;have k1:=(l.getD 1 0).toNat_lt;have k2:=(l.getD 2 0).toNat_lt;rcases decodeN_shape l.length (l.getD 0 0).toNat (l.getD 1 0).toNat (l.getD 2 0).toNat (l.getD 3 0).toNat with ⟨c,e⟩ | ⟨c1,c2,c3,cv,e⟩ | ⟨c1,c2,c3,c4,cv,cs,e⟩ | ⟨c1,c2,c3,c4,c5,cv,cw,e⟩ | e
 ·rw[e] at h
  simp only at h;omega
 ·rw[e] at h
  simp only at h;omega
 ·rw[e] at h ⊢
  simp only at h
  right
  refine⟨by rw[h],?_⟩;obtain⟨t,ht⟩:=three_of c2;have e0:(l.getD 0 0).toNat=239:=by omega
  have e1:(l.getD 1 0).toNat=191:=by omega
  have e2:(l.getD 2 0).toNat=189:=by omega
  refine⟨t,?_⟩;rw[u8_of_nat e0,u8_of_nat e1,u8_of_nat e2] at ht;exact ht
 ·rw[e] at h
  simp only at h;omega
 ·exact .inl e
theorem good_prefix(t:List UInt8):decodeL (239::191::189::t)≠(65533,1):=by
 rw[decodeL_N];simp[decodeN]
theorem bad_iff(l:List UInt8)(h:(decodeL l).1=65533):decodeL l=(65533,1)↔¬∃t,l=239::191::189::t:=by
 constructor
 ·rintro h1 ⟨t,rfl⟩
  exact good_prefix t h1
 ·intro hn
  rcases bad_prefix l h with h1 | ⟨-,h1⟩
  ·exact h1
  ·exact absurd h1 hn
def blankR(c:Nat):Bool:=decide (c=9∨c=10∨c=13∨c=32∨c=160∨c=8232∨c=8233∨c=12288)
def ctrlR(c:Nat):Bool:=decide (c<32∨127≤c∧c≤159)
def cleanR:List Nat→List Nat→Bool→List Nat
 | [],out,_=>out
 | c::r,out,wt=>if blankR c=true then cleanR r out (!out.isEmpty) else if ctrlR c=true then cleanR r out wt else cleanR r ((if wt=true then out++[32] else out)++[c]) false
def cleanS(l:List UInt8):List UInt8:=enc (cleanR (runesD l) [] false)
theorem enc_isEmpty(rs:List Nat):(enc rs).isEmpty=rs.isEmpty:=by
 cases rs with
 | nil=>rfl
 | cons a r=>
   have:=(enc_len (a::r)).1
   cases h:enc (a::r) with
   | nil=>rw[h] at this;simp at this
   | cons _ _=>rfl
theorem uBlank_any(c:Nat)(w:World)(hc:c≤1114111):Calls Tryz.prog 135 #[.int .i32 c] w λe w'=>e=.returned (.bool (blankR c))∧w=w':=by
 go_enter Tryz.func135,Tryz.ntmps135;go_wp2
 all_goals
  go_ret;refine⟨ret_bool ?_,rfl⟩
  try simp only[beq_iff_eq,bne_iff_ne,bne_eq_false_iff_eq,beq_eq_false_iff_ne,ne_eq,decide_eq_true_eq,decide_eq_false_iff_not,Bool.or_eq_true,Bool.or_eq_false_iff,Bool.and_eq_true,Bool.and_eq_false_iff] at *
  unfold blankR;rw[Bool.eq_iff_iff];simp
  try omega
theorem uCtrl_any(c:Nat)(w:World)(hc:c≤1114111):Calls Tryz.prog 137 #[.int .i32 c] w λe w'=>e=.returned (.bool (ctrlR c))∧w=w':=by
 go_enter Tryz.func137,Tryz.ntmps137;go_wp2
 all_goals
  go_ret;refine⟨ret_bool ?_,rfl⟩
  try simp only[beq_iff_eq,bne_iff_ne,bne_eq_false_iff_eq,beq_eq_false_iff_ne,ne_eq,decide_eq_true_eq,decide_eq_false_iff_not,Bool.or_eq_true,Bool.or_eq_false_iff,Bool.and_eq_true,Bool.and_eq_false_iff] at *
  unfold ctrlR;rw[Bool.eq_iff_iff];simp
  try omega
theorem hasPrefix_bad(s:ByteArray)(pos:Nat):Lib.hasPrefix (s.extract pos s.size).data.toList ({data:=#[239,191,189]}:ByteArray).data.toList=true↔∃t,(bys s).drop pos=239::191::189::t:=by
 have e:(s.extract pos s.size).data.toList=(bys s).drop pos:=bys_cut s pos;rw[e];show (([239,191,189]:List UInt8).isPrefixOf ((bys s).drop pos))=true↔_
 rw[List.isPrefixOf_iff_prefix];constructor
 ·rintro⟨t,ht⟩
  exact⟨t,ht.symm⟩
 ·rintro⟨t,ht⟩
  exact⟨t,ht.symm⟩
theorem uRight_any(s:ByteArray)(w:World)(hs:s.size≤1000000):
  Calls Tryz.prog 232 #[.string s] w λe w'=>e=.returned (.bool (rightD (bys s)))∧Frm Nix w w':=by
 go_enter Tryz.func232,Tryz.ntmps232;go_wp2
 go_loopw [] (λwr=>∃(pos:Nat),wr.heap[w.heap.size]? =some (.stringIter s pos)∧Frm Nix w wr∧rightD ((bys s).drop pos)=rightD (bys s)∧pos≤s.size) (λwr=>s.size - wr.iterPos w.heap.size)
 case atStart=>exact⟨0,World.iter_heap w s 0,(fR w).alloc _,by simp,Nat.zero_le _⟩
 case round=>
  obtain⟨pos,hit,hfr,hr,hps⟩:=hrel;have HF:=h_ hfr;have HR:=h_ hr;clear hfr hr
  by_cases hlt:pos<s.size
  ·have hnx:∀ty,(Instr.next (.pointer (some ⟨w.heap.size,0,none⟩)) true ty).run Tryz.prog wr=_:=λty=>Lib.run_next_any_at wr w.heap.size s pos ty hit hlt
   obtain⟨hd1,hd2,hd3⟩:=drop_step s pos hlt;have hdc:=decodeL_drop s pos
   have hne:(bys s).drop pos≠[]:=λe=>by
    have:=congrArg List.length e;rw[List.length_drop,←size_bys] at this;simp at this;omega
   have hit2:=Lib.iterAt_heap wr w.heap.size s pos (pos+(Utf8.decode s pos).2) hit;have hfi:=frm_iterAt wr w.heap.size s (pos+(Utf8.decode s pos).2);have HF2:Hid (Frm Nix w (wr.iterAt w.heap.size s (pos+(Utf8.decode s pos).2))):=HF.out.next hfi λi hi=>.inr (by rw[hi];exact Nat.le_refl _)
   have HBad:=h_ (rightD_bad ((bys s).drop pos));have HStep:=h_ (rightD_step ((bys s).drop pos));have HIff:=h_ (bad_iff ((bys s).drop pos));have HPre:=h_ (hasPrefix_bad s pos);have HNe:=h_ hne;rw[hdc] at HBad HStep HIff;rw[List.drop_drop] at HStep;clear hd1 hdc hfi hne;have hpi:(0:Int)≤(pos:Int):=Int.natCast_nonneg _;have hpl:(pos:Int)≤(s.size:Int):=by omega
   generalize hRK:Utf8.decode s pos=RK at *;obtain⟨R,K⟩:=RK;simp only at *;clear hRK;generalize wr.iterAt w.heap.size s (pos+K)=wi at *
   have HMe:Hid (s.size - wi.iterPos w.heap.size<s.size - wr.iterPos w.heap.size):=by
    unfold Hid;simp only[World.iterPos,hit,hit2];omega
   by_cases hR:R=65533
   ·subst hR
    have KP:=Tryz.strings_HasPrefix (s.extract pos s.size) {data:=#[239,191,189]}
    cases hpre:Lib.hasPrefix (s.extract pos s.size).data.toList ({data:=#[239,191,189]}:ByteArray).data.toList with
    | true=>
      have hgo:((65533:Nat),K)≠(65533,1):=λe=>(HIff.out rfl).1 e (HPre.out.1 hpre)
      have HG:Hid (rightD ((bys s).drop (pos+K))=rightD (bys s)):=(HStep.out hgo HNe.out).symm.trans HR.out;rw[hpre] at KP;have KP:=h_ KP;clear hpre hgo;go_wp2_with (go_at_call 242;refine(KP.out _).mono ?_;rintro e w' ⟨rfl,rfl⟩);go_roundw
      case rel=>exact⟨pos+K,hit2,HF2.out,HG.out,hd2⟩
      case measure=>exact HMe.out
    | false=>
      have hno:¬∃t,(bys s).drop pos=239::191::189::t:=λh=>by
       rw[HPre.out.2 h] at hpre
       cases hpre
      have HG:Hid (rightD (bys s)=false):=HR.out.symm.trans (HBad.out ((HIff.out rfl).2 hno) HNe.out);rw[hpre] at KP;have KP:=h_ KP;clear hpre hno;go_wp2_with (go_at_call 242;refine(KP.out _).mono ?_;rintro e w' ⟨rfl,rfl⟩);go_ret;exact⟨by rw[HG.out];rfl,HF2.out⟩
   ·have hb:((R:Int)==65533)=false:=by simp;omega
    have hgo:(R,K)≠(65533,1):=λe=>hR (congrArg Prod.fst e)
    have HG:Hid (rightD ((bys s).drop (pos+K))=rightD (bys s)):=(HStep.out hgo HNe.out).symm.trans HR.out;clear hgo;go_wp2_with fail;go_roundw
    case rel=>exact⟨pos+K,hit2,HF2.out,HG.out,hd2⟩
    case measure=>exact HMe.out
  ·have hnx:∀ty,(Instr.next (.pointer (some ⟨w.heap.size,0,none⟩)) true ty).run Tryz.prog wr=_:=λty=>Lib.run_next_end_at wr w.heap.size s pos ty hit hlt
   have HG:Hid (rightD (bys s)=true):=by
    have h1:(bys s).drop pos=[]:=List.drop_eq_nil_iff.2 (by rw[←size_bys];omega);have h2:=HR.out;rw[h1,rightD_nil] at h2;exact h2.symm
   go_wp2;go_ret;exact⟨by rw[HG.out];rfl,HF.out⟩
theorem WriteByte_any{w0 w:World}{b n:Nat}{p v:Value}{bs:List Value}(hb0:w0.heap.size≤b)(hp:p=.pointer none∨p=selfP b)(hb:Blk w b 175 #[p,v])(hr:RowIn 5 w0 w v n bs)(r:Int)(hn:n+1≤140737488355328):
  Calls Tryz.prog 138 #[.pointer (some ⟨b,0,none⟩),.int .u8 r] w λe w'=>e=.returned .nilIface∧
   ∃v',Blk w' b 175 #[selfP b,v']∧RowIn 5 w0 w' v' (n+1) (bs++[.int .u8 r])∧Frm (λk=>k=b∨v.ownBlock=some k) w w':=by
 have HR:=h_ hr;have HB:=h_ hb;obtain⟨A,c,rfl,-,-,hcm,-⟩:=hr.shape;have hne:=hr.ne_blk hb ne_ub;clear hr hb;go_enter Tryz.func138,Tryz.ntmps138;go_wp2_with fail;refine(copyCheck_any b w p _ hp HB.out).mono ?_;rintro e w1 ⟨rfl,hb1,hf1⟩;have hr1':RowIn 5 w0 w1 (.slice A n c) n bs:=HR.out.far hf1 (λk hk=>by rw[hk];exact hb0) (λk hk e=>hne (by rw[hk,e]));have c1:=hb1.cell 1;simp at c1;have hbl:=hb1.lt;obtain⟨v2,w2,hrun,hrow2,hf2,-⟩:=hr1'.push (P:=Tryz.prog) elemB (.int .u8 r) rfl (by unfold maxLen;omega) (by omega);obtain⟨A2,c2,rfl,-,-,hcm2,-⟩:=hrow2.shape;have hb2:Blk w2 b 175 #[selfP b,.slice A n c]:=(hb1.alloc (.cells #[.int .u8 r] 5)).frm hf2 hne;have d1:=hb2.cell 1;have f1:=hb2.frozen 1;simp at d1;have H1:=h_ (And.intro hb1 (And.intro hf1 hr1'));have H2:=h_ (And.intro hb2 (And.intro hf2 hrow2));clear hb1 hf1 hr1' hb2 hf2 hrow2;go_wp2_with (at_builtin;refine wpList_append_run hrun rfl _ _ rfl rfl rfl ?_);go_ret;obtain⟨hb2,hf2,hr2⟩:=H2.out;have hne2:=hr2.ne_blk hb2 ne_ub;refine⟨rfl,_,hb2.set_ 1 _,hr2.far ((Frm.refl (λk=>k=b) w2).setCell (.inl rfl) _) (λk hk=>by rw[hk];exact hb0) (λk hk e=>hne2 (by rw[hk,e])),?_⟩;exact(((H1.out.2.1.mono λk hk=>.inl hk).alloc _).next (hf2.mono λk hk=>.inr hk) λk hk=>.inl hk).trans ((Frm.refl (λk=>k=b∨(Value.slice A n c).ownBlock=some k) w2).setCell (.inl (.inl rfl)) _)
theorem BLen_any{w0 w:World}{b n:Nat}{p v:Value}{bs:List Value}(hb:Blk w b 175 #[p,v])(hr:RowIn 5 w0 w v n bs):
  Calls Tryz.prog 136 #[.pointer (some ⟨b,0,none⟩)] w λe w'=>e=.returned (.int .i64 n)∧w=w':=by
 obtain⟨A,c,rfl,-,-,hcm,-⟩:=hr.shape;have d1:=hb.cell 1;simp at d1;clear hr hb;go_enter Tryz.func136,Tryz.ntmps136;go_wp2;go_ret;exact⟨rfl,rfl⟩
theorem byte32:Lib.byteCells (encR 32)=[.int .u8 32]:=by rfl
theorem enc_one32(l:List Nat):enc (l++[32])=enc l++encR 32:=by rw[enc_append];simp[enc]
theorem encR32_len:(encR 32).length=1:=by decide+kernel
structure CleanAt(w wr:World)(s:ByteArray)(p v:Value)(out:List Nat):Prop where
 hp:p=.pointer none∨p=selfP w.heap.size
 hb:Blk wr w.heap.size 175 #[p,v]
 hr:RowIn 5 w wr v (enc out).length (Lib.byteCells (enc out))
 hv:∀r∈out,Vr r
theorem uClean_any(s:ByteArray)(w:World)(hs:s.size≤1000000):
  Calls Tryz.prog 85 #[.string s] w λe w'=>e=.returned (.string (ofB (cleanS (bys s))))∧Frm Nix w w':=by
 have hb0:=Blk.new w 175 #[.pointer none,.slice none 0 0];go_enter Tryz.func85,Tryz.ntmps85;go_wp2
 go_loopw [4] (λwv wr=>∃(pos:Nat) (out:List Nat) (wt:Bool) (p v:Value),wv=.bool wt∧CleanAt w wr s p v out∧wr.heap[w.heap.size+1]? =some (.stringIter s pos)∧enc (cleanR (runesD ((bys s).drop pos)) out wt)=cleanS (bys s)∧pos≤s.size∧out.length≤2 * pos) (λ_ wr=>s.size - wr.iterPos (w.heap.size+1))
 case atStart=>
  have hfa:Frm Nix w (w.alloc (.cells #[.pointer none,.slice none 0 0] 175)):=(fR w).alloc _;refine⟨0,[],false,.pointer none,.slice none 0 0,rfl,⟨.inl rfl,hb0.alloc _,RowIn.nil_ _ (hfa.alloc _),by simp⟩,?_,by simp[cleanS],Nat.zero_le _,by simp⟩;have:=World.iter_heap (w.alloc (.cells #[.pointer none,.slice none 0 0] 175)) s 0
  simpa using this
 case round=>
  obtain⟨pos,out,wt,p,v,rfl,hca,hit,hacc,hps,hal⟩:=hrel;have HC:=h_ hca;have HA:=h_ hacc;have hbl:=hca.hb.lt;clear hca hacc
  by_cases hlt:pos<s.size
  ·have hnx:∀ty,(Instr.next (.pointer (some ⟨w.heap.size+1,0,none⟩)) true ty).run Tryz.prog wr=_:=λty=>Lib.run_next_any_at wr (w.heap.size+1) s pos ty hit hlt
   obtain⟨hd1,hd2,hd3⟩:=drop_step s pos hlt;have hv:=decodeL_valid ((bys s).drop pos);rw[decodeL_drop s pos] at hv;have hit2:=Lib.iterAt_heap wr (w.heap.size+1) s pos (pos+(Utf8.decode s pos).2) hit;have hfi:=frm_iterAt wr (w.heap.size+1) s (pos+(Utf8.decode s pos).2);have hni:v.ownBlock≠some (w.heap.size+1):=HC.out.hr.ne_obj hit λ_ _ _ h=>by cases h
   generalize hRK:Utf8.decode s pos=RK at *;obtain⟨R,K⟩:=RK;simp only at *;clear hRK;have HD:=h_ hd1;clear hd1;have HC2:Hid (CleanAt w (wr.iterAt (w.heap.size+1) s (pos+K)) s p v out):=⟨HC.out.hp,HC.out.hb.frm hfi (by omega),HC.out.hr.far hfi (λk hk=>by omega) (λk hk e=>hni (by rw[hk,e])),HC.out.hv⟩
   have hsl:∀w2:World,(∀k,k=w.heap.size+1→w2.heap[k]? =(wr.iterAt (w.heap.size+1) s (pos+K)).heap[k]?)→w2.heap[w.heap.size+1]? =some (.stringIter s (pos+K))∧s.size - w2.iterPos (w.heap.size+1)<s.size - wr.iterPos (w.heap.size+1):=by
    intro w2 h2;have h3:=(h2 _ rfl).trans hit2;refine⟨h3,?_⟩;simp only[World.iterPos,h3,hit];omega
   generalize wr.iterAt (w.heap.size+1) s (pos+K)=wi at *;have HSL:=h_ hsl;have hR:R≤1114111:=by unfold Vr at hv;omega
   have hel:=enc_len out
   have HN:Hid (cleanR (runesD ((bys s).drop pos)) out wt=if blankR R=true then cleanR (runesD ((bys s).drop (pos+K))) out (!out.isEmpty) else if ctrlR R=true then cleanR (runesD ((bys s).drop (pos+K))) out wt else cleanR (runesD ((bys s).drop (pos+K))) ((if wt=true then out++[32] else out)++[R]) false):=by
    unfold Hid;rw[HD.out,cleanR]
   have KB:=λW=>uBlank_any R W hR
   have KC:=λW=>uCtrl_any R W hR
   clear hsl hfi hni
   cases hbk:blankR R with
   | true=>
     have KL:=h_ (BLen_any HC2.out.hb HC2.out.hr)
     have HE:Hid ((decide (0<((enc out).length:Int)))=!out.isEmpty):=by
      unfold Hid;rw[←enc_isEmpty]
      cases enc out<;>simp
     have HG:Hid (enc (cleanR (runesD ((bys s).drop (pos+K))) out (!out.isEmpty))=cleanS (bys s)):=by
      have:=HA.out;rw[HN.out,if_pos hbk] at this;exact this
     rw[hbk] at KB;clear hv hbk hel
     go_wp2_with (first
        | (go_at_call 135;refine(KB _).mono ?_;rintro e w' ⟨rfl,rfl⟩)
        | (go_at_call 136;refine KL.out.mono ?_;rintro e w2 ⟨rfl,rfl⟩))
     go_roundw
     case rel=>exact⟨pos+K,out,!out.isEmpty,p,v,by rw[←HE.out];simp,HC2.out,(HSL.out wi λ_ _=>rfl).1,HG.out,hd2,by omega⟩
     case measure=>exact(HSL.out wi λ_ _=>rfl).2
   | false=>
     rw[hbk] at KB
     cases hct:ctrlR R with
     | true=>
       have HG:Hid (enc (cleanR (runesD ((bys s).drop (pos+K))) out wt)=cleanS (bys s)):=by
        have:=HA.out;rw[HN.out,if_neg (by simp[hbk]),if_pos hct] at this;exact this
       rw[hct] at KC;clear hv hbk hct hel
       go_wp2_with (first
         | (go_at_call 135;refine(KB _).mono ?_;rintro e w' ⟨rfl,rfl⟩)
         | (go_at_call 137;refine(KC _).mono ?_;rintro e w' ⟨rfl,rfl⟩))
       go_roundw
       case rel=>exact⟨pos+K,out,wt,p,v,rfl,HC2.out,(HSL.out wi λ_ _=>rfl).1,HG.out,hd2,by omega⟩
       case measure=>exact(HSL.out wi λ_ _=>rfl).2
     | false=>
       have HG:Hid (enc (cleanR (runesD ((bys s).drop (pos+K))) ((if wt=true then out++[32] else out)++[R]) false)=cleanS (bys s)):=by
        have:=HA.out;rw[HN.out,if_neg (by simp[hbk]),if_neg (by simp[hct])] at this;exact this
       rw[hct] at KC;clear hbk hct;have hone:(enc [R]).length≤4:=(enc_len [R]).2
       have HW:Hid (∀(W:World) (p' v':Value) (o:List Nat),CleanAt w W s p' v' o→W.heap[w.heap.size+1]? =some (.stringIter s (pos+K))→o.length≤2 * pos+1→
         Calls Tryz.prog 139 #[.pointer (some ⟨w.heap.size,0,none⟩),.int .i32 R] W λe w'=>e=.returned (.tuple #[.int .i64 (runeCells R).length,.nilIface])∧∃v2,CleanAt w w' s (selfP w.heap.size) v2 (o++[R])∧w'.heap[w.heap.size+1]? =W.heap[w.heap.size+1]?):=by
        intro W p' v' o hc hh ho;have heo:=enc_len o;refine(WriteRune_any (Nat.le_refl _) hc.hp hc.hb hc.hr (R:Int) (by omega) (by omega) (by omega)).mono ?_;rintro e w2 ⟨rfl,v2,hb2,hr2,hf2⟩;have e1:(enc (o++[R])).length=(enc o).length+(runeCells (R:Int)).length:=by rw[enc_append,List.length_append,runeCells_length];simp[enc];rfl
        have e2:Lib.byteCells (encR R)=runeCells (R:Int):=byteCells_encodeRune _;have e3:Lib.byteCells (enc (o++[R]))=Lib.byteCells (enc o)++runeCells (R:Int):=by rw[enc_append,byteCells_append,←e2];simp[enc]
        refine⟨rfl,v2,⟨.inr rfl,hb2,by rw[e1,e3];exact hr2,λr hr=>?_⟩,?_⟩
        ·rcases List.mem_append.1 hr with hr | hr
         ·exact hc.hv r hr
         ·simp at hr
          rw[hr];exact hv
        ·refine hf2.block _ (lt_of_obj hh) (λh=>?_)
         rcases h with h | h
         ·omega
         ·exact hc.hr.ne_obj hh (λ_ _ _ h=>by cases h) h
       cases wt with
       | false=>
         have KW:=h_ (HW.out wi p v out HC2.out hit2 (by omega));clear hv hel hone
         go_wp2_with (first
          | (go_at_call 135;refine(KB _).mono ?_;rintro e w' ⟨rfl,rfl⟩)
          | (go_at_call 137;refine(KC _).mono ?_;rintro e w' ⟨rfl,rfl⟩)
          | (go_at_call 139;refine KW.out.mono ?_;rintro e w2 ⟨rfl,v2,hc2,hh2⟩;have HX:=h_ (And.intro hc2 hh2);clear hc2 hh2))
         go_roundw
         case rel=>exact⟨pos+K,out++[R],false,selfP w.heap.size,v2,rfl,HX.out.1,(HSL.out w2 λk hk=>by rw[hk];exact HX.out.2).1,HG.out,hd2,by simp;omega⟩
         case measure=>exact(HSL.out w2 λk hk=>by rw[hk];exact HX.out.2).2
       | true=>
         have KB1:=h_ (WriteByte_any (Nat.le_refl _) HC2.out.hp HC2.out.hb HC2.out.hr 32 (by omega))
         have HB1:Hid (∀(w2:World) (v1:Value),Blk w2 w.heap.size 175 #[selfP w.heap.size,v1]→RowIn 5 w w2 v1 ((enc out).length+1) (Lib.byteCells (enc out)++[.int .u8 32])→Frm (λk=>k=w.heap.size∨v.ownBlock=some k) wi w2→CleanAt w w2 s (selfP w.heap.size) v1 (out++[32])∧w2.heap[w.heap.size+1]? =wi.heap[w.heap.size+1]?):=by
          intro w2 v1 h1 h2 h3;refine⟨⟨.inr rfl,h1,by rw[enc_one32,List.length_append,byteCells_append,byte32,encR32_len];exact h2,λr hr=>?_⟩,h3.block _ (lt_of_obj hit2) (λh=>?_)⟩
          ·rcases List.mem_append.1 hr with hr | hr
           ·exact HC2.out.hv r hr
           ·simp at hr
            rw[hr];unfold Vr;omega
          ·rcases h with h | h
           ·omega
           ·exact HC2.out.hr.ne_obj hit2 (λ_ _ _ h=>by cases h) h
         clear hv hel hone
         go_wp2_with (first
          | (go_at_call 135;refine(KB _).mono ?_;rintro e w' ⟨rfl,rfl⟩)
          | (go_at_call 137;refine(KC _).mono ?_;rintro e w' ⟨rfl,rfl⟩)
          | (go_at_call 138;refine KB1.out.mono ?_;rintro e w1 ⟨rfl,v1,hc1,hc2,hc3⟩;have HY:=h_ (HB1.out w1 v1 hc1 hc2 hc3);clear hc1 hc2 hc3)
          | (go_at_call 139;refine(HW.out w1 _ v1 _ HY.out.1 (HY.out.2.trans hit2) (by simp;omega)).mono ?_;rintro e w2 ⟨rfl,v2,hc2,hh2⟩;have HX:=h_ (And.intro hc2 (hh2.trans HY.out.2));clear hc2 hh2))
         go_roundw
         case rel=>exact⟨pos+K,out++[32]++[R],false,selfP w.heap.size,v2,rfl,HX.out.1,(HSL.out w2 λk hk=>by rw[hk];exact HX.out.2).1,HG.out,hd2,by simp;omega⟩
         case measure=>exact(HSL.out w2 λk hk=>by rw[hk];exact HX.out.2).2
  ·have hnx:∀ty,(Instr.next (.pointer (some ⟨w.heap.size+1,0,none⟩)) true ty).run Tryz.prog wr=_:=λty=>Lib.run_next_end_at wr (w.heap.size+1) s pos ty hit hlt
   have hel:=enc_len out
   have hI:Lib.IsBuilder 175 5 w.heap.size w.heap.size (Lib.byteCells (enc out)) wr:=by
    have h1:BuilderAt 175 5 w.heap.size w.heap.size p (Lib.byteCells (enc out)) wr:=⟨Nat.le_refl _,v,HC.out.hb,by rw[Lib.byteCells_length];exact HC.out.hr.own,HC.out.hr.ne_blk HC.out.hb ne_ub⟩;rcases HC.out.hp with e | e
    ·subst e;exact .inl h1
    ·subst e;exact .inr h1
   have KS:=h_ (Tryz.Builder_String_any w.heap.size w.heap.size (enc out) wr hI (by omega))
   have HAcc:Hid (enc out=cleanS (bys s)):=by
    have h1:(bys s).drop pos=[]:=List.drop_eq_nil_iff.2 (by rw[←size_bys];omega);have h2:=HA.out;rw[h1,runesD_nil,cleanR] at h2;exact h2
   have HF:=h_ HC.out.hr.frm;clear hI hel;go_wp2_with (go_at_call 140;refine KS.out.mono ?_;rintro e w1 ⟨rfl,hbel⟩);go_ret;have hs0:=HF.out.size;have hfb:Frm (λk=>w.heap.size≤k) wr w1:=⟨hbel.os,hbel.tape,hbel.output,hbel.size,λi _ hn=>hbel.block i (by omega)⟩;exact⟨by rw[HAcc.out];rfl,HF.out.next hfb λi hi=>.inr hi⟩
end Go.Proofs.YtaecjmiobllhmaaGreat
