/- Words. -/
import Derived.Test.YtaecjmiobllhmaaGreatGq06
set_option linter.unusedVariables false
set_option linter.unusedSimpArgs false
set_option maxRecDepth 100000
set_option maxHeartbeats 16000000
namespace Go.Proofs.YtaecjmiobllhmaaGreat
open Go.Value renaming int→I,string→V,slice→U,pointer→O
open Go.IntKind renaming i64→J
open Tryz renaming prog→pQ
open Go.Lib Go.RowKit
variable {n:Nat}{w0 w:World}{b:Nat}{p v:Value}{bs:List Value}
def pZ:Nat→List UInt8→Bool
 | 0,_=>true
 | n+1,l=>if l=[] then true else if decodeL l=(65533,1) then false else pZ n (l.drop (decodeL l).2)
def dY(l:List UInt8):Bool:=pZ l.length l
theorem mr:∀n,pZ n []=true
 | 0=>rfl
 | _+1=>by simp[pZ]
theorem uy:∀(n m:Nat) (l:List UInt8),l.length≤n→l.length≤m→pZ n l=pZ m l
 | 0,m,l,hn,_=>by
   have:l=[]:=List.eq_nil_of_length_eq_zero (by omega);subst this
   rw[mr,mr]
 | n+1,0,l,_,hm=>by
   have:l=[]:=List.eq_nil_of_length_eq_zero (by omega);subst this
   rw[mr,mr]
 | n+1,m+1,l,hn,hm=>by
   by_cases hne:l=[]
   ·subst hne
    rw[mr,mr]
   ·have hw:=decodeL_width l
    have hl:0<l.length:=List.length_pos_iff.2 hne;simp only[pZ,if_neg hne];rw[uy n m _ (by rw[List.length_drop];omega) (by rw[List.length_drop];omega)]
theorem vL:dY []=true:=rfl
theorem vM(l:List UInt8)(h:decodeL l=(65533,1))(hne:l≠[]):dY l=false:=by
 have hl:0<l.length:=List.length_pos_iff.2 hne;unfold dY;obtain⟨n,hn⟩:∃n,l.length=n+1:=⟨l.length-1,by omega⟩;rw[hn];simp[pZ,hne,h]
theorem qH(l:List UInt8)(h:decodeL l≠(65533,1))(hne:l≠[]):dY l=dY (l.drop (decodeL l).2):=by
 have hw:=decodeL_width l;have hl:0<l.length:=List.length_pos_iff.2 hne;unfold dY;obtain⟨n,hn⟩:∃n,l.length=n+1:=⟨l.length-1,by omega⟩;rw[hn];simp only[pZ,if_neg hne,if_neg h];exact uy _ _ _ (by rw[List.length_drop];omega) (by rw[List.length_drop];exact Nat.le_refl _)
theorem Ia{l:List UInt8}(h:2<l.length):∃t,l=l.getD 0 0::l.getD 1 0::l.getD 2 0::t:=by
 match l,h with
 | _::_::_::t,_=>exact⟨t,by simp⟩
theorem tX{x:UInt8}(h:x.toNat=n):x=UInt8.ofNat n:=by
 rw[←h];simp
theorem CO(l:List UInt8)(h:(decodeL l).1=65533):decodeL l=(65533,1)∨decodeL l=(65533,3)∧∃t,l=239::191::189::t:=by
 rw[decodeL_N] at h ⊢;have k0:=(l.getD 0 0).toNat_lt;have k1:=(l.getD 1 0).toNat_lt;have k2:=(l.getD 2 0).toNat_lt;rcases decodeN_shape l.length (l.getD 0 0).toNat (l.getD 1 0).toNat (l.getD 2 0).toNat (l.getD 3 0).toNat with ⟨c,e⟩|⟨c1,c2,c3,cv,e⟩|⟨c1,c2,c3,c4,cv,cs,e⟩|⟨c1,c2,c3,c4,c5,cv,cw,e⟩|e
 ·rw[e] at h
  simp only at h;omega
 ·rw[e] at h
  simp only at h;omega
 ·rw[e] at h ⊢
  simp only at h
  right
  refine⟨by rw[h],?_⟩;obtain⟨t,ht⟩:=Ia c2;have e0:(l.getD 0 0).toNat=239:=by omega
  have e1:(l.getD 1 0).toNat=191:=by omega
  have e2:(l.getD 2 0).toNat=189:=by omega
  refine⟨t,?_⟩;rw[tX e0,tX e1,tX e2] at ht;exact ht
 ·rw[e] at h
  simp only at h;omega
 ·exact .inl e
theorem AB(t:List UInt8):decodeL (239::191::189::t)≠(65533,1):=by
 rw[decodeL_N];simp[decodeN]
theorem Kf(l:List UInt8)(h:(decodeL l).1=65533):decodeL l=(65533,1)↔¬∃t,l=239::191::189::t:=by
 constructor
 ·rintro h1 ⟨t,rfl⟩
  exact AB t h1
 ·intro hn
  rcases CO l h with h1|⟨-,h1⟩
  ·exact h1
  ·exact absurd h1 hn
def mY(c:Nat):Bool:=decide (c=9∨c=10∨c=13∨c=32∨c=160∨c=8232∨c=8233∨c=12288)
def qI(c:Nat):Bool:=decide (c<32∨127≤c∧c≤159)
def bh:List Nat→List Nat→Bool→List Nat
 | [],out,_=>out
 | c::r,out,wt=>if mY c=true then bh r out (!out.isEmpty) else if qI c=true then bh r out wt else bh r ((if wt=true then out++[32] else out)++[c]) false
def dP(l:List UInt8):List UInt8:=enc (bh (cV l) [] false)
theorem nG:∀(rs out:List Nat) (wt:Bool),(bh rs out wt).length≤out.length+2 * rs.length
 | [],out,wt=>by simp[bh]
 | c::r,out,wt=>by
   unfold bh;split
   ·have:=nG r out (!out.isEmpty)
    simp only[List.length_cons];omega
   ·split
    ·have:=nG r out wt
     simp only[List.length_cons];omega
    ·have:=nG r ((if wt=true then out++[32] else out)++[c]) false
     have h2:((if wt=true then out++[32] else out)++[c]).length≤out.length+2:=by
      split<;>simp
     simp only[List.length_cons];omega
theorem jb:∀(rs out:List Nat) (wt:Bool),(∀r∈rs,Vr r)→(∀r∈out,Vr r)→∀r∈bh rs out wt,Vr r
 | [],out,wt,_,ho=>by simpa [bh] using ho
 | c::r,out,wt,hr,ho=>by
   have h1:∀x∈r,Vr x:=λx hx=>hr x (List.mem_cons_of_mem _ hx)
   unfold bh;split
   ·exact jb r out _ h1 ho
   ·split
    ·exact jb r out wt h1 ho
    ·refine jb r _ false h1 λx hx=>?_
     have HJ:Vr 32:=by unfold Vr;omega
     rcases List.mem_append.1 hx with hx|hx
     ·split at hx
      ·rcases List.mem_append.1 hx with hx|hx
       ·exact ho x hx
       ·simp at hx
        subst hx;exact HJ
      ·exact ho x hx
     ·simp at hx
      subst hx;exact hr x (List.mem_cons_self ..)
theorem AC(rs:List Nat):(enc rs).isEmpty=rs.isEmpty:=by
 cases rs with
 | nil=>rfl
 | cons a r=>
   have:=(mI (a::r)).1
   cases h:enc (a::r) with
   | nil=>rw[h] at this;simp at this
   | cons _ _=>rfl
theorem CP(c:Nat)(w:World)(hc:c≤1114111):Calls pQ 135 #[.int .i32 c] w λe w'=>e=.returned (.bool (mY c))∧w=w':=by
 go_enter Tryz.func135,Tryz.ntmps135;go_wp2
 all_goals
  go_ret;refine⟨af ?_,rfl⟩
  try simp only[beq_iff_eq,bne_iff_ne,bne_eq_false_iff_eq,beq_eq_false_iff_ne,ne_eq,decide_eq_true_eq,decide_eq_false_iff_not,Bool.or_eq_true,Bool.or_eq_false_iff,Bool.and_eq_true,Bool.and_eq_false_iff] at *
  unfold mY;rw[Bool.eq_iff_iff];simp
  try omega
theorem FC(c:Nat)(w:World)(hc:c≤1114111):Calls pQ 137 #[.int .i32 c] w λe w'=>e=.returned (.bool (qI c))∧w=w':=by
 go_enter Tryz.func137,Tryz.ntmps137;go_wp2
 all_goals
  go_ret;refine⟨af ?_,rfl⟩
  try simp only[beq_iff_eq,bne_iff_ne,bne_eq_false_iff_eq,beq_eq_false_iff_ne,ne_eq,decide_eq_true_eq,decide_eq_false_iff_not,Bool.or_eq_true,Bool.or_eq_false_iff,Bool.and_eq_true,Bool.and_eq_false_iff] at *
  unfold qI;rw[Bool.eq_iff_iff];simp
  try omega
theorem xr(s:ByteArray)(pos:Nat):Lib.hasPrefix (s.extract pos s.size).data.toList ({data:=#[239,191,189]}:ByteArray).data.toList=true↔∃t,(aX s).drop pos=239::191::189::t:=by
 have e:(s.extract pos s.size).data.toList=(aX s).drop pos:=uY s pos;rw[e];show (([239,191,189]:List UInt8).isPrefixOf ((aX s).drop pos))=true↔_
 rw[List.isPrefixOf_iff_prefix];constructor
 ·rintro⟨t,ht⟩
  exact⟨t,ht.symm⟩
 ·rintro⟨t,ht⟩
  exact⟨t,ht.symm⟩
theorem CQ(s:ByteArray)(w:World)(hs:s.size≤1000000):
  Calls pQ 232 #[V s] w λe w'=>e=.returned (.bool (dY (aX s)))∧aa ac w w':=by
 go_enter Tryz.func232,Tryz.ntmps232;go_wp2
 go_loopw [] (λwr=>∃(pos:Nat),wr.heap[w.heap.size]? =some (.stringIter s pos)∧aa ac w wr∧dY ((aX s).drop pos)=dY (aX s)∧pos≤s.size) (λwr=>s.size-wr.iterPos w.heap.size)
 case atStart=>exact⟨0,World.iter_heap w s 0,(fR w).alloc _,by simp,Nat.zero_le _⟩
 case round=>
  obtain⟨pos,hit,hfr,hr,Pj⟩:=hrel;have HF:=h_ hfr;have HR:=h_ hr;clear hfr hr
  by_cases hlt:pos<s.size
  ·have EP:∀ty,(Instr.next (O (some ⟨w.heap.size,0,none⟩)) true ty).run pQ wr=_:=λty=>Lib.run_next_any_at wr w.heap.size s pos ty hit hlt
   obtain⟨JX,CE,UG⟩:=tR s pos hlt;have UO:=decodeL_drop s pos
   have hne:(aX s).drop pos≠[]:=λe=>by
    have:=congrArg List.length e;rw[List.length_drop,←aT] at this;simp at this;omega
   have ng:=Lib.iterAt_heap wr w.heap.size s pos (pos+(Utf8.decode s pos).2) hit;have CG:=nD wr w.heap.size s (pos+(Utf8.decode s pos).2);have qx:Hid (aa ac w (wr.iterAt w.heap.size s (pos+(Utf8.decode s pos).2))):=HF.out.next CG λi hi=>.inr (by rw[hi];exact Nat.le_refl _)
   have og:=h_ (vM ((aX s).drop pos));have dc:=h_ (qH ((aX s).drop pos));have M3:=h_ (Kf ((aX s).drop pos));have Po:=h_ (xr s pos);have vd:=h_ hne;rw[UO] at og dc M3;rw[List.drop_drop] at dc;clear JX UO CG hne;have uR:(0:Int)≤(pos:Int):=Int.natCast_nonneg _;have hpl:(pos:Int)≤(s.size:Int):=by omega
   generalize CM:Utf8.decode s pos=RK at *;obtain⟨R,K⟩:=RK;simp only at *;clear CM;generalize wr.iterAt w.heap.size s (pos+K)=wi at *
   have Ra:Hid (s.size-wi.iterPos w.heap.size<s.size-wr.iterPos w.heap.size):=by
    unfold Hid;simp only[World.iterPos,hit,ng];omega
   by_cases hR:R=65533
   ·subst hR
    have KP:=Tryz.strings_HasPrefix (s.extract pos s.size) {data:=#[239,191,189]}
    cases hpre:Lib.hasPrefix (s.extract pos s.size).data.toList ({data:=#[239,191,189]}:ByteArray).data.toList with
    | true=>
      have hgo:((65533:Nat),K)≠(65533,1):=λe=>(M3.out rfl).1 e (Po.out.1 hpre)
      have HG:Hid (dY ((aX s).drop (pos+K))=dY (aX s)):=(dc.out hgo vd.out).symm.trans HR.out;rw[hpre] at KP;have KP:=h_ KP;clear hpre hgo;go_wp2_with (go_at_call 242;refine(KP.out _).mono ?_;rintro e w' ⟨rfl,rfl⟩);go_roundw
      case rel=>exact⟨pos+K,ng,qx.out,HG.out,CE⟩
      case measure=>exact Ra.out
    | false=>
      have hno:¬∃t,(aX s).drop pos=239::191::189::t:=λh=>by
       rw[Po.out.2 h] at hpre
       cases hpre
      have HG:Hid (dY (aX s)=false):=HR.out.symm.trans (og.out ((M3.out rfl).2 hno) vd.out);rw[hpre] at KP;have KP:=h_ KP;clear hpre hno;go_wp2_with (go_at_call 242;refine(KP.out _).mono ?_;rintro e w' ⟨rfl,rfl⟩);go_ret;exact⟨by rw[HG.out];rfl,qx.out⟩
   ·have hb:((R:Int)==65533)=false:=by simp;omega
    have hgo:(R,K)≠(65533,1):=λe=>hR (congrArg Prod.fst e)
    have HG:Hid (dY ((aX s).drop (pos+K))=dY (aX s)):=(dc.out hgo vd.out).symm.trans HR.out;clear hgo;go_wp2_with fail;go_roundw
    case rel=>exact⟨pos+K,ng,qx.out,HG.out,CE⟩
    case measure=>exact Ra.out
  ·have EP:∀ty,(Instr.next (O (some ⟨w.heap.size,0,none⟩)) true ty).run pQ wr=_:=λty=>Lib.run_next_end_at wr w.heap.size s pos ty hit hlt
   have HG:Hid (dY (aX s)=true):=by
    have h1:(aX s).drop pos=[]:=List.drop_eq_nil_iff.2 (by rw[←aT];omega);have h2:=HR.out;rw[h1,vL] at h2;exact h2.symm
   go_wp2;go_ret;exact⟨by rw[HG.out];rfl,HF.out⟩
theorem xt(hb0:w0.heap.size≤b)(hp:p=O none∨p=nC b)(hb:ai w b 175 #[p,v])(hr:aK 5 w0 w v n bs)(r:Int)(hn:n+1≤140737488355328):
  Calls pQ 138 #[O (some ⟨b,0,none⟩),.int .u8 r] w λe w'=>e=.returned .nilIface∧
   ∃v',ai w' b 175 #[nC b,v']∧aK 5 w0 w' v' (n+1) (bs++[.int .u8 r])∧aa (λk=>k=b∨v.ownBlock=some k) w w':=by
 have HR:=h_ hr;have HB:=h_ hb;obtain⟨A,c,rfl,-,-,hcm,-⟩:=hr.shape;have hne:=hr.ne_blk hb xO;clear hr hb;go_enter Tryz.func138,Tryz.ntmps138;go_wp2_with fail;refine(rC b w p _ hp HB.out).mono ?_;rintro e w1 ⟨rfl,hb1,jg⟩;have xn:aK 5 w0 w1 (U A n c) n bs:=HR.out.far jg (λk hk=>by rw[hk];exact hb0) (λk hk e=>hne (by rw[hk,e]));have c1:=hb1.cell 1;simp at c1;have hbl:=hb1.lt;obtain⟨v2,w2,hrun,hrow2,hf2,-⟩:=xn.push (P:=pQ) Mm (.int .u8 r) rfl (by unfold maxLen;omega) (by omega);obtain⟨A2,c2,rfl,-,-,Pi,-⟩:=hrow2.shape;have hb2:ai w2 b 175 #[nC b,U A n c]:=(hb1.alloc (.cells #[.int .u8 r] 5)).frm hf2 hne;have d1:=hb2.cell 1;have f1:=hb2.frozen 1;simp at d1;have H1:=h_ (And.intro hb1 (And.intro jg xn));have H2:=h_ (And.intro hb2 (And.intro hf2 hrow2));clear hb1 jg xn hb2 hf2 hrow2;go_wp2_with (at_builtin;refine aq hrun rfl _ _ rfl rfl rfl ?_);go_ret;obtain⟨hb2,hf2,hr2⟩:=H2.out;have MS:=hr2.ne_blk hb2 xO;refine⟨rfl,_,hb2.set_ 1 _,hr2.far ((aa.refl (λk=>k=b) w2).setCell (.inl rfl) _) (λk hk=>by rw[hk];exact hb0) (λk hk e=>MS (by rw[hk,e])),?_⟩;exact(((H1.out.2.1.mono λk hk=>.inl hk).alloc _).next (hf2.mono λk hk=>.inr hk) λk hk=>.inl hk).trans ((aa.refl (λk=>k=b∨(Value.slice A n c).ownBlock=some k) w2).setCell (.inl (.inl rfl)) _)
theorem Ib(hb:ai w b 175 #[p,v])(hr:aK 5 w0 w v n bs):
  Calls pQ 136 #[O (some ⟨b,0,none⟩)] w λe w'=>e=.returned (I J n)∧w=w':=by
 obtain⟨A,c,rfl,-,-,hcm,-⟩:=hr.shape;have d1:=hb.cell 1;simp at d1;clear hr hb;go_enter Tryz.func136,Tryz.ntmps136;go_wp2;go_ret;exact⟨rfl,rfl⟩
theorem M4:Lib.byteCells (en 32)=[.int .u8 32]:=by rfl
theorem FD(l:List Nat):enc (l++[32])=enc l++en 32:=by rw[eF];simp[enc]
theorem CR:(en 32).length=1:=by decide+kernel
structure sO(w wr:World)(s:ByteArray)(p v:Value)(out:List Nat):Prop where
 hp:p=O none∨p=nC w.heap.size
 hb:ai wr w.heap.size 175 #[p,v]
 hr:aK 5 w wr v (enc out).length (Lib.byteCells (enc out))
 hv:∀r∈out,Vr r
theorem rR(s:ByteArray)(w:World)(hs:s.size≤1000000):
  Calls pQ 85 #[V s] w λe w'=>e=.returned (V (fB (dP (aX s))))∧aa ac w w':=by
 have hb0:=ai.new w 175 #[O none,U none 0 0];go_enter Tryz.func85,Tryz.ntmps85;go_wp2
 go_loopw [4] (λwv wr=>∃(pos:Nat) (out:List Nat) (wt:Bool) (p v:Value),wv=.bool wt∧sO w wr s p v out∧wr.heap[w.heap.size+1]? =some (.stringIter s pos)∧enc (bh (cV ((aX s).drop pos)) out wt)=dP (aX s)∧pos≤s.size∧out.length≤2 * pos) (λ_ wr=>s.size-wr.iterPos (w.heap.size+1))
 case atStart=>
  have nz:aa ac w (w.alloc (.cells #[O none,U none 0 0] 175)):=(fR w).alloc _;refine⟨0,[],false,O none,U none 0 0,rfl,⟨.inl rfl,hb0.alloc _,aK.nil_ _ (nz.alloc _),by simp⟩,?_,by simp[dP],Nat.zero_le _,by simp⟩;have:=World.iter_heap (w.alloc (.cells #[O none,U none 0 0] 175)) s 0
  simpa using this
 case round=>
  obtain⟨pos,out,wt,p,v,rfl,FE,hit,Hy,Pj,VR⟩:=hrel;have HC:=h_ FE;have HA:=h_ Hy;have hbl:=FE.hb.lt;clear FE Hy
  by_cases hlt:pos<s.size
  ·have EP:∀ty,(Instr.next (O (some ⟨w.heap.size+1,0,none⟩)) true ty).run pQ wr=_:=λty=>Lib.run_next_any_at wr (w.heap.size+1) s pos ty hit hlt
   obtain⟨JX,CE,UG⟩:=tR s pos hlt;have hv:=pz ((aX s).drop pos);rw[decodeL_drop s pos] at hv;have ng:=Lib.iterAt_heap wr (w.heap.size+1) s pos (pos+(Utf8.decode s pos).2) hit;have CG:=nD wr (w.heap.size+1) s (pos+(Utf8.decode s pos).2);have Hz:v.ownBlock≠some (w.heap.size+1):=HC.out.hr.ne_obj hit λ_ _ _ h=>by cases h
   generalize CM:Utf8.decode s pos=RK at *;obtain⟨R,K⟩:=RK;simp only at *;clear CM;have HD:=h_ JX;clear JX;have FH:Hid (sO w (wr.iterAt (w.heap.size+1) s (pos+K)) s p v out):=⟨HC.out.hp,HC.out.hb.frm CG (by omega),HC.out.hr.far CG (λk hk=>by omega) (λk hk e=>Hz (by rw[hk,e])),HC.out.hv⟩
   have dL:∀w2:World,(∀k,k=w.heap.size+1→w2.heap[k]? =(wr.iterAt (w.heap.size+1) s (pos+K)).heap[k]?)→w2.heap[w.heap.size+1]? =some (.stringIter s (pos+K))∧s.size-w2.iterPos (w.heap.size+1)<s.size-wr.iterPos (w.heap.size+1):=by
    intro w2 h2;have h3:=(h2 _ rfl).trans ng;refine⟨h3,?_⟩;simp only[World.iterPos,h3,hit];omega
   generalize wr.iterAt (w.heap.size+1) s (pos+K)=wi at *;have kL:=h_ dL;have hR:R≤1114111:=by unfold Vr at hv;omega
   have hel:=mI out
   have HN:Hid (bh (cV ((aX s).drop pos)) out wt=if mY R=true then bh (cV ((aX s).drop (pos+K))) out (!out.isEmpty) else if qI R=true then bh (cV ((aX s).drop (pos+K))) out wt else bh (cV ((aX s).drop (pos+K))) ((if wt=true then out++[32] else out)++[R]) false):=by
    unfold Hid;rw[HD.out,bh]
   have KB:=λW=>CP R W hR
   have KC:=λW=>FC R W hR
   clear dL CG Hz
   cases tS:mY R with
   | true=>
     have KL:=h_ (Ib FH.out.hb FH.out.hr)
     have HE:Hid ((decide (0<((enc out).length:Int)))=!out.isEmpty):=by
      unfold Hid;rw[←AC]
      cases enc out<;>simp
     have HG:Hid (enc (bh (cV ((aX s).drop (pos+K))) out (!out.isEmpty))=dP (aX s)):=by
      have:=HA.out;rw[HN.out,if_pos tS] at this;exact this
     rw[tS] at KB;clear hv tS hel
     go_wp2_with (first
        | (go_at_call 135;refine(KB _).mono ?_;rintro e w' ⟨rfl,rfl⟩)
        | (go_at_call 136;refine KL.out.mono ?_;rintro e w2 ⟨rfl,rfl⟩))
     go_roundw
     case rel=>exact⟨pos+K,out,!out.isEmpty,p,v,by rw[←HE.out];simp,FH.out,(kL.out wi λ_ _=>rfl).1,HG.out,CE,by omega⟩
     case measure=>exact(kL.out wi λ_ _=>rfl).2
   | false=>
     rw[tS] at KB
     cases FI:qI R with
     | true=>
       have HG:Hid (enc (bh (cV ((aX s).drop (pos+K))) out wt)=dP (aX s)):=by
        have:=HA.out;rw[HN.out,if_neg (by simp[tS]),if_pos FI] at this;exact this
       rw[FI] at KC;clear hv tS FI hel
       go_wp2_with (first
         | (go_at_call 135;refine(KB _).mono ?_;rintro e w' ⟨rfl,rfl⟩)
         | (go_at_call 137;refine(KC _).mono ?_;rintro e w' ⟨rfl,rfl⟩))
       go_roundw
       case rel=>exact⟨pos+K,out,wt,p,v,rfl,FH.out,(kL.out wi λ_ _=>rfl).1,HG.out,CE,by omega⟩
       case measure=>exact(kL.out wi λ_ _=>rfl).2
     | false=>
       have HG:Hid (enc (bh (cV ((aX s).drop (pos+K))) ((if wt=true then out++[32] else out)++[R]) false)=dP (aX s)):=by
        have:=HA.out;rw[HN.out,if_neg (by simp[tS]),if_neg (by simp[FI])] at this;exact this
       rw[FI] at KC;clear tS FI;have xu:(enc [R]).length≤4:=(mI [R]).2
       have HW:Hid (∀(W:World) (p' v':Value) (o:List Nat),sO w W s p' v' o→W.heap[w.heap.size+1]? =some (.stringIter s (pos+K))→o.length≤2 * pos+1→
         Calls pQ 139 #[O (some ⟨w.heap.size,0,none⟩),.int .i32 R] W λe w'=>e=.returned (.tuple #[I J (runeCells R).length,.nilIface])∧∃v2,sO w w' s (nC w.heap.size) v2 (o++[R])∧w'.heap[w.heap.size+1]? =W.heap[w.heap.size+1]?):=by
        intro W p' v' o hc hh ho;have YL:=mI o;refine(rD (Nat.le_refl _) hc.hp hc.hb hc.hr (R:Int) (by omega) (by omega) (by omega)).mono ?_;rintro e w2 ⟨rfl,v2,hb2,hr2,hf2⟩;have e1:(enc (o++[R])).length=(enc o).length+(runeCells (R:Int)).length:=by rw[eF,List.length_append,runeCells_length];simp[enc];rfl
        have e2:Lib.byteCells (en R)=runeCells (R:Int):=byteCells_encodeRune _;have e3:Lib.byteCells (enc (o++[R]))=Lib.byteCells (enc o)++runeCells (R:Int):=by rw[eF,byteCells_append,←e2];simp[enc]
        refine⟨rfl,v2,⟨.inr rfl,hb2,by rw[e1,e3];exact hr2,λr hr=>?_⟩,?_⟩
        ·rcases List.mem_append.1 hr with hr|hr
         ·exact hc.hv r hr
         ·simp at hr
          rw[hr];exact hv
        ·refine hf2.block _ (fA hh) (λh=>?_)
         rcases h with h|h
         ·omega
         ·exact hc.hr.ne_obj hh (λ_ _ _ h=>by cases h) h
       cases wt with
       | false=>
         have KW:=h_ (HW.out wi p v out FH.out ng (by omega));clear hv hel xu
         go_wp2_with (first
          | (go_at_call 135;refine(KB _).mono ?_;rintro e w' ⟨rfl,rfl⟩)
          | (go_at_call 137;refine(KC _).mono ?_;rintro e w' ⟨rfl,rfl⟩)
          | (go_at_call 139;refine KW.out.mono ?_;rintro e w2 ⟨rfl,v2,hc2,Hh⟩;have HX:=h_ (And.intro hc2 Hh);clear hc2 Hh))
         go_roundw
         case rel=>exact⟨pos+K,out++[R],false,nC w.heap.size,v2,rfl,HX.out.1,(kL.out w2 λk hk=>by rw[hk];exact HX.out.2).1,HG.out,CE,by simp;omega⟩
         case measure=>exact(kL.out w2 λk hk=>by rw[hk];exact HX.out.2).2
       | true=>
         have V1:=h_ (xt (Nat.le_refl _) FH.out.hp FH.out.hb FH.out.hr 32 (by omega))
         have gH:Hid (∀(w2:World) (v1:Value),ai w2 w.heap.size 175 #[nC w.heap.size,v1]→aK 5 w w2 v1 ((enc out).length+1) (Lib.byteCells (enc out)++[.int .u8 32])→aa (λk=>k=w.heap.size∨v.ownBlock=some k) wi w2→sO w w2 s (nC w.heap.size) v1 (out++[32])∧w2.heap[w.heap.size+1]? =wi.heap[w.heap.size+1]?):=by
          intro w2 v1 h1 h2 h3;refine⟨⟨.inr rfl,h1,by rw[FD,List.length_append,byteCells_append,M4,CR];exact h2,λr hr=>?_⟩,h3.block _ (fA ng) (λh=>?_)⟩
          ·rcases List.mem_append.1 hr with hr|hr
           ·exact FH.out.hv r hr
           ·simp at hr
            rw[hr];unfold Vr;omega
          ·rcases h with h|h
           ·omega
           ·exact FH.out.hr.ne_obj ng (λ_ _ _ h=>by cases h) h
         clear hv hel xu
         go_wp2_with (first
          | (go_at_call 135;refine(KB _).mono ?_;rintro e w' ⟨rfl,rfl⟩)
          | (go_at_call 137;refine(KC _).mono ?_;rintro e w' ⟨rfl,rfl⟩)
          | (go_at_call 138;refine V1.out.mono ?_;rintro e w1 ⟨rfl,v1,hc1,hc2,hc3⟩;have HY:=h_ (gH.out w1 v1 hc1 hc2 hc3);clear hc1 hc2 hc3)
          | (go_at_call 139;refine(HW.out w1 _ v1 _ HY.out.1 (HY.out.2.trans ng) (by simp;omega)).mono ?_;rintro e w2 ⟨rfl,v2,hc2,Hh⟩;have HX:=h_ (And.intro hc2 (Hh.trans HY.out.2));clear hc2 Hh))
         go_roundw
         case rel=>exact⟨pos+K,out++[32]++[R],false,nC w.heap.size,v2,rfl,HX.out.1,(kL.out w2 λk hk=>by rw[hk];exact HX.out.2).1,HG.out,CE,by simp;omega⟩
         case measure=>exact(kL.out w2 λk hk=>by rw[hk];exact HX.out.2).2
  ·have EP:∀ty,(Instr.next (O (some ⟨w.heap.size+1,0,none⟩)) true ty).run pQ wr=_:=λty=>Lib.run_next_end_at wr (w.heap.size+1) s pos ty hit hlt
   have hel:=mI out
   have hI:Lib.IsBuilder 175 5 w.heap.size w.heap.size (Lib.byteCells (enc out)) wr:=by
    have h1:BuilderAt 175 5 w.heap.size w.heap.size p (Lib.byteCells (enc out)) wr:=⟨Nat.le_refl _,v,HC.out.hb,by rw[Lib.byteCells_length];exact HC.out.hr.own,HC.out.hr.ne_blk HC.out.hb xO⟩;rcases HC.out.hp with e|e
    ·subst e;exact .inl h1
    ·subst e;exact .inr h1
   have KS:=h_ (Tryz.Builder_String_any w.heap.size w.heap.size (enc out) wr hI (by omega))
   have Fu:Hid (enc out=dP (aX s)):=by
    have h1:(aX s).drop pos=[]:=List.drop_eq_nil_iff.2 (by rw[←aT];omega);have h2:=HA.out;rw[h1,pX,bh] at h2;exact h2
   have HF:=h_ HC.out.hr.frm;clear hI hel;go_wp2_with (go_at_call 140;refine KS.out.mono ?_;rintro e w1 ⟨rfl,sM⟩);go_ret;have hs0:=HF.out.size;have hfb:aa (λk=>w.heap.size≤k) wr w1:=⟨sM.os,sM.tape,sM.output,sM.size,λi _ hn=>sM.block i (by omega)⟩;exact⟨by rw[Fu.out];rfl,HF.out.next hfb λi hi=>.inr hi⟩
end Go.Proofs.YtaecjmiobllhmaaGreat
