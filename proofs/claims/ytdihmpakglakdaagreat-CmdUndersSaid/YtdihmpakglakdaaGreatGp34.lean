/-
  Contracts: levels: folders by how deep they are nested.
-/
import Derived.Test.YtdihmpakglakdaaGreatGp27
import Derived.Test.YtdihmpakglakdaaGreatGp10
import Derived.Test.YtdihmpakglakdaaGreatGp03
import Derived.Test.YtdihmpakglakdaaGreatGp31
import Derived.Test.YtdihmpakglakdaaGreatGp24
import Derived.Test.YtdihmpakglakdaaGreatGp30
import Derived.Test.YtdihmpakglakdaaGreatGp33
import Derived.Test.YtdihmpakglakdaaGreatGp15
set_option linter.unusedVariables false
set_option linter.unusedSimpArgs false
set_option maxRecDepth 100000
set_option maxHeartbeats 16000000
namespace Go.Proofs.YtdihmpakglakdaaGreat
open Go.RowKit Go.Lib
theorem elemI1:ElemOk Tryz.prog 68 3 8:=⟨Tryz.underlying68,⟨.int .i64 0,by kernel_rfl,rfl⟩⟩
theorem flat_single(l:List Int):l.map kI=l.flatMap fun i=>[kI i]:=by
 induction l with
 | nil=>rfl
 | cons a l ih=>rw[List.map_cons,ih,List.flatMap_cons];rfl
theorem Contains_any{W:World}{G:Nat→Prop}{v:Sl}{l:List Int}(h:SlIn W G 1 v l.length (l.map kI))(hn:l.length≤100000)(x:Int):
  Calls Tryz.prog 110 #[.slice v.1 l.length v.2,.int .i64 x] W fun e w'=>e=.returned (.bool (l.contains x))∧w'=W:=by
 rcases Nat.eq_zero_or_pos l.length with h0 | h0
 ·have:l=[]:=List.eq_nil_of_length_eq_zero h0
  subst this;exact Tryz.slices_Contains_int_empty v.1 v.2 x W
 ·rw[flat_single] at h
  obtain⟨b,off,e,-,-,hc⟩:=h.at_ (f:=fun i=>[kI i]) (fun _=>rfl) (by decide) h0;rw[e]
  have:=Tryz.slices_Contains_int b off l.length v.2 l x W (Nat.le_refl _) (by omega) (fun j hj=>by
   have:=hc j hj 0 _ rfl;rw[Nat.mul_one,Nat.add_zero] at this;rw[this,List.getD_eq_getElem?_getD,List.getElem?_eq_getElem hj];rfl)
  rwa [List.take_length] at this
theorem fol3{w:World}{b off:Nat}{f:Fol}(h:∀ (j:Nat) (u:Value),f.cells[j]? =some u→w.cell? ⟨b,off+j,none⟩=some u):
  w.cell? ⟨b,off,none⟩=some (.int .i64 f.id)∧w.cell? ⟨b,off+1,none⟩=some (.int .i64 f.inn)∧w.cell? ⟨b,off+2,none⟩=some (.string f.name):=
 ⟨h 0 _ rfl,h 1 _ rfl,h 2 _ rfl⟩
theorem filt_step{α:Type}(l:List α)(j:Nat)(h:j<l.length)(p:α→Bool):(l.take (j+1)).filter p=(l.take j).filter p++if p l[j]=true then [l[j]] else []:=by
 rw[List.take_succ_eq_append_getElem h,List.filter_append]
 cases hq:p l[j]<;>simp[List.filter,hq]
section
def PlOut(w:World)(r:List Ev×Int)(e:Ending)(w':World):Prop:=
 ∃ v:Sl,e=.returned (.tuple #[.slice v.1 r.1.length v.2,.int .i64 r.2])∧SlIn w' (fun k=>w.heap.size≤k) 7 v r.1.length (r.1.flatMap Ev.cells)∧Frm Nix w w'
theorem PlOut.from{w w1 w2:World}{r:List Ev×Int}{e:Ending}(h:PlOut w1 r e w2)(hf:Frm Nix w w1):PlOut w r e w2:=by
 obtain⟨v,h1,h2,h3⟩:=h;exact⟨v,h1,h2.mono fun k hk=>Nat.le_trans hf.size hk,hf.trans h3⟩
theorem PlOut.none_{w w1:World}{n:Int}(hf:Frm Nix w w1):PlOut w ([],n) (.returned (.tuple #[.slice none 0 0,.int .i64 n])) w1:=⟨(none,0),rfl,SlIn.none_ _ _ _,hf⟩
theorem dec_at{s:ByteArray}{rs:List Nat}(hv:∀ r ∈ rs,Vr r)(hs:bys s=enc rs){k:Nat}(hk:k<rs.length):Utf8.decode s (enc (rs.take k)).length=(rs[k],(encR rs[k]).length):=by
 rw[← decodeL_drop];show decodeL (List.drop _ (bys s))=_
 rw[hs,drop_enc,List.drop_eq_getElem_cons hk,enc_cons];exact decode_enc _ (hv _ (List.getElem_mem hk)) _
theorem uCut_any(s:ByteArray)(rs:List Nat)(hv:∀ r ∈ rs,Vr r)(hs:bys s=enc rs)(hsz:s.size≤4000000)(n:Int)(w:World):
  Calls Tryz.prog 75 #[.string s,.int .i64 n] w fun e w'=>e=.returned (.string (ofB (enc (cutR rs n))))∧Frm Nix w w':=by
 have HS:=h_ hs;have HV:=h_ hv;have HLen:Hid (s.size=(enc rs).length):=by unfold Hid;rw[size_bys,hs]
 clear hs hv;go_enter Tryz.func75,Tryz.ntmps75;go_wp2
 go_loopw [5] (fun ev wr=>∃ (k E P:Nat),k≤rs.length∧ev=.int .i64 E∧E=(enc (rs.take (k - 1))).length∧P=(enc (rs.take k)).length∧(k - 1=0∨(E:Int)≤n)∧wr.heap[w.heap.size]? =some (.stringIter s P)∧Frm Nix w wr) (fun _ wr=>s.size - wr.iterPos w.heap.size)
 case atStart=>exact⟨0,0,0,by omega,rfl,rfl,rfl,.inl rfl,World.iter_heap w s 0,(fR w).alloc _⟩
 case round=>
  obtain⟨k,E,P,hk,rfl,hE,hP,hn,hit,hfr⟩:=hrel;have HF:=h_ hfr;have HE:=h_ hE;have HP:=h_ hP;have HN:=h_ hn;have hES:(E:Int)≤(s.size:Int):=by rw[hE,HLen.out];exact Int.ofNat_le.2 (take_le rs _)
  have hPS:P≤s.size:=by rw[hP,HLen.out];exact take_le rs _
  have hE0:(0:Int)≤(E:Int):=Int.natCast_nonneg _;clear hfr hE hn
  by_cases hlt:k<rs.length
  ·have hsl:=take_succ_len rs k hlt
   have hone:=encR_len rs[k];have hle:=take_le rs (k+1);have hps:P<s.size:=by rw[HLen.out,hP];omega
   have hd:=dec_at HV.out HS.out hlt;rw[← hP] at hd;have hnx:∀ ty,(Instr.next (.pointer (some ⟨w.heap.size,0,none⟩)) true ty).run Tryz.prog wr=_:=fun ty=>Lib.run_next_any_at wr w.heap.size s P ty hit hps
   have hit2:=Lib.iterAt_heap wr w.heap.size s P (P+(Utf8.decode s P).2) hit;have hfi:=frm_iterAt wr w.heap.size s (P+(Utf8.decode s P).2);have HF2:Hid (Frm Nix w (wr.iterAt w.heap.size s (P+(Utf8.decode s P).2))):=HF.out.next hfi fun i hi=>.inr (by rw[hi];exact Nat.le_refl _)
   rw[hd] at hnx hit2 HF2;dsimp only at hnx hit2 HF2;have HP2:Hid (P+(encR rs[k]).length=(enc (rs.take (k+1))).length):=by unfold Hid;rw[hP,hsl]
   have hone1:=hone.1;clear hd hfi hsl hone hle;generalize wr.iterAt w.heap.size s (P+(encR rs[k]).length)=wi at *
   have HMe:Hid (s.size - wi.iterPos w.heap.size<s.size - wr.iterPos w.heap.size):=by
    unfold Hid;simp only[World.iterPos,hit,hit2];omega
   generalize (encR rs[k]).length=K at *;generalize rs[k]=R at *;clear hP
   by_cases hgt:n<(P:Int)
   ·have hno:¬(s.size:Int)≤n:=by omega
    have HR:Hid (s.extract 0 E=ofB (enc (cutR rs n))):=by
     unfold Hid;rw[HE.out];refine cut_bytes HS.out n (k - 1) (by omega) (by rw[← HE.out];exact HN.out) (.inr ?_);rcases Nat.eq_zero_or_pos k with h0 | h0
     ·subst h0
      have:P=0:=by rw[HP.out];rfl
      omega
     ·rw[show k - 1+1=k by omega,← HP.out]
      exact hgt
    go_wp2;go_ret;exact⟨by rw[← HR.out]<;>rfl,HF2.out⟩
   ·have hng:¬n<(P:Int):=hgt
    go_wp2;go_roundw
    case rel=>exact⟨k+1,P,P+K,by omega,rfl,by rw[HP.out];rfl,HP2.out,.inr (by omega),hit2,HF2.out⟩
    case measure=>exact HMe.out
  ·obtain rfl:k=rs.length:=by omega
   have hPe:P=s.size:=by rw[hP,List.take_length,HLen.out]
   have hnx:∀ ty,(Instr.next (.pointer (some ⟨w.heap.size,0,none⟩)) true ty).run Tryz.prog wr=_:=fun ty=>Lib.run_next_end_at wr w.heap.size s P ty hit (by omega)
   by_cases hfit:(s.size:Int)≤n
   ·have HR:Hid (s=ofB (enc (cutR rs n))):=by
     unfold Hid;have:=cut_bytes HS.out n rs.length (Nat.le_refl _) (.inr (by rw[List.take_length,← HLen.out];exact hfit)) (.inl rfl);rw[List.take_length,← HLen.out,ByteArray.extract_zero_size] at this;exact this
    go_wp2;go_ret;exact⟨by rw[← HR.out]<;>rfl,HF.out⟩
   ·have HR:Hid (s.extract 0 E=ofB (enc (cutR rs n))):=by
     unfold Hid;rw[HE.out];refine cut_bytes HS.out n (rs.length - 1) (by omega) (by rw[← HE.out];exact HN.out) ?_;rcases Nat.eq_zero_or_pos rs.length with h0 | h0
     ·exact .inl (by omega)
     ·refine .inr ?_
      rw[show rs.length - 1+1=rs.length by omega,List.take_length,← HLen.out];omega
    go_wp2;go_ret;exact⟨by rw[← HR.out]<;>rfl,HF.out⟩
theorem cut_le:∀ (rs:List Nat) (n:Int),(enc (cutR rs n)).length≤(enc rs).length
 | [],n=>by simp[cutR]
 | c::r,n=>by
   rw[cutR];split
   ·rw[enc_cons,enc_cons,List.length_append,List.length_append]
    have:=cut_le r (n - (encR c).length);omega
   ·simp[enc]
theorem Short_any(s:ByteArray)(hs:s.size≤100000)(m:Int)(w:World):
  Calls Tryz.prog 34 #[.string s,.int .i64 m] w fun e w'=>e=.returned (.string (shortS s m))∧Frm Nix w w':=by
 obtain⟨rs,hrs⟩:∃ rs,cleanR (runesD (bys s)) [] false=rs:=⟨_,rfl⟩;have hv:∀ r ∈ rs,Vr r:=by rw[← hrs];exact cleanR_valid _ _ _ (runesD_valid _) (by simp)
 have hcs:cleanS (bys s)=enc rs:=by unfold cleanS;rw[hrs]
 have hvc:∀ r ∈ cutR rs m,Vr r:=fun r hr=>hv r (cutR_sub _ _ r hr)
 have h1:rs.length≤2 * s.size:=by
  have h1:=cleanR_len (runesD (bys s)) [] false;have h2:=runesD_len (bys s);rw[hrs] at h1;rw[← size_bys] at h2;simp at h1;omega
 have h2:=(enc_len rs).2;have hsz:(ofB (enc rs)).size≤4000000:=by rw[size_bys,bys_ofB];omega
 have h3:(enc (cutR rs m)).length≤(enc rs).length:=cut_le rs m;have hsz2:(ofB (enc (cutR rs m))).size≤1000000:=by rw[size_bys,bys_ofB];omega
 obtain⟨r1,hr1⟩:∃ r1,ofB (enc rs)=r1:=⟨_,rfl⟩;obtain⟨r2,hr2⟩:∃ r2,ofB (enc (cutR rs m))=r2:=⟨_,rfl⟩;obtain⟨r3,hr3⟩:∃ r3,shortS s m=r3:=⟨_,rfl⟩
 have K1:Hid (∀ W,Calls Tryz.prog 74 #[.string s] W fun e w'=>e=.returned (.string r1)∧Frm Nix W w'):=fun W=>by
  have q:=uClean_any s W (by omega);rw[hcs,hr1] at q;exact q
 have K2:Hid (∀ W,Calls Tryz.prog 75 #[.string r1,.int .i64 m] W fun e w'=>e=.returned (.string r2)∧Frm Nix W w'):=fun W=>by
  have q:=uCut_any (ofB (enc rs)) rs hv (bys_ofB _) hsz m W;rw[hr1,hr2] at q;exact q
 have K3:Hid (∀ W,Calls Tryz.prog 74 #[.string r2] W fun e w'=>e=.returned (.string r3)∧Frm Nix W w'):=fun W=>by
  have q:=uClean_any (ofB (enc (cutR rs m))) W hsz2
  have e3:ofB (cleanS (bys (ofB (enc (cutR rs m)))))=r3:=by
   rw[bys_ofB,cleanS_enc hvc,← hr3];unfold shortS shortR;rw[hrs]
  rw[e3,hr2] at q;exact q
 rw[hr3];clear hrs hv hcs hvc h1 h2 hsz h3 hsz2 hs hr1 hr2 hr3;go_enter Tryz.func34,Tryz.ntmps34
 go_wp2_with (first
  | (go_at_call 74;have _q:=Z2;refine(K3.out _).mono ?_;rintro e w3 ⟨rfl,hf⟩;have Z3:Hid (Frm Nix w w3):=Z2.out.trans hf;clear hf)
  | (go_at_call 75;have _q:=Z1;refine(K2.out _).mono ?_;rintro e w2 ⟨rfl,hf⟩;have Z2:Hid (Frm Nix w w2):=Z1.out.trans hf;clear hf)
  | (go_at_call 74;refine(K1.out _).mono ?_;rintro e w1 ⟨rfl,hf⟩;have Z1:=h_ hf;clear hf))
 go_ret;exact⟨rfl,Z3.out⟩
theorem refused_any(n:Int)(w:World):Calls Tryz.prog 51 #[.int .i64 n] w fun e w'=>e=.returned (.tuple #[.slice none 0 0,.int .i64 n])∧w=w':=by
 go_enter Tryz.func51,Tryz.ntmps51;go_wp2
 go_ret2
 exact⟨rfl,rfl⟩
theorem cOne_any(e:Ev)(c:Bool)(w:World):Calls Tryz.prog 60 #[.agg #[.int .i64 e.kind,.int .i64 e.a,.int .i64 e.b,.int .i64 e.n,.string e.s,.string e.t,.string e.u],.bool c] w (PlOut w (one1 e c)):=by
 have f0:Frm Nix w (w.alloc (.cells #[.int .i64 e.kind,.int .i64 e.a,.int .i64 e.b,.int .i64 e.n,.string e.s,.string e.t,.string e.u] 43)):=(fR w).alloc _
 have HR:Hid (SlIn ((w.alloc (.cells #[.int .i64 e.kind,.int .i64 e.a,.int .i64 e.b,.int .i64 e.n,.string e.s,.string e.t,.string e.u] 43)).alloc (.cells #[.int .i64 e.kind,.int .i64 e.a,.int .i64 e.b,.int .i64 e.n,.string e.s,.string e.t,.string e.u] 43)) (fun k=>w.heap.size≤k) 7 (some ⟨w.heap.size+1,0,none⟩,1) 1 e.cells):=by
  have q:=(RowK.lit (s:=7) 43 f0 1 e.cells rfl (by unfold maxLen;omega)).sl;rw[show (w.alloc (.cells #[.int .i64 e.kind,.int .i64 e.a,.int .i64 e.b,.int .i64 e.n,.string e.s,.string e.t,.string e.u] 43)).heap.size=w.heap.size+1 by simp] at q;exact q
 have HF:=h_ (f0.alloc (.cells e.cells.toArray 43));have F0:=h_ f0;clear f0
 cases c with
 | false=>
   go_enter Tryz.func60,Tryz.ntmps60;go_wp2
   go_ret2
   exact PlOut.none_ F0.out
 | true=>
   go_enter Tryz.func60,Tryz.ntmps60;go_wp2
   go_ret2
   have hx:(one1 e true).1.flatMap Ev.cells=e.cells:=by simp[one1]
   exact⟨(some ⟨w.heap.size+1,0,none⟩,1),rfl,by rw[hx];exact HR.out,HF.out⟩
section
variable {w:World} {g:Nat} {M:Ms} {x:St}
theorem cFolder_any(h:StAt w g M x){i:Int}(hi:I64 i):Calls Tryz.prog 58 #[.pointer (some ⟨g,0,none⟩),.int .i64 i] w fun e w'=>e=.returned (.bool (inS x i))∧Frm Nix w w':=by
 have K:=h_ (FolderS_any h hi);have HB:Hid (inS x i=(decide (i=0)||isI Fol.id i x.fols)):=rfl;clear h hi;generalize isI Fol.id i x.fols=bb at *;generalize folAt x i=f at *;go_enter Tryz.func58,Tryz.ntmps58;go_wp2_with (go_at_call 105;refine K.out.mono ?_;rintro e w1 ⟨rfl,hf⟩;have Z1:=h_ hf;clear hf)
 all_goals
  go_ret;exact⟨ret_bool (by rw[HB.out];simp[*]),Z1.out.alloc _⟩
theorem fol_I64{x:St}(h:StP x){f:Fol}(hf:f ∈ x.fols):I64 f.id∧I64 f.inn:=h.nums.fols f hf
theorem cInside_any(h:StAt w g M x){b u:Int}(hb:I64 b){j:Nat}(hj:j≤10)(hc:chainF x.fols j b):Calls Tryz.prog 138 #[.pointer (some ⟨g,0,none⟩),.int .i64 b,.int .i64 u] w fun e w'=>e=.returned (.bool (decide (upG x.fols j b u=u)))∧Frm Nix w w':=by
 have H:=h_ h;obtain⟨q,hq⟩:∃ q,upG x.fols j b u=q:=⟨_,rfl⟩;have HQ:=h_ hq;have HC:=h_ hc;rw[hq];clear h hq hc;go_enter Tryz.func138,Tryz.ntmps138;go_wp2
 go_loopw [1] (fun iv wr=>∃ (i:Int) (d:Nat),d≤10∧iv=.int .i64 i∧I64 i∧chainF x.fols d i∧upG x.fols d i u=q∧Frm Nix w wr) (fun iv _=>deepG x.fols 10 0 (intOf iv))
 case atStart=>exact⟨b,j,hj,rfl,hb,HC.out,HQ.out,Frm.refl _ _⟩
 case round=>
  obtain⟨i,d,hd,rfl,hi,hch,hup,hf⟩:=hrel;have HU:=h_ hup;have HI:=h_ hi;have HF:=h_ hf;have HCh:=h_ hch;clear hup hch hf hi
  by_cases hiu:i=u
  ·have HE:Hid (q=i):=HU.out.symm.trans (up_end (.inl hiu) d)
   subst hiu;go_wp2;go_ret;exact⟨ret_bool (by rw[HE.out];simp),HF.out⟩
  ·by_cases hi0:i=0
   ·have HE:Hid (q=i):=HU.out.symm.trans (up_end (.inr hi0) d)
    subst hi0;go_wp2
    all_goals
     go_ret;exact⟨ret_bool (by rw[HE.out];simp[*]),HF.out⟩
   ·obtain⟨d',f,hat,hch',hup',hdd⟩:∃ (d':Nat) (f:Fol),atI Fol.id i x.fols=some f∧chainF x.fols d' f.inn∧upG x.fols d' f.inn u=q∧d=d'+1:=by
     have h1:=HCh.out
     cases d with
     | zero=>exact absurd h1 hi0
     | succ d'=>
       obtain⟨-,f,hf,hcf⟩:=h1;exact⟨d',f,hf,hcf,by rw[← up_step hiu hi0 hf];exact HU.out,rfl⟩
    have K:=h_ (FolderS_any (H.out.nix HF.out) HI.out);have hfa:folAt x i=f:=by unfold folAt;rw[hat];rfl
    rw[hfa] at K;have HD:Hid (d'≤10∧chainF x.fols d' f.inn∧upG x.fols d' f.inn u=q∧I64 f.inn):=⟨by omega,hch',hup',(fol_I64 H.out.ok (atI_mem hat).1).2⟩
    have HM:Hid (deepG x.fols 10 0 f.inn<deepG x.fols 10 0 i):=by
     unfold Hid;rw[deepG_chain x.fols d' 10 0 f.inn hch' (by omega),deepG_chain x.fols d 10 0 i HCh.out hd];omega
    clear hat hch' hup' hdd hfa;generalize isI Fol.id i x.fols=bb at *;have n1:(i !=u)=true:=bne_iff_ne.2 hiu;have n2:(i !=0)=true:=bne_iff_ne.2 hi0;go_wp2_with (go_at_call 105;refine K.out.mono ?_;rintro e w1 ⟨rfl,hf⟩;have Z1:Hid (Frm Nix w w1):=HF.out.trans hf;clear hf);go_roundw
    case rel=>exact⟨f.inn,d',HD.out.1,rfl,HD.out.2.2.2,HD.out.2.1,HD.out.2.2.1,Z1.out.alloc _⟩
    case measure=>exact HM.out
end
end
theorem own_push{P:Program}{t e:TypeId}{bytes:Nat}(E:ElemOk P t e bytes){w1:World}{B:Nat}{v:Value}{n:Nat}{xs:List Value}(h:w1.ownsRow B e 1 v n xs)(hB:B≤w1.heap.size)(x:Value)(h1:x.oneCell'=true)(hn:n+1≤maxLen)(hb:(n+1) * bytes≤140737488355328):
  ∃ v' w2,(∀ ty,(Builtin.append_ #[t,t] ty #[v,.slice (some ⟨w1.heap.size,0,none⟩) 1 1]).run P (w1.alloc (.cells #[x] e))=.ok v' w2)∧w2.ownsRow B e 1 v' (n+1) (xs++[x])∧Frm (fun k=>v.ownBlock=some k) (w1.alloc (.cells #[x] e)) w2∧(v'.ownBlock=v.ownBlock∨v'.ownBlock=some (w1.heap.size+1)):=by
 obtain⟨z,hi,hzs⟩:=E.i;obtain⟨i0,hi0,hz0,hz1,hz2⟩:=info_parts hi;have hf:Frm Nix w1 (w1.alloc (.cells #[x] e)):=(fR w1).alloc _
 obtain⟨v1,w2,hrun,hown,hg,hat⟩:=run_append_any (P:=P) (w1.alloc (.cells #[x] e)) B t e i0 z 1 bytes E.t hi0 hz0 hz1 hz2 hzs (by decide) v n xs (own_frm h hf fun _ _=>id) _ (some ⟨w1.heap.size,0,none⟩) 1 1 [x]
  (Rd.of_obj (heap_alloc_new w1 (.cells #[x] e)) 1 rfl) (fun u hu=>by simp at hu;subst hu;exact h1) hn hb (by simp;omega)
 exact⟨v1,w2,hrun,hown,(Frm.refl _ _).grown hg fun k hk=>.inl hk,by simpa using hat⟩
structure OutI(w0 w:World)(bo:Nat)(xs:List Int):Prop where
 lt:bo<w0.heap.size
 ex:∃ A c,Blk w bo 68 #[.slice A xs.length c]∧w.ownsRow w0.heap.size 3 1 (.slice A xs.length c) xs.length (xs.map kI)
 frm:Frm (·=bo) w0 w
theorem OutI.nix{w0 w w1:World}{bo:Nat}{xs:List Int}(h:OutI w0 w bo xs)(hf:Frm Nix w w1):OutI w0 w1 bo xs:=by
 obtain⟨A,c,h1,h2⟩:=h.ex;exact⟨h.lt,⟨A,c,h1.frm hf id,own_frm h2 hf fun _ _=>id⟩,h.frm.trans (hf.mono fun _ e=>e.elim)⟩
theorem under1_any{w0 w:World}{bo:Nat}{xs:List Int}(h:OutI w0 w bo xs)(hx:xs.length≤1000)(f:Fee):
  Calls Tryz.prog 79 #[.agg #[.int .i64 f.id,.int .i64 f.inn,.string f.url,.string f.title],.pointer (some ⟨bo,0,none⟩)] w fun e w'=>e=.returned (.tuple #[])∧OutI w0 w' bo (xs++[f.id]):=by
 obtain⟨A,c,hb,ho⟩:=h.ex;obtain⟨w1,hw1⟩:∃ w1,w1=w.alloc (.cells #[.int .i64 f.id,.int .i64 f.inn,.string f.url,.string f.title] 73):=⟨_,rfl⟩;have f1:Frm Nix w w1:=by rw[hw1];exact(fR w).alloc _
 have ho1:=own_frm ho f1 fun _ _=>id
 have hb1:=hb.frm f1 id;obtain⟨v',w2,hrun,hown,hf,-⟩:=own_push elemI1 ho1 (Nat.le_trans h.frm.size f1.size) (.int .i64 f.id) rfl (by unfold maxLen;omega) (by omega);have hb2:=(hb1.alloc (.cells #[.int .i64 f.id] 3)).frm hf (fun e=>own_blk_ne ho1 hb1 (by decide) e);have q0:=hb.cell 0;simp at q0;have hblt:=hb.lt;have g0:=hb2.frozen 0;have q2:=hb2.cell 0;simp at q2;obtain⟨A',c',rfl,-⟩:=own_shape hown;have hb3:=hb2.set_ 0 (.slice A' (xs.length+1) c');have hlen:(xs++[f.id]).length=xs.length+1:=by simp
 have hfr:Frm (·=bo) w0 w2:=((h.frm.trans (f1.mono fun _ e=>e.elim)).trans (((fR w1).alloc _).mono fun _ e=>e.elim)).next hf fun k hk=>.inr (ho1.lt k hk).1
 have HR:Hid (OutI w0 (w2.setCell ⟨bo,0,none⟩ (.slice A' (xs.length+1) c')) bo (xs++[f.id])):=by
  refine⟨h.lt,⟨A',c',by rw[hlen];exact hb3,?_⟩,hfr.setCell (.inl rfl) _⟩;rw[hlen,List.map_append];exact own_frm hown ((Frm.refl (·=bo) w2).setCell (.inl rfl) _) fun k hk e=>own_blk_ne hown hb2 (by decide) (by rw[e] at hk;exact hk)
 rw[hw1] at hrun;rw[show (w.alloc (.cells #[.int .i64 f.id,.int .i64 f.inn,.string f.url,.string f.title] 73)).heap.size=w.heap.size+1 by simp] at hrun;clear hb ho f1 ho1 hb1 hown hf hb2 hb3 hlen hfr hw1 h;generalize xs.length=n at *;go_enter Tryz.func79,Tryz.ntmps79;go_wp2_with (at_builtin;refine wpList_append_run hrun rfl _ _ rfl rfl rfl ?_)
 go_end0
 exact⟨rfl,HR.out⟩
theorem fee4{w:World}{b off:Nat}{f:Fee}(h:∀ (j:Nat) (u:Value),f.cells[j]? =some u→w.cell? ⟨b,off+j,none⟩=some u):
  w.cell? ⟨b,off,none⟩=some (.int .i64 f.id)∧w.cell? ⟨b,off+1,none⟩=some (.int .i64 f.inn)∧w.cell? ⟨b,off+2,none⟩=some (.string f.url)∧w.cell? ⟨b,off+3,none⟩=some (.string f.title):=
 ⟨h 0 _ rfl,h 1 _ rfl,h 2 _ rfl,h 3 _ rfl⟩
theorem blk4{W:World}{g:Nat}{t:TypeId}{a0 a1 a2 a3:Value}(h:Blk W g t #[a0,a1,a2,a3]):
  W.cell? ⟨g,0,none⟩=some a0∧W.cell? ⟨g,1,none⟩=some a1∧W.cell? ⟨g,2,none⟩=some a2∧W.cell? ⟨g,3,none⟩=some a3:=
 ⟨h.cell 0,h.cell 1,h.cell 2,h.cell 3⟩
theorem TellV{w:World}{g:Nat}{M:Ms}{x:St}(h:StAt w g M x):Calls Tryz.prog 28 #[.pointer (some ⟨g,0,none⟩)] w fun e w'=>∃ Ao co Ae ce Ai ci As cs,∃ ts:List (Sl×Itm),e=.returned (.agg #[.int .i64 x.clock,.slice Ao x.fols.length co,.slice Ae x.fees.length ce,.slice Ai x.itms.length ci,.slice As x.seas.length cs,.int .i64 x.tFol,.int .i64 x.tFee,.int .i64 x.tItm,.int .i64 x.tSea])∧StIn w' (fun k=>w.heap.size≤k) (Ao,co) (Ae,ce) (Ai,ci) (As,cs) ts x∧Frm Nix w w':=
 (Tell_any h).mono fun e w' ⟨⟨a,b⟩,⟨c,d⟩,⟨p,q⟩,⟨r,s⟩,ts,h1,h2,h3⟩=>⟨a,b,c,d,p,q,r,s,ts,h1,h2,h3⟩
theorem fieldS1(a0 a1 a2 a3 a4 a5 a6 a7 a8:Value)(w:World):(Instr.field 37 (.agg #[a0,a1,a2,a3,a4,a5,a6,a7,a8]) 1).run Tryz.prog w=.ok a1 w:=by kernel_rfl
theorem fieldS2(a0 a1 a2 a3 a4 a5 a6 a7 a8:Value)(w:World):(Instr.field 37 (.agg #[a0,a1,a2,a3,a4,a5,a6,a7,a8]) 2).run Tryz.prog w=.ok a2 w:=by kernel_rfl
theorem fieldS3(a0 a1 a2 a3 a4 a5 a6 a7 a8:Value)(w:World):(Instr.field 37 (.agg #[a0,a1,a2,a3,a4,a5,a6,a7,a8]) 3).run Tryz.prog w=.ok a3 w:=by kernel_rfl
theorem fee_in{x:St}(h:StP x){f:Fee}(hf:f ∈ x.fees):inS x f.inn=true:=(h.eE f hf).2.2
theorem cUnder_any{w:World}{g:Nat}{M:Ms}{x:St}(h:StAt w g M x){i:Int}(hi:I64 i){bo:Nat}(hb:Blk w bo 68 #[.slice none 0 0])(hbo:¬SF g M bo):
  Calls Tryz.prog 78 #[.pointer (some ⟨g,0,none⟩),.int .i64 i,.func (.func 79) #[] #[.pointer (some ⟨bo,0,none⟩)]] w fun e w'=>e=.returned (.tuple #[])∧∃ A c,Blk w' bo 68 #[.slice A (underS x i).length c]∧SlIn w' (fun k=>w.heap.size≤k) 1 (A,c) (underS x i).length ((underS x i).map kI)∧Frm (·=bo) w w':=by
 have KF:=h_ (cFolder_any h hi);have HS:=h_ h;have HB:=h_ hb;have HBO:=h_ hbo;have HP:=h_ h.ok;have hbl:bo<w.heap.size:=hb.lt
 cases hin:inS x i with
 | false=>
   rw[hin] at KF;have hu:underS x i=[]:=by unfold underS;rw[hin];rfl
   rw[hu];clear h hb hbo hu hin;go_enter Tryz.func78,Tryz.ntmps78;go_wp2_with (go_at_call 58;refine KF.out.mono ?_;rintro e w1 ⟨rfl,hf⟩;have Z1:=h_ hf;clear hf);refine bodyPost_ret (results_none rfl _ _ _) rfl ?_
   exact⟨rfl,none,0,HB.out.frm Z1.out id,SlIn.none_ _ _ _,Z1.out.mono fun _ e=>e.elim⟩
 | true=>
   rw[hin] at KF;obtain⟨l,hl⟩:∃ l,underS x i=l:=⟨_,rfl⟩
   have HL:Hid ((x.fees.filter fun f=>withinS x f.inn i).map Fee.id=l):=by
    unfold Hid;rw[← hl];unfold underS;rw[hin,if_pos rfl]
   rw[hl];obtain⟨n,hn⟩:∃ n,x.fees.length=n:=⟨_,rfl⟩;have HN:=h_ hn;have hn64:n≤64:=by rw[← hn];exact h.ok.eL
   have KT:Hid (∀ W,Frm Nix w W→Calls Tryz.prog 28 #[.pointer (some ⟨g,0,none⟩)] W fun e w'=>∃ Ao co Ae ce Ai ci As cs,∃ ts:List (Sl×Itm),e=.returned (.agg #[.int .i64 x.clock,.slice Ao x.fols.length co,.slice Ae n ce,.slice Ai x.itms.length ci,.slice As x.seas.length cs,.int .i64 x.tFol,.int .i64 x.tFee,.int .i64 x.tItm,.int .i64 x.tSea])∧StIn w' (fun k=>W.heap.size≤k) (Ao,co) (Ae,ce) (Ai,ci) (As,cs) ts x∧Frm Nix W w'):=fun W hW=>by
    have:=TellV (h.nix hW);rw[hn] at this;exact this
   have hfd:=fieldS2;clear h hb hbo hl hn hin;go_enter Tryz.func78,Tryz.ntmps78
   go_wp2_with (first
    | (go_at_call 28;have _q:=Z1;refine(KT.out _ Z1.out).mono ?_;rintro e w2 ⟨Ao,co,Ae,ce,Ai,ci,As,cs,ts,rfl,hd,hf⟩;have HD:=h_ hd;have Z2:Hid (Frm Nix w w2):=Z1.out.trans hf;have HSz:Hid (w.heap.size≤w1.heap.size):=Z1.out.size;clear hd hf)
    | (go_at_call 58;refine KF.out.mono ?_;rintro e w1 ⟨rfl,hf⟩;have Z1:=h_ hf;clear hf))
   go_loopw [16] (fun kv wr=>∃ k:Nat,k≤n∧kv=.int .i64 k∧OutI w2 wr bo (((x.fees.take k).filter fun f=>withinS x f.inn i).map Fee.id)) (fun kv _=>n - (intOf kv).toNat)
   case atStart=>exact⟨0,by omega,rfl,⟨Nat.lt_of_lt_of_le hbl Z2.out.size,⟨none,0,HB.out.frm Z2.out id,World.ownsRow_nil _ _ _ _⟩,Frm.refl _ _⟩⟩
   case round=>
    obtain⟨k,hk,rfl,ho⟩:=hrel;have HO:=h_ ho;have HFr:Hid (Frm (·=bo) w2 wr):=ho.frm;have HSr:Hid (StAt wr g M x):=(HS.out.nix Z2.out).frm HFr.out (fun j hj e=>HBO.out (e ▸ hj)) (fun j hj e=>(HB.out.frm Z2.out id).ne_str (by decide) hj e);clear ho
    by_cases hlt:k<n
    ·have hkl:k<x.fees.length:=by rw[HN.out];exact hlt
     obtain⟨b,off,hA,-,hbl2,hcell⟩:=(HD.out.fees.frm HFr.out (fun j hj e=>by have:=HSz.out;omega)).at_ Fee.clen (by decide) (by omega);dsimp only at hA;subst hA;have h4:=fee4 (w:=wr) (b:=b) (off:=off+k * 4) (f:=x.fees[k]) (hcell k hkl);have hmem:x.fees[k] ∈ x.fees:=List.getElem_mem hkl;have hst:=filt_step x.fees k hkl fun f=>withinS x f.inn i
     obtain⟨f,hf⟩:∃ f,x.fees[k]=f:=⟨_,rfl⟩;rw[hf] at h4 hmem hst;obtain⟨x0,x1,x2,x3⟩:=h4;have HST:=h_ hst;have hfin:=fee_in HP.out hmem;obtain⟨j,hj,hc⟩:=in_chain HP.out hfin;have HW:Hid (withinS x f.inn i=(decide (upG x.fols j f.inn i=i)||decide (i=0))):=within_at HP.out hfin hc (by omega)
     have hl64:(((x.fees.take k).filter fun f=>withinS x f.inn i).map Fee.id).length≤1000:=by
      rw[List.length_map];have:=List.length_filter_le (fun f:Fee=>withinS x f.inn i) (x.fees.take k);rw[List.length_take] at this;omega
     have KI:Hid (∀ W,Frm Nix wr W→Calls Tryz.prog 138 #[.pointer (some ⟨g,0,none⟩),.int .i64 f.inn,.int .i64 i] W fun e w'=>e=.returned (.bool (decide (upG x.fols j f.inn i=i)))∧Frm Nix W w'):=fun W hW=>cInside_any (HSr.out.nix hW) (HP.out.inS64 hfin) (by omega) hc
     have KU:Hid (∀ W,Frm Nix wr W→Calls Tryz.prog 79 #[.agg #[.int .i64 f.id,.int .i64 f.inn,.string f.url,.string f.title],.pointer (some ⟨bo,0,none⟩)] W fun e w'=>e=.returned (.tuple #[])∧OutI w2 w' bo ((((x.fees.take k).filter fun f=>withinS x f.inn i).map Fee.id)++[f.id])):=fun W hW=>under1_any (HO.out.nix hW) hl64 f
     clear hcell hf hmem hst hfin hc hl64
     by_cases hi0:i=0
     ·have hw1:withinS x f.inn i=true:=by rw[HW.out,hi0];simp
      have HX:Hid ((((x.fees.take k).filter fun f=>withinS x f.inn i).map Fee.id)++[f.id]=(((x.fees.take (k+1)).filter fun f=>withinS x f.inn i).map Fee.id)):=by
       unfold Hid;rw[HST.out,if_pos hw1,List.map_append];rfl
      have hi0':(i==0)=true:=beq_iff_eq.2 hi0;clear hw1 hi0;go_wp2_with fail;refine(KU.out _ (by repeat' (first | with_reducible exact Frm.refl _ _ | with_reducible apply Frm.alloc))).mono ?_;rintro e w4 ⟨rfl,ho⟩;rw[HX.out] at ho;have HO4:=h_ ho;clear ho;go_wp2;go_roundw
      case rel=>exact⟨k+1,by omega,by go_num,HO4.out⟩
      case measure=>simp[intOf];omega
     ·obtain⟨q,hq⟩:∃ q,decide (upG x.fols j f.inn i=i)=q:=⟨_,rfl⟩
      rw[hq] at KI HW;rw[decide_eq_false hi0,Bool.or_false] at HW;have hi0':(i==0)=false:=beq_eq_false_iff_ne.2 hi0;clear hq hi0
      cases q with
      | true=>
        have HX:Hid ((((x.fees.take k).filter fun f=>withinS x f.inn i).map Fee.id)++[f.id]=(((x.fees.take (k+1)).filter fun f=>withinS x f.inn i).map Fee.id)):=by
         unfold Hid;rw[HST.out,if_pos HW.out,List.map_append];rfl
        go_wp2_with (go_at_call 138;refine(KI.out _ ((fR wr).alloc _)).mono ?_;rintro e w3 ⟨rfl,hf⟩;obtain⟨y0,y1,y2,y3⟩:=blk4 ((Blk.new wr 73 #[.int .i64 f.id,.int .i64 f.inn,.string f.url,.string f.title]).frm hf id);have Z3:Hid (Frm Nix wr w3):=((fR wr).alloc _).trans hf;clear hf);refine(KU.out _ Z3.out).mono ?_;rintro e w4 ⟨rfl,ho⟩;rw[HX.out] at ho;have HO4:=h_ ho;clear ho;go_wp2;go_roundw
        case rel=>exact⟨k+1,by omega,by go_num,HO4.out⟩
        case measure=>simp[intOf];omega
      | false=>
        have HX:Hid ((((x.fees.take k).filter fun f=>withinS x f.inn i).map Fee.id)=(((x.fees.take (k+1)).filter fun f=>withinS x f.inn i).map Fee.id)):=by
         unfold Hid;rw[HST.out,if_neg (by rw[HW.out];decide),List.append_nil]
        go_wp2_with (go_at_call 138;refine(KI.out _ ((fR wr).alloc _)).mono ?_;rintro e w3 ⟨rfl,hf⟩;have Z3:Hid (Frm Nix wr w3):=((fR wr).alloc _).trans hf;clear hf);go_roundw
        case rel=>exact⟨k+1,by omega,by go_num,by rw[← HX.out];exact HO.out.nix Z3.out⟩
        case measure=>simp[intOf];omega
    ·obtain rfl:k=n:=by omega
     have HE:Hid (((x.fees.take k).filter fun f=>withinS x f.inn i).map Fee.id=l):=by
      unfold Hid;rw[List.take_of_length_le (by rw[HN.out];exact Nat.le_refl _)];exact HL.out
     go_wp2
     go_end0
     rw[HE.out] at HO;obtain⟨A,c,q1,q2⟩:=HO.out.ex
     exact⟨rfl,A,c,q1,by
      obtain⟨A',c',e,e1,e2,e3,-⟩:=own_shape q2;injection e with ea eb ec;subst ea;subst ec;have hr:=Rd.of_own q2;exact⟨hr.mono fun j hj=>Nat.le_trans Z2.out.size (q2.lt j hj).1,e1,e2,e3⟩,(Z2.out.mono fun _ e=>e.elim).trans HFr.out⟩
theorem Under_any{w:World}{g:Nat}{M:Ms}{x:St}(h:StAt w g M x){i:Int}(hi:I64 i):
  Calls Tryz.prog 36 #[.pointer (some ⟨g,0,none⟩),.int .i64 i] w fun e w'=>∃ A c,e=.returned (.slice A (underS x i).length c)∧SlIn w' (fun k=>w.heap.size≤k) 1 (A,c) (underS x i).length ((underS x i).map kI)∧Frm Nix w w':=by
 have K:=h_ (cUnder_any (h.nix ((fR w).alloc (.cells #[.slice none 0 0] 68))) hi (Blk.new w 68 #[.slice none 0 0]) (fun hk=>by have:=h.lt _ hk;omega));clear h;generalize underS x i=l at *;go_enter Tryz.func36,Tryz.ntmps36;go_wp2_with (go_at_call 78;refine K.out.mono ?_;rintro e w1 ⟨rfl,A,c,hb,hs,hf⟩;have c0:=hb.cell 0;simp at c0;have Z:Hid (SlIn w1 (fun k=>w.heap.size≤k) 1 (A,c) l.length (l.map kI)∧Frm Nix w w1):=⟨hs.mono fun k hk=>by(have:=hk;simp at this;omega),((fR w).alloc _).next hf fun k e=>.inr (by omega)⟩;clear hb hs hf);go_ret;exact⟨A,c,rfl,Z.out.1,Z.out.2⟩
theorem named1_any{w:World}(f:Fol){b1 b2:Nat}{b:Int}{s:ByteArray}(c1:w.cell? ⟨b1,0,none⟩=some (.int .i64 b))(c2:w.cell? ⟨b2,0,none⟩=some (.string s)):
  Calls Tryz.prog 159 #[.agg #[.int .i64 f.id,.int .i64 f.inn,.string f.name],.pointer (some ⟨b1,0,none⟩),.pointer (some ⟨b2,0,none⟩)] w fun e w'=>e=.returned (.bool (decide (f.inn=b∧f.name=s)))∧Frm Nix w w':=by
 have l1:=World.block_lt_of_cell? w _ c1;have l2:=World.block_lt_of_cell? w _ c2
 by_cases h1:f.inn=b
 ·by_cases h2:f.name=s
  ·subst h1
   subst h2;go_enter Tryz.func159,Tryz.ntmps159;go_wp2;go_ret;exact⟨ret_bool (by simp),(fR w).alloc _⟩
  ·subst h1
   have h3:=beq_of h2;go_enter Tryz.func159,Tryz.ntmps159;go_wp2;go_ret;exact⟨ret_bool (by simp[h2]),(fR w).alloc _⟩
 ·go_enter Tryz.func159,Tryz.ntmps159
  go_wp2;go_ret;exact⟨ret_bool (by simp[h1]),(fR w).alloc _⟩
theorem idxFunc_any{w:World}{G:Nat→Prop}{A:Option Addr}{c:Nat}{l:List Fol}(hv:SlIn w G 3 (A,c) l.length (l.flatMap Fol.cells))(hn:l.length≤1000){b1 b2:Nat}{b:Int}{s:ByteArray}(c1:w.cell? ⟨b1,0,none⟩=some (.int .i64 b))(c2:w.cell? ⟨b2,0,none⟩=some (.string s)):
  Calls Tryz.prog 190 #[.slice A l.length c,.func (.func 159) #[] #[.pointer (some ⟨b1,0,none⟩),.pointer (some ⟨b2,0,none⟩)]] w fun e w'=>∃ r:Int,e=.returned (.int .i64 r)∧decide (0≤r)=(l.any fun f=>decide (f.inn=b∧f.name=s))∧Frm Nix w w':=by
 have l1:=World.block_lt_of_cell? w _ c1;have l2:=World.block_lt_of_cell? w _ c2;obtain⟨n,hln⟩:∃ n,l.length=n:=⟨_,rfl⟩;have HL:=h_ hln;have HV:=h_ hv;have HC:Hid (∀ W,Frm Nix w W→W.cell? ⟨b1,0,none⟩=some (.int .i64 b)∧W.cell? ⟨b2,0,none⟩=some (.string s)):=fun W hW=>⟨(hW.cell (p:=⟨b1,0,none⟩) l1 id).trans c1,(hW.cell (p:=⟨b2,0,none⟩) l2 id).trans c2⟩
 rw[hln] at hn ⊢;clear hv hln c1 c2 l1 l2;go_enter Tryz.func190,Tryz.ntmps190;go_wp2
 go_loopw [8] (fun kv wr=>∃ k:Nat,k≤n∧kv=.int .i64 k∧((l.take k).any fun f=>decide (f.inn=b∧f.name=s))=false∧Frm Nix w wr) (fun kv _=>n - (intOf kv).toNat)
 case atStart=>exact⟨0,by omega,rfl,rfl,Frm.refl _ _⟩
 case round=>
  obtain⟨k,hk,rfl,ht,hf⟩:=hrel;have HT:=h_ ht;have HF:=h_ hf;clear ht hf
  by_cases hlt:k<n
  ·have hkl:k<l.length:=by rw[HL.out];exact hlt
   obtain⟨bb,off,hA,-,hbl,hcell⟩:=(HV.out.nix HF.out).at_ Fol.clen (by decide) (by omega);dsimp only at hA;subst hA;obtain⟨x0,x1,x2⟩:=fol3 (w:=wr) (b:=bb) (off:=off+k * 3) (f:=l[k]) (hcell k hkl);have HYes:Hid (decide (l[k].inn=b∧l[k].name=s)=true→(l.any fun f=>decide (f.inn=b∧f.name=s))=true):=fun h=>List.any_eq_true.2 ⟨_,List.getElem_mem hkl,h⟩
   have HNo:Hid (decide (l[k].inn=b∧l[k].name=s)=false→((l.take (k+1)).any fun f=>decide (f.inn=b∧f.name=s))=false):=fun h=>by
    rw[List.take_succ_eq_append_getElem hkl,List.any_append,HT.out,List.any_cons,h];rfl
   obtain⟨f,hf⟩:∃ f,l[k]=f:=⟨_,rfl⟩;rw[hf] at x0 x1 x2 HYes HNo;obtain⟨q1,q2⟩:=HC.out wr HF.out;have KN:=h_ (named1_any f q1 q2);clear hcell hf q1 q2;generalize decide (f.inn=b∧f.name=s)=bb2 at *
   cases bb2 with
   | true=>
     have HY:=h_ (HYes.out rfl);go_wp2_with fail;refine KN.out.mono ?_;rintro e w1 ⟨rfl,hf⟩;have Z1:Hid (Frm Nix w w1):=HF.out.trans hf;clear hf;go_wp2;go_ret
     exact⟨k,rfl,by rw[HY.out];simp,Z1.out⟩
   | false=>
     have HY:=h_ (HNo.out rfl);go_wp2_with fail;refine KN.out.mono ?_;rintro e w1 ⟨rfl,hf⟩;have Z1:Hid (Frm Nix w w1):=HF.out.trans hf;clear hf;go_wp2;go_roundw
     case rel=>exact⟨k+1,by omega,by go_num,HY.out,Z1.out⟩
     case measure=>simp[intOf];omega
  ·obtain rfl:k=n:=by omega
   have HTk:Hid ((l.any fun f=>decide (f.inn=b∧f.name=s))=false):=by
    have:=HT.out
    rwa [List.take_of_length_le (by rw[HL.out];exact Nat.le_refl _)] at this
   go_wp2;go_ret;exact⟨-1,rfl,by rw[HTk.out];rfl,HF.out⟩
theorem named_any{w:World}{g:Nat}{M:Ms}{x:St}(h:StAt w g M x)(b:Int)(s:ByteArray):
  Calls Tryz.prog 104 #[.pointer (some ⟨g,0,none⟩),.int .i64 b,.string s] w fun e w'=>e=.returned (.bool (namedS x b s))∧Frm Nix w w':=by
 have hf0:Frm Nix w ((w.alloc (.cells #[.int .i64 b] 3)).alloc (.cells #[.string s] 9)):=((fR w).alloc _).alloc _;have KT:=h_ (TellV (h.nix hf0));have HB1:=h_ ((Blk.new w 3 #[.int .i64 b]).alloc (.cells #[.string s] 9));have HB2:=h_ (Blk.new (w.alloc (.cells #[.int .i64 b] 3)) 9 #[.string s]);have HN:Hid (namedS x b s=x.fols.any fun f=>decide (f.inn=b∧f.name=s)):=rfl;have hl:x.fols.length≤1000:=by have:=h.ok.fL;omega
 have KC:Hid (∀ W A c G,SlIn W G 3 (A,c) x.fols.length (x.fols.flatMap Fol.cells)→W.cell? ⟨w.heap.size,0,none⟩=some (.int .i64 b)→W.cell? ⟨w.heap.size+1,0,none⟩=some (.string s)→Calls Tryz.prog 190 #[.slice A x.fols.length c,.func (.func 159) #[] #[.pointer (some ⟨w.heap.size,0,none⟩),.pointer (some ⟨w.heap.size+1,0,none⟩)]] W fun e w'=>∃ r:Int,e=.returned (.int .i64 r)∧decide (0≤r)=(x.fols.any fun f=>decide (f.inn=b∧f.name=s))∧Frm Nix W w'):=fun W A c G hv h1 h2=>idxFunc_any hv hl h1 h2
 have KC2:Hid (∀ W A c G,SlIn W G 3 (A,c) x.fols.length (x.fols.flatMap Fol.cells)→W.cell? ⟨w.heap.size,0,none⟩=some (.int .i64 b)→W.cell? ⟨w.heap.size+1,0,none⟩=some (.string s)→Calls Tryz.prog 158 #[.slice A x.fols.length c,.func (.func 159) #[] #[.pointer (some ⟨w.heap.size,0,none⟩),.pointer (some ⟨w.heap.size+1,0,none⟩)]] W fun e w'=>e=.returned (.bool (namedS x b s))∧Frm Nix W w'):=fun W A c G hv h1 h2=>by
  have K:=h_ (KC.out W A c G hv h1 h2);clear hv h1 h2 KC HB1 HB2 KT hf0 h;rw[HN.out];generalize (x.fols.any fun f=>decide (f.inn=b∧f.name=s))=q at *;go_enter Tryz.func158,Tryz.ntmps158;go_wp2_with (go_at_call 190;refine K.out.mono ?_;rintro e w1 ⟨r,rfl,hr,hf⟩;have Z1:=h_ hf;have HR:=h_ hr;clear hf hr);go_ret;exact⟨ret_bool HR.out,Z1.out⟩
 have hfd:=fieldS1;clear h KC hf0;generalize namedS x b s=q at *;go_enter Tryz.func104,Tryz.ntmps104
 go_wp2_with (first
  | (go_at_call 158;have _q:=Z1;refine(KC2.out _ _ _ _ HD.out (by have:=(HB1.out.frm HF1.out id).cell 0;simpa using this) (by have:=(HB2.out.frm HF1.out id).cell 0;simpa using this)).mono ?_;rintro e w2 ⟨rfl,hf⟩;have Z2:Hid (Frm Nix w w2):=Z1.out.trans hf;clear hf)
  | (go_at_call 28;refine KT.out.mono ?_;rintro e w1 ⟨Ao,co,Ae,ce,Ai,ci,As,cs,ts,rfl,hd,hf⟩;have HD:=h_ hd.fols;have HF1:=h_ hf;have Z1:Hid (Frm Nix w w1):=(((fR w).alloc _).alloc _).trans hf;clear hd hf))
 go_ret;exact⟨rfl,Z2.out⟩
end Go.Proofs.YtdihmpakglakdaaGreat
