/- Words. -/
import Derived.Test.YtaecjmiobllhmaaGreatGr14
set_option linter.unusedVariables false
set_option linter.unusedSimpArgs false
set_option maxRecDepth 100000
set_option maxHeartbeats 16000000
namespace Go.Proofs.YtaecjmiobllhmaaGreat
open Go.Value renaming int→I,string→V,slice→U
open Go.IntKind renaming i64→J
open Tryz renaming prog→pQ
open Go.RowKit Go.Lib
variable {k:Nat}{w:World}{G G':Nat→Prop}{v v':Sl}{b off:Nat}
theorem qs{α:Type}{l l':List α}(h:k<l.length)(h':k<l'.length)(hne:l[k]≠l'[k]):l≠l':=λe=>hne (by subst e;rfl)
theorem qu{α:Type}{l l':List α}(h:k<l.length)(h':k<l'.length)(ht:l.take k=l'.take k)(he:l[k]=l'[k]):l.take (k+1)=l'.take (k+1):=by
 rw[List.take_succ_eq_append_getElem h,List.take_succ_eq_append_getElem h',ht,he]
theorem Jz{l l':List ByteArray}(h:aF w G 1 v l.length (l.map Value.string))(h':aF w G' 1 v' l'.length (l'.map Value.string))(hn:l.length≤1000000)(hn':l'.length≤1000000):
  Calls pQ 206 #[U v.1 l.length v.2,U v'.1 l'.length v'.2] w λe w'=>e=.returned (.bool (decide (l=l')))∧aa ag w w':=by
 by_cases hl:l.length=l'.length
 ·rcases Nat.eq_zero_or_pos l.length with h0|h0
  ·have e1:l=[]:=List.eq_nil_of_length_eq_zero h0
   have e2:l'=[]:=List.eq_nil_of_length_eq_zero (by omega);subst e1;subst e2;refine(Tryz.slices_Equal_string_empty v.1 v'.1 v.2 0 v'.2 w (by omega)).mono ?_;rintro e w' ⟨rfl,rfl⟩;exact⟨rfl,aa.refl _ _⟩
  ·have fm:∀l:List ByteArray,l.map Value.string=l.flatMap λi=>[Value.string i]:=λl=>by
    induction l with
    | nil=>rfl
    | cons a l ih=>rw[List.map_cons,ih,List.flatMap_cons];rfl
   rw[fm] at h h';obtain⟨b,off,e,-,-,hc⟩:=h.at_ (f:=λi=>[Value.string i]) (λ_=>rfl) (by decide) h0;obtain⟨b',off',e',-,-,hc'⟩:=h'.at_ (f:=λi=>[Value.string i]) (λ_=>rfl) (by decide) (by omega);rw[e,e']
   have:=Tryz.slices_Equal_string b off l.length v.2 b' off' l'.length v'.2 l l' w (Nat.le_refl _) (Nat.le_refl _) (by omega) (by omega) (λj hj=>by
    have:=hc j hj 0 _ rfl;rw[Nat.mul_one,Nat.add_zero] at this;rw[this,List.getD_eq_getElem?_getD,List.getElem?_eq_getElem hj];rfl) (λj hj=>by
    have:=hc' j hj 0 _ rfl;rw[Nat.mul_one,Nat.add_zero] at this;rw[this,List.getD_eq_getElem?_getD,List.getElem?_eq_getElem hj];rfl)
   rw[List.take_length,List.take_length] at this;refine this.mono ?_;rintro e w' ⟨rfl,q,rfl⟩;exact⟨rfl,(fR w).drewN q⟩
 ·have hne:l≠l':=λe=>hl (by rw[e])
  rw[decide_eq_false hne];refine(Tryz.slices_Equal_string_lens v.1 v'.1 l.length v.2 l'.length v'.2 w hl).mono ?_;rintro e w' ⟨rfl,rfl⟩;exact⟨rfl,aa.refl _ _⟩
theorem E6(e e':bh):decide (e=e')=(decide (e.id=e'.id)&&(decide (e.inn=e'.inn)&&decide (e.name=e'.name))):=by
 rw[Bool.eq_iff_iff];simp only[Bool.and_eq_true,decide_eq_true_eq];constructor
 ·rintro rfl;simp
 ·rintro⟨h0,h1,h2⟩
  cases e
  cases e'
  simp_all
theorem JA(e e':bh)(w:World):(Op.equalIn 10000 79 (nO e) (nO e')).run pQ w=.ok (decide (e=e')) w:=by
 have u3:=Tryz.underlying3;have a3:=Tryz.isAgg3;have z3:=Tryz.sizeOf3;have u9:=Tryz.underlying9;have a9:=Tryz.isAgg9;have z9:=Tryz.sizeOf9;have hS:pQ.underlying 79=some (.struct (pQ.fieldsOf 79)):=by kernel_rfl
 unfold nO;rw[show (10000:Nat)=9999+1 from rfl,run_equalIn_agg w 9999 79 _ _ hS (by kernel_rfl)];simp only[Program.fieldsOf,Tryz.underlying79];rw[E6];go_simp;simp only[dW]
 repeat' split
 all_goals simp[*]
theorem wy(e e':bh)(w:World):(binOp .neq 79 (nO e) (nO e')).run pQ w=.ok (.bool (!decide (e=e'))) w:=by
 unfold nO;rw[run_neq_struct];have:=JA e e' w;unfold nO at this;rw[this];rfl
theorem uB{e:bh}(h:∀(j:Nat) (u:Value),e.cells[j]? =some u→w.cell? ⟨b,off+j,none⟩=some u):
  w.cell? ⟨b,off,none⟩=some (I J e.id)∧w.cell? ⟨b,off+1,none⟩=some (I J e.inn)∧w.cell? ⟨b,off+2,none⟩=some (V e.name):=
 ⟨h 0 _ rfl,h 1 _ rfl,h 2 _ rfl⟩
theorem yR(l l':List bh)(hv:aF w G 3 v l.length (l.flatMap bh.cells))(hv':aF w G' 3 v' l'.length (l'.flatMap bh.cells))(hn:l.length≤1000000)(hn':l'.length≤1000000):
  Calls pQ 166 #[U v.1 l.length v.2,U v'.1 l'.length v'.2] w λe w'=>e=.returned (.bool (decide (l=l')))∧aa ag w w':=by
 obtain⟨A,c⟩:=v;obtain⟨A',c'⟩:=v';dsimp only
 by_cases sW:l.length=l'.length
 ·rw[←sW]
  obtain⟨n,d9⟩:∃n,l.length=n:=⟨_,rfl⟩;have HL:=h_ d9;have Em:=h_ sW;have HV:=h_ hv;have Gj:=h_ hv';rw[d9] at hn ⊢;clear hv hv' sW d9 hn';go_enter Tryz.func166,Tryz.ntmps166;go_wp2
  go_loopw [13] (λkv wr=>∃k:Nat,k≤n∧kv=I J k∧l.take k=l'.take k∧aa ag w wr) (λkv _=>n-(intOf kv).toNat)
  case atStart=>exact⟨0,by omega,rfl,by simp,aa.refl _ _⟩
  case round=>
   obtain⟨k,hk,rfl,ht,hf⟩:=hrel;have HT:=h_ ht;have HF:=h_ hf;clear ht hf
   by_cases hlt:k<n
   ·have cQ:k<l.length:=by rw[HL.out];exact hlt
    have gA:k<l'.length:=by rw[←Em.out];exact cQ
    obtain⟨b,off,hA,-,hbl,hcell⟩:=(HV.out.nix HF.out).at_ bh.clen (by decide) (by omega);obtain⟨b',off',hA',-,wz,bX⟩:=(Gj.out.nix HF.out).at_ bh.clen (by decide) (by omega);dsimp only at hA hA';subst hA;subst hA';obtain⟨x0,x1,x2⟩:=uB (w:=wr) (b:=b) (off:=off+k * 3) (e:=l[k]) (hcell k cQ);obtain⟨y0,y1,y2⟩:=uB (w:=wr) (b:=b') (off:=off'+k * 3) (e:=l'[k]) (bX k gA);have hq:=λW=>wy l[k] l'[k] W
    have hg:pQ.eqGuardType pQ.depth 79=false:=by kernel_rfl
    unfold nO at hq;have rR:=h_ (qs cQ gA);have HEq:=h_ (qu cQ gA HT.out);clear hcell bX;generalize l[k]=p at *;generalize l'[k]=q at *
    by_cases he:p=q
    ·rw[decide_eq_true he] at hq
     have HE:=h_ he;clear he;go_wp2;go_quiet (fail);go_wp2;go_roundw
     case rel=>exact⟨k+1,by omega,by go_num,HEq.out HE.out,HF.out.drewN _⟩
     case measure=>simp[intOf];omega
    ·rw[decide_eq_false he] at hq
     have HE:=h_ he;clear he;go_wp2;go_quiet (fail);go_wp2;go_ret;exact⟨af (decide_eq_false (rR.out HE.out)).symm,HF.out.drewN _⟩
   ·obtain rfl:k=n:=by omega
    have HE:Hid (l=l'):=by
     have:=HT.out;rw[List.take_of_length_le (by rw[HL.out];exact Nat.le_refl _),List.take_of_length_le (by rw[←Em.out,HL.out];exact Nat.le_refl _)] at this;exact this
    go_wp2;go_ret;exact⟨af (decide_eq_true HE.out).symm,HF.out⟩
 ·have hne:decide ((l.length:Int)=(l'.length:Int))=false:=by simp;omega
  have HE:Hid (l≠l'):=λe=>sW (by rw[e])
  clear hv hv';generalize td:l.length=n1 at *;generalize mR:l'.length=n2 at *;clear td mR;go_enter Tryz.func166,Tryz.ntmps166;go_wp2;go_ret;exact⟨af (decide_eq_false HE.out).symm,aa.refl _ _⟩
theorem E7(e e':aX):decide (e=e')=(decide (e.id=e'.id)&&(decide (e.inn=e'.inn)&&(decide (e.url=e'.url)&&decide (e.title=e'.title)))):=by
 rw[Bool.eq_iff_iff];simp only[Bool.and_eq_true,decide_eq_true_eq];constructor
 ·rintro rfl;simp
 ·rintro⟨h0,h1,h2,h3⟩
  cases e
  cases e'
  simp_all
theorem JB(e e':aX)(w:World):(Op.equalIn 10000 64 (kN e) (kN e')).run pQ w=.ok (decide (e=e')) w:=by
 have u3:=Tryz.underlying3;have a3:=Tryz.isAgg3;have z3:=Tryz.sizeOf3;have u9:=Tryz.underlying9;have a9:=Tryz.isAgg9;have z9:=Tryz.sizeOf9;have hS:pQ.underlying 64=some (.struct (pQ.fieldsOf 64)):=by kernel_rfl
 unfold kN;rw[show (10000:Nat)=9999+1 from rfl,run_equalIn_agg w 9999 64 _ _ hS (by kernel_rfl)];simp only[Program.fieldsOf,Tryz.underlying64];rw[E7];go_simp;simp only[dW]
 repeat' split
 all_goals simp[*]
theorem wA(e e':aX)(w:World):(binOp .neq 64 (kN e) (kN e')).run pQ w=.ok (.bool (!decide (e=e'))) w:=by
 unfold kN;rw[run_neq_struct];have:=JB e e' w;unfold kN at this;rw[this];rfl
theorem uC{e:aX}(h:∀(j:Nat) (u:Value),e.cells[j]? =some u→w.cell? ⟨b,off+j,none⟩=some u):
  w.cell? ⟨b,off,none⟩=some (I J e.id)∧w.cell? ⟨b,off+1,none⟩=some (I J e.inn)∧w.cell? ⟨b,off+2,none⟩=some (V e.url)∧w.cell? ⟨b,off+3,none⟩=some (V e.title):=
 ⟨h 0 _ rfl,h 1 _ rfl,h 2 _ rfl,h 3 _ rfl⟩
theorem yS(l l':List aX)(hv:aF w G 4 v l.length (l.flatMap aX.cells))(hv':aF w G' 4 v' l'.length (l'.flatMap aX.cells))(hn:l.length≤1000000)(hn':l'.length≤1000000):
  Calls pQ 167 #[U v.1 l.length v.2,U v'.1 l'.length v'.2] w λe w'=>e=.returned (.bool (decide (l=l')))∧aa ag w w':=by
 obtain⟨A,c⟩:=v;obtain⟨A',c'⟩:=v';dsimp only
 by_cases sW:l.length=l'.length
 ·rw[←sW]
  obtain⟨n,d9⟩:∃n,l.length=n:=⟨_,rfl⟩;have HL:=h_ d9;have Em:=h_ sW;have HV:=h_ hv;have Gj:=h_ hv';rw[d9] at hn ⊢;clear hv hv' sW d9 hn';go_enter Tryz.func167,Tryz.ntmps167;go_wp2
  go_loopw [13] (λkv wr=>∃k:Nat,k≤n∧kv=I J k∧l.take k=l'.take k∧aa ag w wr) (λkv _=>n-(intOf kv).toNat)
  case atStart=>exact⟨0,by omega,rfl,by simp,aa.refl _ _⟩
  case round=>
   obtain⟨k,hk,rfl,ht,hf⟩:=hrel;have HT:=h_ ht;have HF:=h_ hf;clear ht hf
   by_cases hlt:k<n
   ·have cQ:k<l.length:=by rw[HL.out];exact hlt
    have gA:k<l'.length:=by rw[←Em.out];exact cQ
    obtain⟨b,off,hA,-,hbl,hcell⟩:=(HV.out.nix HF.out).at_ aX.clen (by decide) (by omega);obtain⟨b',off',hA',-,wz,bX⟩:=(Gj.out.nix HF.out).at_ aX.clen (by decide) (by omega);dsimp only at hA hA';subst hA;subst hA';obtain⟨x0,x1,x2,x3⟩:=uC (w:=wr) (b:=b) (off:=off+k * 4) (e:=l[k]) (hcell k cQ);obtain⟨y0,y1,y2,y3⟩:=uC (w:=wr) (b:=b') (off:=off'+k * 4) (e:=l'[k]) (bX k gA);have hq:=λW=>wA l[k] l'[k] W
    have hg:pQ.eqGuardType pQ.depth 64=false:=by kernel_rfl
    unfold kN at hq;have rR:=h_ (qs cQ gA);have HEq:=h_ (qu cQ gA HT.out);clear hcell bX;generalize l[k]=p at *;generalize l'[k]=q at *
    by_cases he:p=q
    ·rw[decide_eq_true he] at hq
     have HE:=h_ he;clear he;go_wp2;go_quiet (fail);go_wp2;go_roundw
     case rel=>exact⟨k+1,by omega,by go_num,HEq.out HE.out,HF.out.drewN _⟩
     case measure=>simp[intOf];omega
    ·rw[decide_eq_false he] at hq
     have HE:=h_ he;clear he;go_wp2;go_quiet (fail);go_wp2;go_ret;exact⟨af (decide_eq_false (rR.out HE.out)).symm,HF.out.drewN _⟩
   ·obtain rfl:k=n:=by omega
    have HE:Hid (l=l'):=by
     have:=HT.out;rw[List.take_of_length_le (by rw[HL.out];exact Nat.le_refl _),List.take_of_length_le (by rw[←Em.out,HL.out];exact Nat.le_refl _)] at this;exact this
    go_wp2;go_ret;exact⟨af (decide_eq_true HE.out).symm,HF.out⟩
 ·have hne:decide ((l.length:Int)=(l'.length:Int))=false:=by simp;omega
  have HE:Hid (l≠l'):=λe=>sW (by rw[e])
  clear hv hv';generalize td:l.length=n1 at *;generalize mR:l'.length=n2 at *;clear td mR;go_enter Tryz.func167,Tryz.ntmps167;go_wp2;go_ret;exact⟨af (decide_eq_false HE.out).symm,aa.refl _ _⟩
theorem E8(e e':ce):decide (e=e')=(decide (e.id=e'.id)&&(decide (e.name=e'.name)&&decide (e.query=e'.query))):=by
 rw[Bool.eq_iff_iff];simp only[Bool.and_eq_true,decide_eq_true_eq];constructor
 ·rintro rfl;simp
 ·rintro⟨h0,h1,h2⟩
  cases e
  cases e'
  simp_all
theorem JC(e e':ce)(w:World):(Op.equalIn 10000 84 (nP e) (nP e')).run pQ w=.ok (decide (e=e')) w:=by
 have u3:=Tryz.underlying3;have a3:=Tryz.isAgg3;have z3:=Tryz.sizeOf3;have u9:=Tryz.underlying9;have a9:=Tryz.isAgg9;have z9:=Tryz.sizeOf9;have hS:pQ.underlying 84=some (.struct (pQ.fieldsOf 84)):=by kernel_rfl
 unfold nP;rw[show (10000:Nat)=9999+1 from rfl,run_equalIn_agg w 9999 84 _ _ hS (by kernel_rfl)];simp only[Program.fieldsOf,Tryz.underlying84];rw[E8];go_simp;simp only[dW]
 repeat' split
 all_goals simp[*]
theorem wB(e e':ce)(w:World):(binOp .neq 84 (nP e) (nP e')).run pQ w=.ok (.bool (!decide (e=e'))) w:=by
 unfold nP;rw[run_neq_struct];have:=JC e e' w;unfold nP at this;rw[this];rfl
theorem xZ{e:ce}(h:∀(j:Nat) (u:Value),e.cells[j]? =some u→w.cell? ⟨b,off+j,none⟩=some u):
  w.cell? ⟨b,off,none⟩=some (I J e.id)∧w.cell? ⟨b,off+1,none⟩=some (V e.name)∧w.cell? ⟨b,off+2,none⟩=some (V e.query):=
 ⟨h 0 _ rfl,h 1 _ rfl,h 2 _ rfl⟩
theorem yT(l l':List ce)(hv:aF w G 3 v l.length (l.flatMap ce.cells))(hv':aF w G' 3 v' l'.length (l'.flatMap ce.cells))(hn:l.length≤1000000)(hn':l'.length≤1000000):
  Calls pQ 168 #[U v.1 l.length v.2,U v'.1 l'.length v'.2] w λe w'=>e=.returned (.bool (decide (l=l')))∧aa ag w w':=by
 obtain⟨A,c⟩:=v;obtain⟨A',c'⟩:=v';dsimp only
 by_cases sW:l.length=l'.length
 ·rw[←sW]
  obtain⟨n,d9⟩:∃n,l.length=n:=⟨_,rfl⟩;have HL:=h_ d9;have Em:=h_ sW;have HV:=h_ hv;have Gj:=h_ hv';rw[d9] at hn ⊢;clear hv hv' sW d9 hn';go_enter Tryz.func168,Tryz.ntmps168;go_wp2
  go_loopw [13] (λkv wr=>∃k:Nat,k≤n∧kv=I J k∧l.take k=l'.take k∧aa ag w wr) (λkv _=>n-(intOf kv).toNat)
  case atStart=>exact⟨0,by omega,rfl,by simp,aa.refl _ _⟩
  case round=>
   obtain⟨k,hk,rfl,ht,hf⟩:=hrel;have HT:=h_ ht;have HF:=h_ hf;clear ht hf
   by_cases hlt:k<n
   ·have cQ:k<l.length:=by rw[HL.out];exact hlt
    have gA:k<l'.length:=by rw[←Em.out];exact cQ
    obtain⟨b,off,hA,-,hbl,hcell⟩:=(HV.out.nix HF.out).at_ ce.clen (by decide) (by omega);obtain⟨b',off',hA',-,wz,bX⟩:=(Gj.out.nix HF.out).at_ ce.clen (by decide) (by omega);dsimp only at hA hA';subst hA;subst hA';obtain⟨x0,x1,x2⟩:=xZ (w:=wr) (b:=b) (off:=off+k * 3) (e:=l[k]) (hcell k cQ);obtain⟨y0,y1,y2⟩:=xZ (w:=wr) (b:=b') (off:=off'+k * 3) (e:=l'[k]) (bX k gA);have hq:=λW=>wB l[k] l'[k] W
    have hg:pQ.eqGuardType pQ.depth 84=false:=by kernel_rfl
    unfold nP at hq;have rR:=h_ (qs cQ gA);have HEq:=h_ (qu cQ gA HT.out);clear hcell bX;generalize l[k]=p at *;generalize l'[k]=q at *
    by_cases he:p=q
    ·rw[decide_eq_true he] at hq
     have HE:=h_ he;clear he;go_wp2;go_quiet (fail);go_wp2;go_roundw
     case rel=>exact⟨k+1,by omega,by go_num,HEq.out HE.out,HF.out.drewN _⟩
     case measure=>simp[intOf];omega
    ·rw[decide_eq_false he] at hq
     have HE:=h_ he;clear he;go_wp2;go_quiet (fail);go_wp2;go_ret;exact⟨af (decide_eq_false (rR.out HE.out)).symm,HF.out.drewN _⟩
   ·obtain rfl:k=n:=by omega
    have HE:Hid (l=l'):=by
     have:=HT.out;rw[List.take_of_length_le (by rw[HL.out];exact Nat.le_refl _),List.take_of_length_le (by rw[←Em.out,HL.out];exact Nat.le_refl _)] at this;exact this
    go_wp2;go_ret;exact⟨af (decide_eq_true HE.out).symm,HF.out⟩
 ·have hne:decide ((l.length:Int)=(l'.length:Int))=false:=by simp;omega
  have HE:Hid (l≠l'):=λe=>sW (by rw[e])
  clear hv hv';generalize td:l.length=n1 at *;generalize mR:l'.length=n2 at *;clear td mR;go_enter Tryz.func168,Tryz.ntmps168;go_wp2;go_ret;exact⟨af (decide_eq_false HE.out).symm,aa.refl _ _⟩
theorem JD(t t':aR):decide (t=t')=(decide (t.tags=t'.tags)&&(decide (t.id=t'.id)&&(decide (t.feed=t'.feed)&&(decide (t.date=t'.date)&&(decide (t.guid=t'.guid)&&(decide (t.title=t'.title)&&(decide (t.link=t'.link)&&(decide (t.read=t'.read)&&decide (t.star=t'.star))))))))):=by
 rw[Bool.eq_iff_iff];simp only[Bool.and_eq_true,decide_eq_true_eq];constructor
 ·rintro rfl;simp
 ·rintro⟨h1,h2,h3,h4,h5,h6,h7,h8,h9⟩
  cases t
  cases t'
  simp_all
theorem yU(t t':aR)(hv:aF w G 1 v t.tags.length (t.tags.map Value.string))(hv':aF w G' 1 v' t'.tags.length (t'.tags.map Value.string))(hn:t.tags.length≤1000000)(hn':t'.tags.length≤1000000):
  Calls pQ 170 #[.agg #[I J t.id,I J t.feed,I J t.date,V t.guid,V t.title,V t.link,.bool t.read,.bool t.star,U v.1 t.tags.length v.2],.agg #[I J t'.id,I J t'.feed,I J t'.date,V t'.guid,V t'.title,V t'.link,.bool t'.read,.bool t'.star,U v'.1 t'.tags.length v'.2]] w λe w'=>e=.returned (.bool (decide (t=t')))∧aa ag w w':=by
 obtain⟨w0,hw0⟩:∃w0,w0=w.alloc (.cells #[I J t.id,I J t.feed,I J t.date,V t.guid,V t.title,V t.link,.bool t.read,.bool t.star,U v.1 t.tags.length v.2] 82):=⟨_,rfl⟩;have f0:aa ag w w0:=by rw[hw0];exact(fR w).alloc _
 have e0:w0.heap.size=w.heap.size+1:=by rw[hw0];simp
 have hb0:aj w0 w.heap.size 82 #[I J t.id,I J t.feed,I J t.date,V t.guid,V t.title,V t.link,.bool t.read,.bool t.star,U v.1 t.tags.length v.2]:=by rw[hw0];exact aj.new w _ _
 obtain⟨w1,hw1⟩:∃w1,w1=w0.alloc (.cells #[I J t'.id,I J t'.feed,I J t'.date,V t'.guid,V t'.title,V t'.link,.bool t'.read,.bool t'.star,U v'.1 t'.tags.length v'.2] 82):=⟨_,rfl⟩;have f1:aa ag w0 w1:=by rw[hw1];exact(fR w0).alloc _
 have hb1:=hb0.frm f1 id;have hc1:aj w1 w0.heap.size 82 #[I J t'.id,I J t'.feed,I J t'.date,V t'.guid,V t'.title,V t'.link,.bool t'.read,.bool t'.star,U v'.1 t'.tags.length v'.2]:=by rw[hw1];exact aj.new w0 _ _
 rw[e0] at hc1;have K:=h_ (Jz (hv.nix (f0.trans f1)) (hv'.nix (f0.trans f1)) hn hn');have HI:=h_ (JD t t');have HF:=h_ (f0.trans f1);have pu:=h_ hw0;have PD:=h_ hw1;have HB:=h_ hb1;have HC:=h_ hc1;clear hv hv' f0 f1 hb0 hb1 hc1 hw0 hw1 e0;generalize yV:decide (t.tags=t'.tags)=bt at K HI;clear yV
 cases bt with
 | false=>
   go_enter Tryz.func170,Tryz.ntmps170;go_wp2_with (go_at_call 206;rw[←pu.out,←PD.out];refine K.out.mono ?_;rintro r w2 ⟨rfl,hf2⟩);go_ret
   exact⟨af (by rw[HI.out];rfl),HF.out.trans hf2⟩
 | true=>
   go_enter Tryz.func170,Tryz.ntmps170;go_wp2_with (go_at_call 206;rw[←pu.out,←PD.out];refine K.out.mono ?_;rintro r w2 ⟨rfl,hf2⟩;obtain⟨x0,x1,x2,x3,x4,x5,x6,x7,x8⟩:=Hb (HB.out.frm hf2 id);obtain⟨y0,y1,y2,y3,y4,y5,y6,y7,y8⟩:=Hb (HC.out.frm hf2 id);have kX:=h_ (HF.out.trans hf2);clear hf2)
   all_goals (go_ret;refine⟨af ?_,kX.out⟩;rw[HI.out];(try simp only[dW] at *);first|(simp[*];done)|(simp[*];cases t.star<;>cases t'.star<;>rfl))
theorem rU{p:Sl×aR}(h:∀(j:Nat) (u:Value),(io p)[j]? =some u→w.cell? ⟨b,off+j,none⟩=some u):
  w.cell? ⟨b,off,none⟩=some (I J p.2.id)∧w.cell? ⟨b,off+1,none⟩=some (I J p.2.feed)∧w.cell? ⟨b,off+2,none⟩=some (I J p.2.date)∧w.cell? ⟨b,off+3,none⟩=some (V p.2.guid)∧w.cell? ⟨b,off+4,none⟩=some (V p.2.title)∧w.cell? ⟨b,off+5,none⟩=some (V p.2.link)∧w.cell? ⟨b,off+6,none⟩=some (.bool p.2.read)∧w.cell? ⟨b,off+7,none⟩=some (.bool p.2.star)∧w.cell? ⟨b,off+8,none⟩=some (U p.1.1 p.2.tags.length p.1.2):=
 ⟨h 0 _ rfl,h 1 _ rfl,h 2 _ rfl,h 3 _ rfl,h 4 _ rfl,h 5 _ rfl,h 6 _ rfl,h 7 _ rfl,h 8 _ rfl⟩
theorem aA{W:World}{g:Nat}{t:TypeId}{a0 a1 a2 a3 a4 a5 a6 a7 a8:Value}(h:aj W g t #[a0,a1,a2,a3,a4,a5,a6,a7,a8]):
  W.cell? ⟨g,0,none⟩=some a0∧W.cell? ⟨g,1,none⟩=some a1∧W.cell? ⟨g,2,none⟩=some a2∧W.cell? ⟨g,3,none⟩=some a3∧W.cell? ⟨g,4,none⟩=some a4∧W.cell? ⟨g,5,none⟩=some a5∧W.cell? ⟨g,6,none⟩=some a6∧W.cell? ⟨g,7,none⟩=some a7∧W.cell? ⟨g,8,none⟩=some a8:=
 ⟨h.cell 0,h.cell 1,h.cell 2,h.cell 3,h.cell 4,h.cell 5,h.cell 6,h.cell 7,h.cell 8⟩
theorem He{l l':List (Sl×aR)}(h:k<l.length)(h':k<l'.length)(hne:l[k].2≠l'[k].2):l.map (·.2)≠l'.map (·.2):=λe=>hne (by
 have h1:(l.map (·.2))[k]? =some l[k].2:=by rw[List.getElem?_map,List.getElem?_eq_getElem h];rfl
 have h2:(l'.map (·.2))[k]? =some l'[k].2:=by rw[List.getElem?_map,List.getElem?_eq_getElem h'];rfl
 rw[e,h2] at h1;exact(Option.some.inj h1).symm)
theorem Hf{l l':List (Sl×aR)}(h:k<l.length)(h':k<l'.length)(ht:(l.take k).map (·.2)=(l'.take k).map (·.2))(he:l[k].2=l'[k].2):(l.take (k+1)).map (·.2)=(l'.take (k+1)).map (·.2):=by
 rw[List.take_succ_eq_append_getElem h,List.take_succ_eq_append_getElem h',List.map_append,List.map_append,ht];simp[he]
theorem yX(l l':List (Sl×aR))(hv:nS w G v l)(hv':nS w G' v' l')(hn:l.length≤1000000)(hn':l'.length≤1000000)(ht:∀p∈l,p.2.tags.length≤1000000)(JE:∀p∈l',p.2.tags.length≤1000000):
  Calls pQ 169 #[U v.1 l.length v.2,U v'.1 l'.length v'.2,.func (.func 170) #[] #[]] w λe w'=>e=.returned (.bool (decide (l.map (·.2)=l'.map (·.2))))∧aa ag w w':=by
 obtain⟨A,c⟩:=v;obtain⟨A',c'⟩:=v';dsimp only
 by_cases sW:l.length=l'.length
 ·rw[←sW]
  obtain⟨n,d9⟩:∃n,l.length=n:=⟨_,rfl⟩;have HL:=h_ d9;have Em:=h_ sW;have HV:=h_ hv;have Gj:=h_ hv';have Qt:=h_ ht;have HTg':=h_ JE;rw[d9] at hn ⊢;clear hv hv' sW d9 hn' ht JE;go_enter Tryz.func169,Tryz.ntmps169;go_wp2
  go_loopw [17] (λkv wr=>∃k:Nat,k≤n∧kv=I J k∧(l.take k).map (·.2)=(l'.take k).map (·.2)∧aa ag w wr) (λkv _=>n-(intOf kv).toNat)
  case atStart=>exact⟨0,by omega,rfl,by simp,aa.refl _ _⟩
  case round=>
   obtain⟨k,hk,rfl,ht,hf⟩:=hrel;have HT:=h_ ht;have HF:=h_ hf;clear ht hf
   by_cases hlt:k<n
   ·have cQ:k<l.length:=by rw[HL.out];exact hlt
    have gA:k<l'.length:=by rw[←Em.out];exact cQ
    obtain⟨b,off,hA,-,hbl,hcell⟩:=(HV.out.row.nix HF.out).at_ bN (by decide) (by omega);obtain⟨b',off',hA',-,wz,bX⟩:=(Gj.out.row.nix HF.out).at_ bN (by decide) (by omega);dsimp only at hA hA';subst hA;subst hA';obtain⟨x0,x1,x2,x3,x4,x5,x6,x7,x8⟩:=rU (w:=wr) (b:=b) (off:=off+k * 9) (p:=l[k]) (hcell k cQ);obtain⟨y0,y1,y2,y3,y4,y5,y6,y7,y8⟩:=rU (w:=wr) (b:=b') (off:=off'+k * 9) (p:=l'[k]) (bX k gA);have h1:=HV.out.tags l[k] (List.getElem_mem cQ);have h2:=Gj.out.tags l'[k] (List.getElem_mem gA);have h3:=Qt.out l[k] (List.getElem_mem cQ);have h4:=HTg'.out l'[k] (List.getElem_mem gA);have rR:=h_ (He cQ gA);have HEq:=h_ (Hf cQ gA HT.out);clear hcell bX;generalize l[k]=p at *;generalize l'[k]=q at *
    have K:Hid (∀W,aa ag wr W→Calls pQ 170 #[.agg #[I J p.2.id,I J p.2.feed,I J p.2.date,V p.2.guid,V p.2.title,V p.2.link,.bool p.2.read,.bool p.2.star,U p.1.1 p.2.tags.length p.1.2],.agg #[I J q.2.id,I J q.2.feed,I J q.2.date,V q.2.guid,V q.2.title,V q.2.link,.bool q.2.read,.bool q.2.star,U q.1.1 q.2.tags.length q.1.2]] W λe w'=>e=.returned (.bool (decide (p.2=q.2)))∧aa ag w w'):=λW hW=>
     (yU p.2 q.2 (h1.nix (HF.out.trans hW)) (h2.nix (HF.out.trans hW)) h3 h4).mono λe w' h=>⟨h.1,(HF.out.trans hW).trans h.2⟩
    clear h1 h2 h3 h4;have nB:aa ag wr ((wr.alloc (.cells #[I J p.2.id,I J p.2.feed,I J p.2.date,V p.2.guid,V p.2.title,V p.2.link,.bool p.2.read,.bool p.2.star,U p.1.1 p.2.tags.length p.1.2] 82)).alloc (.cells #[I J q.2.id,I J q.2.feed,I J q.2.date,V q.2.guid,V q.2.title,V q.2.link,.bool q.2.read,.bool q.2.star,U q.1.1 q.2.tags.length q.1.2] 82)):=((fR wr).alloc _).alloc _;have K:=h_ (K.out _ nB);clear nB
    by_cases he:p.2=q.2
    ·rw[decide_eq_true he] at K
     have HE:=h_ he;clear he;go_wp2_with (go_at_call 170;refine K.out.mono ?_;rintro r w2 ⟨rfl,hf2⟩;have kX:=h_ hf2;clear hf2);go_roundw
     case rel=>exact⟨k+1,by omega,by go_num,HEq.out HE.out,kX.out⟩
     case measure=>simp[intOf];omega
    ·rw[decide_eq_false he] at K
     have HE:=h_ he;clear he;go_wp2_with (go_at_call 170;refine K.out.mono ?_;rintro r w2 ⟨rfl,hf2⟩;have kX:=h_ hf2;clear hf2);go_ret;exact⟨af (decide_eq_false (rR.out HE.out)).symm,kX.out⟩
   ·obtain rfl:k=n:=by omega
    have HE:Hid (l.map (·.2)=l'.map (·.2)):=by
     have:=HT.out;rw[List.take_of_length_le (by rw[HL.out];exact Nat.le_refl _),List.take_of_length_le (by rw[←Em.out,HL.out];exact Nat.le_refl _)] at this;exact this
    go_wp2;go_ret;exact⟨af (decide_eq_true HE.out).symm,HF.out⟩
 ·have HE:Hid (l.map (·.2)≠l'.map (·.2)):=λe=>sW (by
   have:=congrArg List.length e
   simpa using this)
  clear hv hv';have hne:¬((l.length:Int)=(l'.length:Int)):=by omega
  generalize td:l.length=n1 at *;generalize mR:l'.length=n2 at *;clear td mR;go_enter Tryz.func169,Tryz.ntmps169;go_wp2;go_ret;exact⟨af (decide_eq_false HE.out).symm,aa.refl _ _⟩
theorem Hg(x y:St):decide (x=y)=(decide (x.clock=y.clock)&&(decide (x.tFol=y.tFol)&&(decide (x.tFee=y.tFee)&&(decide (x.tItm=y.tItm)&&(decide (x.tSea=y.tSea)&&(decide (x.fols=y.fols)&&(decide (x.fees=y.fees)&&(decide (x.seas=y.seas)&&decide (x.itms=y.itms))))))))):=by
 rw[Bool.eq_iff_iff];simp only[Bool.and_eq_true,decide_eq_true_eq];constructor
 ·rintro rfl;simp
 ·rintro⟨h1,h2,h3,h4,h5,h6,h7,h8,h9⟩
  cases x
  cases y
  simp_all
structure aP(x:St):Prop where
 fols:x.fols.length≤100000
 fees:x.fees.length≤100000
 itms:x.itms.length≤100000
 seas:x.seas.length≤100000
 tags:∀t∈x.itms,t.tags.length≤1000
theorem Bb{fo fe it se fo' fe' it' se':Sl}{ts ts':List (Sl×aR)}{x y:St}(h:aY w G fo fe it se ts x)(h':aY w G' fo' fe' it' se' ts' y)(hs:aP x)(hs':aP y):
  Calls pQ 122 #[cC fo fe it se x,cC fo' fe' it' se' y] w λe w'=>e=.returned (.bool (decide (x=y)))∧aa ag w w':=by
 have hl:=h.len;have hl':=h'.len
 have KO:Hid (∀W,aa ag w W→Calls pQ 166 #[U fo.1 x.fols.length fo.2,U fo'.1 y.fols.length fo'.2] W λe w'=>e=.returned (.bool (decide (x.fols=y.fols)))∧aa ag w w'∧aa ag W w'):=λW hW=>
  (yR x.fols y.fols (h.fols.nix hW) (h'.fols.nix hW) (by have:=hs.fols;omega) (by have:=hs'.fols;omega)).mono λe w' q=>⟨q.1,hW.trans q.2,q.2⟩
 have KE:Hid (∀W,aa ag w W→Calls pQ 167 #[U fe.1 x.fees.length fe.2,U fe'.1 y.fees.length fe'.2] W λe w'=>e=.returned (.bool (decide (x.fees=y.fees)))∧aa ag w w'∧aa ag W w'):=λW hW=>
  (yS x.fees y.fees (h.fees.nix hW) (h'.fees.nix hW) (by have:=hs.fees;omega) (by have:=hs'.fees;omega)).mono λe w' q=>⟨q.1,hW.trans q.2,q.2⟩
 have KQ:Hid (∀W,aa ag w W→Calls pQ 168 #[U se.1 x.seas.length se.2,U se'.1 y.seas.length se'.2] W λe w'=>e=.returned (.bool (decide (x.seas=y.seas)))∧aa ag w w'∧aa ag W w'):=λW hW=>
  (yT x.seas y.seas (h.seas.nix hW) (h'.seas.nix hW) (by have:=hs.seas;omega) (by have:=hs'.seas;omega)).mono λe w' q=>⟨q.1,hW.trans q.2,q.2⟩
 have KI:Hid (∀W,aa ag w W→Calls pQ 169 #[U it.1 x.itms.length it.2,U it'.1 y.itms.length it'.2,.func (.func 170) #[] #[]] W λe w'=>e=.returned (.bool (decide (x.itms=y.itms)))∧aa ag w w'∧aa ag W w'):=λW hW=>by
  have:=yX ts ts' (h.itms.frm hW λ_ _=>id) (h'.itms.frm hW λ_ _=>id) (by have:=hs.itms;omega) (by have:=hs'.itms;omega)
   (λp hp=>by have:=hs.tags p.2 (by rw[←h.same];exact List.mem_map_of_mem hp);omega) (λp hp=>by have:=hs'.tags p.2 (by rw[←h'.same];exact List.mem_map_of_mem hp);omega)
  rw[hl,hl',h.same,h'.same] at this;exact this.mono λe w' q=>⟨q.1,hW.trans q.2,q.2⟩
 have HI:=h_ (Hg x y);clear h h' hs hs' hl hl';generalize decide (x=y)=bx at *;generalize decide (x.fols=y.fols)=b1 at *;generalize decide (x.fees=y.fees)=b2 at *;generalize decide (x.seas=y.seas)=b3 at *;generalize decide (x.itms=y.itms)=b4 at *;unfold cC;generalize x.fols.length=n1 at *;generalize x.fees.length=n2 at *;generalize x.itms.length=n3 at *;generalize x.seas.length=n4 at *;generalize y.fols.length=m1 at *;generalize y.fees.length=m2 at *;generalize y.itms.length=m3 at *;generalize y.seas.length=m4 at *;generalize x.clock=cx at *;generalize y.clock=cy at *;generalize x.tFol=ix at *;generalize y.tFol=iy at *;generalize x.tFee=jx at *;generalize y.tFee=jy at *;generalize x.tItm=kx at *;generalize y.tItm=ky at *;generalize x.tSea=lx at *;generalize y.tSea=ly at *
 by_cases hc:cx=cy
 case neg=>
  go_enter Tryz.func122,Tryz.ntmps122;go_wp2;go_ret;exact⟨af (by rw[HI.out];simp[*]),((fR w).alloc _).alloc _⟩
 subst hc
 by_cases hi:ix=iy
 case neg=>
  go_enter Tryz.func122,Tryz.ntmps122;go_wp2;go_ret;exact⟨af (by rw[HI.out];simp[*]),((fR w).alloc _).alloc _⟩
 subst hi
 by_cases hj:jx=jy
 case neg=>
  go_enter Tryz.func122,Tryz.ntmps122;go_wp2;go_ret;exact⟨af (by rw[HI.out];simp[*]),((fR w).alloc _).alloc _⟩
 subst hj
 by_cases hk:kx=ky
 case neg=>
  go_enter Tryz.func122,Tryz.ntmps122;go_wp2;go_ret;exact⟨af (by rw[HI.out];simp[*]),((fR w).alloc _).alloc _⟩
 subst hk
 by_cases hl:lx=ly
 case neg=>
  go_enter Tryz.func122,Tryz.ntmps122;go_wp2;go_ret;exact⟨af (by rw[HI.out];simp[*]),((fR w).alloc _).alloc _⟩
 subst hl;obtain⟨w0,hw0⟩:∃w0,w0=(w.alloc (.cells #[I J cx,U fo.1 n1 fo.2,U fe.1 n2 fe.2,U it.1 n3 it.2,U se.1 n4 se.2,I J ix,I J jx,I J kx,I J lx] 36)).alloc (.cells #[I J cx,U fo'.1 m1 fo'.2,U fe'.1 m2 fe'.2,U it'.1 m3 it'.2,U se'.1 m4 se'.2,I J ix,I J jx,I J kx,I J lx] 36):=⟨_,rfl⟩;have f0:aa ag w w0:=by rw[hw0];exact((fR w).alloc _).alloc _
 have hb:aj w0 w.heap.size 36 #[I J cx,U fo.1 n1 fo.2,U fe.1 n2 fe.2,U it.1 n3 it.2,U se.1 n4 se.2,I J ix,I J jx,I J kx,I J lx]:=by rw[hw0];exact(aj.new w _ _).alloc _
 have hb':aj w0 (w.heap.size+1) 36 #[I J cx,U fo'.1 m1 fo'.2,U fe'.1 m2 fe'.2,U it'.1 m3 it'.2,U se'.1 m4 se'.2,I J ix,I J jx,I J kx,I J lx]:=by
  have:=aj.new (w.alloc (.cells #[I J cx,U fo.1 n1 fo.2,U fe.1 n2 fe.2,U it.1 n3 it.2,U se.1 n4 se.2,I J ix,I J jx,I J kx,I J lx] 36)) 36 #[I J cx,U fo'.1 m1 fo'.2,U fe'.1 m2 fe'.2,U it'.1 m3 it'.2,U se'.1 m4 se'.2,I J ix,I J jx,I J kx,I J lx];rw[show (w.alloc (.cells #[I J cx,U fo.1 n1 fo.2,U fe.1 n2 fe.2,U it.1 n3 it.2,U se.1 n4 se.2,I J ix,I J jx,I J kx,I J lx] 36)).heap.size=w.heap.size+1 by simp] at this;rw[hw0];exact this
 have HB:=h_ hb;have HB':=h_ hb';have pu:=h_ hw0;have bI:=h_ f0;have KO:=h_ (KO.out w0 f0);clear hb hb' hw0 f0;go_enter Tryz.func122,Tryz.ntmps122
 go_wp2_with (first
  | (go_at_call 166;rw[←pu.out];refine KO.out.mono ?_;rintro r w1 ⟨rfl,gI,hg1⟩;have bT:=h_ (HB.out.frm hg1 id);have HB1':=h_ (HB'.out.frm hg1 id);obtain⟨p0,p1,p2,p3,p4,p5,p6,p7,p8⟩:=aA bT.out;obtain⟨q0,q1,q2,q3,q4,q5,q6,q7,q8⟩:=aA HB1'.out;have pG:=h_ gI;clear gI hg1)
  | (go_at_call 167;refine(KE.out _ pG.out).mono ?_;rintro r w2 ⟨rfl,hf2,hg2⟩;have im:=h_ (bT.out.frm hg2 id);have HB2':=h_ (HB1'.out.frm hg2 id);obtain⟨s0,s1,s2,s3,s4,s5,s6,s7,s8⟩:=aA im.out;obtain⟨r0,r1,r2,r3,r4,r5,r6,r7,r8⟩:=aA HB2'.out;have kX:=h_ hf2;clear hf2 hg2)
  | (go_at_call 168;refine(KQ.out _ kX.out).mono ?_;rintro r w3 ⟨rfl,hf3,hg3⟩;obtain⟨t0,t1,t2,t3,t4,t5,t6,t7,t8⟩:=aA (im.out.frm hg3 id);obtain⟨u0,u1,u2,u3,u4,u5,u6,u7,u8⟩:=aA (HB2'.out.frm hg3 id);have Hh:=h_ hf3;clear hf3 hg3)
  | (go_at_call 169;refine(KI.out _ Hh.out).mono ?_;rintro r w4 ⟨rfl,uD,hg4⟩;have HF4:=h_ uD;clear uD hg4))
 all_goals go_ret
 all_goals first
  | exact⟨af (by rw[HI.out];simp[*]),pG.out⟩
  | exact⟨af (by rw[HI.out];simp[*]),kX.out⟩
  | exact⟨af (by rw[HI.out];simp[*]),Hh.out⟩
  | exact⟨af (by rw[HI.out];simp[*]),HF4.out⟩
section
section
variable {α:Type} {f:α→List Value} {s:Nat}
theorem wC(hs:∀a,(f a).length=s)(y:α):∀(l:List α) (i:Nat),i<l.length→∀j:Nat,((l.set i y).flatMap f)[j]? =if i * s≤j∧j<i * s+s then (f y)[j-i * s]? else (l.flatMap f)[j]?
 | [],i,h,j=>by simp at h
 | a::l,0,h,j=>by
   rw[List.set_cons_zero,List.flatMap_cons,List.flatMap_cons,Nat.zero_mul,Nat.zero_add,Nat.sub_zero];have h1:=hs y;have h2:=hs a
   by_cases hj:j<s
   ·rw[if_pos ⟨Nat.zero_le _,hj⟩,List.getElem?_append_left (by omega)]
   ·rw[if_neg (by omega),List.getElem?_append_right (by omega),List.getElem?_append_right (by omega),h1,h2]
 | a::l,i+1,h,j=>by
   rw[List.set_cons_succ,List.flatMap_cons,List.flatMap_cons];have h2:=hs a;have e:(i+1) * s=i * s+s:=Nat.succ_mul i s;rw[e]
   by_cases hj:j<s
   ·rw[if_neg (by omega),List.getElem?_append_left (by omega),List.getElem?_append_left (by omega)]
   ·rw[List.getElem?_append_right (by omega),List.getElem?_append_right (by omega),h2,wC hs y l i (by simpa using h) (j-s)]
    by_cases hc:i * s≤j-s∧j-s<i * s+s
    ·rw[if_pos hc,if_pos (by omega),show j-s-i * s=j-(i * s+s) by omega]
    ·rw[if_neg hc,if_neg (by omega)]
theorem aI.elem{e:TypeId}{w0 w1:World}{A:Option Addr}{n c:Nat}{l:List α}(h:aI e s w0 w1 (U A n c) n (l.flatMap f))(hs:∀a,(f a).length=s)(hl:l.length=n)(hn:0<n):
  ∃g,A=some ⟨g,0,none⟩∧w0.heap.size≤g∧g<w1.heap.size∧(∃cs,aj w1 g e cs)∧(∀(i:Nat) (hi:i<l.length) (j:Nat) (u:Value),(f l[i])[j]? =some u→w1.cell? ⟨g,i * s+j,none⟩=some u)∧
    (∀j,w1.frozen? ⟨g,j,none⟩=false)∧∀(i:Nat),i<l.length→∀y,aI e s w0 (w1.setCells g (i * s) (f y)) (U A n c) n ((l.set i y).flatMap f)∧aa (·=g) w1 (w1.setCells g (i * s) (f y)):=by
 rcases h.own.2 with ⟨hv,pT⟩|⟨g,cap,cur,hv,hg,hh,Ci,hm,hcs,ht⟩
 ·injection hv with _ e2 _
  omega
 ·injection hv with e1 e2 e3
  subst e1;subst e3;have hb:aj w1 g e cur:=hh;have hlen:=pO hs l;rw[hl] at hlen;have Qm:n * s≤cur.size:=by rw[hcs];exact Nat.mul_le_mul_right _ Ci
  refine⟨g,rfl,hg,hb.lt,⟨cur,hb⟩,λi hi j u hu=>?_,λj=>hb.frozen j,λi hi y=>⟨⟨⟨by rw[pO hs,List.length_set,hl],.inr ⟨g,c,putL cur (i * s) (f y),rfl,hg,aj.putL (f y) (i * s) hb,Ci,hm,by rw[dN];exact hcs,?_⟩⟩,aa.setCells (f y) (i * s) h.frm (.inr hg)⟩,aa.setCells (f y) (i * s) (aa.refl _ _) (.inl rfl)⟩⟩
  ·have hj:j<s:=by
    have:=(List.getElem?_eq_some_iff.1 hu).1
    rwa [hs] at this
   have hlt:i * s+j<n * s:=by
    have h1:(i+1) * s≤n * s:=Nat.mul_le_mul_right _ (by omega);rw[Nat.succ_mul] at h1;omega
   rw[hb.cell];have:=lX hs l i hi j hj;rw[←ht,List.getElem?_take,if_pos hlt,hu] at this
   simpa using this
  ·refine List.ext_getElem? λj=>?_
   rw[List.getElem?_take,wC hs y l i hi j];have Vf:=hs y
   have tN:i * s+s≤n * s:=by
    have h1:(i+1) * s≤n * s:=Nat.mul_le_mul_right _ (by omega)
    rwa [Nat.succ_mul] at h1
   by_cases hj:j<n * s
   ·rw[if_pos hj]
    have hp:=fy (f y) (i * s) cur j;have:(putL cur (i * s) (f y)).toList[j]? =(putL cur (i * s) (f y))[j]?:=by simp
    rw[this,hp]
    by_cases hc:i * s≤j∧j<i * s+s
    ·rw[if_pos (by omega),if_pos hc]
    ·rw[if_neg (by omega),if_neg hc,←ht,List.getElem?_take,if_pos hj]
     simp
   ·rw[if_neg hj,if_neg (by omega)]
    symm;rw[List.getElem?_eq_none];omega
end
end
theorem pH(w:World)(fo fe it se:Sl)(x:St):∃w0,w0=w.alloc (.cells #[I J x.clock,U fo.1 x.fols.length fo.2,U fe.1 x.fees.length fe.2,U it.1 x.itms.length it.2,U se.1 x.seas.length se.2,I J x.tFol,I J x.tFee,I J x.tItm,I J x.tSea] 36)∧aa ag w w0∧aj w0 w.heap.size 36 #[I J x.clock,U fo.1 x.fols.length fo.2,U fe.1 x.fees.length fe.2,U it.1 x.itms.length it.2,U se.1 x.seas.length se.2,I J x.tFol,I J x.tFee,I J x.tItm,I J x.tSea]:=
 ⟨_,rfl,(fR w).alloc _,aj.new w _ _⟩
end Go.Proofs.YtaecjmiobllhmaaGreat
