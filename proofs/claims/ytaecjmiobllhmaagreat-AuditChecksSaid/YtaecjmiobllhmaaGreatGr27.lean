/- Words. -/
import Derived.Test.YtaecjmiobllhmaaGreatGr25
import Derived.Test.YtaecjmiobllhmaaGreatGr26
import Derived.Test.YtaecjmiobllhmaaGreatGr11
set_option linter.unusedVariables false
set_option linter.unusedSimpArgs false
set_option maxRecDepth 100000
set_option maxHeartbeats 16000000
namespace Go.Proofs.YtaecjmiobllhmaaGreat
open Go.Value renaming int→I,string→V,slice→U,pointer→O
open Go.IntKind renaming i64→J
open Tryz renaming prog→pQ
open Go.RowKit Go.Maps Go.Sort Go.Shelf Go.Proofs Go.Lib
variable {H:Type}{w:World}{m:Nat}
theorem zf(m:Nat):AnyZI.SortsIn pQ Tryz.sortedI_ren Fence.wide m:=
 ⟨λblk off cap ss W hH hblk hsz=>callsIn_wide.2 (AnyM.slices_Sort_int Tryz.sortI blk off cap ss W hH hblk hsz),
  λp cap W=>callsIn_wide.2 (AnyM.slices_Sort_int_none Tryz.sortI p cap W)⟩
theorem JZ(b:Nat)(w:World):CallsIn Fence.wide 5 pQ 110 #[.map (some b)] w λe w'=>e=.returned (.func (.func 161) #[] #[O (some ⟨w.heap.size,0,none⟩)])∧w'=(w.alloc (.cells #[.map (some b)] 106)):=
 AnyZI.keys_in Tryz.keysIFol Fence.wide 5 trivial rfl (some b) w
theorem Hx(b nn:Nat)(D0:DataW H)(R:Value→Option (DataW H×List MemPlace))(w:World)(hown:w.ownsMap pQ 3 R b nn D0)(hmax:Maps.size D0≤maxLen)(hbytes:Maps.size D0 * 8≤140737488355328):
  CallsIn Fence.wide 5 pQ 109 #[.func (.func 161) #[] #[O (some ⟨w.heap.size,0,none⟩)]] (w.alloc (.cells #[.map (some b)] 106)) λe w'=>∃(v:Value) (ss:List Int),e=.returned v∧ss.Perm (intKeys D0)∧
   w'.ownsRow (w.alloc (.cells #[.map (some b)] 106)).heap.size 3 1 v ss.length ((ss.mergeSort (λx y=>decide (x≤y))).map encZ)∧(v=U none 0 0↔ss=[])∧Below (w.alloc (.cells #[.map (some b)] 106)).heap.size (w.alloc (.cells #[.map (some b)] 106)) w':=by
 have hbl:=hown.lt
 have hseq:SeqGives Fence.wide 2 pQ 161 #[O (some ⟨w.heap.size,0,none⟩)] encZ (λss=>ss.Perm (intKeys D0)) (Maps.size D0) (w.alloc (.cells #[.map (some b)] 106)):=
  AnyZI.keys_gives (ρ:=Tryz.keysIFol_ren) {Tryz.keysIFol with} Fence.wide _ trivial rfl (by omega) w.heap.size b nn D0 _ (by simp) (by simp) (by
   obtain⟨es,clock,hb,Ft,hs,hD⟩:=hown;exact⟨es,clock,(Below.heap_alloc _ _ b hbl).trans hb,Ft,hs,hD⟩)
 exact AnyZI.sorted_in Tryz.sortedI Fence.wide 5 trivial trivial trivial trivial rfl (by omega) (zf _) (enters_of Tryz.func160 (by kernel_rfl) rfl) 161 #[O (some ⟨w.heap.size,0,none⟩)] trivial (enters_of Tryz.func161 (by kernel_rfl) rfl) _ _ hmax hbytes _ hseq
theorem J0(b:Nat)(w:World):CallsIn Fence.wide 5 pQ 111 #[.map (some b)] w λe w'=>e=.returned (.func (.func 162) #[] #[O (some ⟨w.heap.size,0,none⟩)])∧w'=(w.alloc (.cells #[.map (some b)] 107)):=
 AnyZI.keys_in Tryz.keysIFee Fence.wide 5 trivial rfl (some b) w
theorem Hy(b nn:Nat)(D0:DataW H)(R:Value→Option (DataW H×List MemPlace))(w:World)(hown:w.ownsMap pQ 3 R b nn D0)(hmax:Maps.size D0≤maxLen)(hbytes:Maps.size D0 * 8≤140737488355328):
  CallsIn Fence.wide 5 pQ 109 #[.func (.func 162) #[] #[O (some ⟨w.heap.size,0,none⟩)]] (w.alloc (.cells #[.map (some b)] 107)) λe w'=>∃(v:Value) (ss:List Int),e=.returned v∧ss.Perm (intKeys D0)∧
   w'.ownsRow (w.alloc (.cells #[.map (some b)] 107)).heap.size 3 1 v ss.length ((ss.mergeSort (λx y=>decide (x≤y))).map encZ)∧(v=U none 0 0↔ss=[])∧Below (w.alloc (.cells #[.map (some b)] 107)).heap.size (w.alloc (.cells #[.map (some b)] 107)) w':=by
 have hbl:=hown.lt
 have hseq:SeqGives Fence.wide 2 pQ 162 #[O (some ⟨w.heap.size,0,none⟩)] encZ (λss=>ss.Perm (intKeys D0)) (Maps.size D0) (w.alloc (.cells #[.map (some b)] 107)):=
  AnyZI.keys_gives (ρ:=Tryz.keysIFee_ren) {Tryz.keysIFee with} Fence.wide _ trivial rfl (by omega) w.heap.size b nn D0 _ (by simp) (by simp) (by
   obtain⟨es,clock,hb,Ft,hs,hD⟩:=hown;exact⟨es,clock,(Below.heap_alloc _ _ b hbl).trans hb,Ft,hs,hD⟩)
 exact AnyZI.sorted_in Tryz.sortedI Fence.wide 5 trivial trivial trivial trivial rfl (by omega) (zf _) (enters_of Tryz.func160 (by kernel_rfl) rfl) 162 #[O (some ⟨w.heap.size,0,none⟩)] trivial (enters_of Tryz.func162 (by kernel_rfl) rfl) _ _ hmax hbytes _ hseq
theorem J1(b:Nat)(w:World):CallsIn Fence.wide 5 pQ 112 #[.map (some b)] w λe w'=>e=.returned (.func (.func 163) #[] #[O (some ⟨w.heap.size,0,none⟩)])∧w'=(w.alloc (.cells #[.map (some b)] 108)):=
 AnyZI.keys_in Tryz.keysIItm Fence.wide 5 trivial rfl (some b) w
theorem Hz(b nn:Nat)(D0:DataW H)(R:Value→Option (DataW H×List MemPlace))(w:World)(hown:w.ownsMap pQ 3 R b nn D0)(hmax:Maps.size D0≤maxLen)(hbytes:Maps.size D0 * 8≤140737488355328):
  CallsIn Fence.wide 5 pQ 109 #[.func (.func 163) #[] #[O (some ⟨w.heap.size,0,none⟩)]] (w.alloc (.cells #[.map (some b)] 108)) λe w'=>∃(v:Value) (ss:List Int),e=.returned v∧ss.Perm (intKeys D0)∧
   w'.ownsRow (w.alloc (.cells #[.map (some b)] 108)).heap.size 3 1 v ss.length ((ss.mergeSort (λx y=>decide (x≤y))).map encZ)∧(v=U none 0 0↔ss=[])∧Below (w.alloc (.cells #[.map (some b)] 108)).heap.size (w.alloc (.cells #[.map (some b)] 108)) w':=by
 have hbl:=hown.lt
 have hseq:SeqGives Fence.wide 2 pQ 163 #[O (some ⟨w.heap.size,0,none⟩)] encZ (λss=>ss.Perm (intKeys D0)) (Maps.size D0) (w.alloc (.cells #[.map (some b)] 108)):=
  AnyZI.keys_gives (ρ:=Tryz.keysIItm_ren) {Tryz.keysIItm with} Fence.wide _ trivial rfl (by omega) w.heap.size b nn D0 _ (by simp) (by simp) (by
   obtain⟨es,clock,hb,Ft,hs,hD⟩:=hown;exact⟨es,clock,(Below.heap_alloc _ _ b hbl).trans hb,Ft,hs,hD⟩)
 exact AnyZI.sorted_in Tryz.sortedI Fence.wide 5 trivial trivial trivial trivial rfl (by omega) (zf _) (enters_of Tryz.func160 (by kernel_rfl) rfl) 163 #[O (some ⟨w.heap.size,0,none⟩)] trivial (enters_of Tryz.func163 (by kernel_rfl) rfl) _ _ hmax hbytes _ hseq
theorem J2(b:Nat)(w:World):CallsIn Fence.wide 5 pQ 113 #[.map (some b)] w λe w'=>e=.returned (.func (.func 164) #[] #[O (some ⟨w.heap.size,0,none⟩)])∧w'=(w.alloc (.cells #[.map (some b)] 109)):=
 AnyZI.keys_in Tryz.keysISea Fence.wide 5 trivial rfl (some b) w
theorem H5(b nn:Nat)(D0:DataW H)(R:Value→Option (DataW H×List MemPlace))(w:World)(hown:w.ownsMap pQ 3 R b nn D0)(hmax:Maps.size D0≤maxLen)(hbytes:Maps.size D0 * 8≤140737488355328):
  CallsIn Fence.wide 5 pQ 109 #[.func (.func 164) #[] #[O (some ⟨w.heap.size,0,none⟩)]] (w.alloc (.cells #[.map (some b)] 109)) λe w'=>∃(v:Value) (ss:List Int),e=.returned v∧ss.Perm (intKeys D0)∧
   w'.ownsRow (w.alloc (.cells #[.map (some b)] 109)).heap.size 3 1 v ss.length ((ss.mergeSort (λx y=>decide (x≤y))).map encZ)∧(v=U none 0 0↔ss=[])∧Below (w.alloc (.cells #[.map (some b)] 109)).heap.size (w.alloc (.cells #[.map (some b)] 109)) w':=by
 have hbl:=hown.lt
 have hseq:SeqGives Fence.wide 2 pQ 164 #[O (some ⟨w.heap.size,0,none⟩)] encZ (λss=>ss.Perm (intKeys D0)) (Maps.size D0) (w.alloc (.cells #[.map (some b)] 109)):=
  AnyZI.keys_gives (ρ:=Tryz.keysISea_ren) {Tryz.keysISea with} Fence.wide _ trivial rfl (by omega) w.heap.size b nn D0 _ (by simp) (by simp) (by
   obtain⟨es,clock,hb,Ft,hs,hD⟩:=hown;exact⟨es,clock,(Below.heap_alloc _ _ b hbl).trans hb,Ft,hs,hD⟩)
 exact AnyZI.sorted_in Tryz.sortedI Fence.wide 5 trivial trivial trivial trivial rfl (by omega) (zf _) (enters_of Tryz.func160 (by kernel_rfl) rfl) 164 #[O (some ⟨w.heap.size,0,none⟩)] trivial (enters_of Tryz.func164 (by kernel_rfl) rfl) _ _ hmax hbytes _ hseq
theorem zg(l:List Int)(k:Nat)(h:k<l.length):(l.map encZ)[k]? =some (I J l[k]):=by
 rw[List.getElem?_map,List.getElem?_eq_getElem h];rfl
theorem tu:mJ pQ 31 79 3 32:=⟨Tryz.underlying31,⟨.agg #[.int .i64 0,.int .i64 0,.string ByteArray.empty],by kernel_rfl,rfl⟩,by decide⟩
theorem xo{l:List (bh)}(h:aO pQ 3 w m (l.map λp=>(kI p.id,nO p)))(hs:(l.map λp=>p.id).Pairwise (·<·))(hn:l.length≤100000):
  Calls pQ 56 #[.map (some m)] w λe w'=>∃A c,e=.returned (U A l.length c)∧aI 79 3 w w' (U A l.length c) l.length (l.flatMap bh.cells):=by
 obtain⟨D,hown,nZ,hsize⟩:=aO.ownI (P:=pQ) (w:=w) (m:=m) (k:=3) (L:=l.map λp=>(p.id,nO p)) Tryz.underlying3 (by rw[List.map_map];exact h) (by simp;unfold maxLen;omega);rw[List.length_map] at hsize;obtain⟨n,d9⟩:∃n,l.length=n:=⟨_,rfl⟩;rw[d9] at hsize hn ⊢;have HL:=h_ d9;rw[List.map_map] at nZ;have n9:(intKeys D).Perm (l.map λp=>p.id):=nZ;have HK:=h_ (callsIn_wide.1 (JZ m w));have HS:=h_ (callsIn_wide.1 (Hx m _ D Bp w hown (by rw[hsize];unfold maxLen;omega) (by rw[hsize];omega)));have qY:=h_ n9;have HM:=h_ h;have MC:=h_ hs;clear h hs hown nZ n9 hsize d9;go_enter Tryz.func56,Tryz.ntmps56;go_wp2_with (first|(go_at_call 110;refine HK.out.mono ?_;rintro e w1 ⟨rfl,rfl⟩)|(go_at_call 109;refine HS.out.mono ?_;rintro e w2 ⟨v,ss,rfl,hp,hown,-,hb⟩;rw[nu (hp.trans qY.out) MC.out,(hp.trans qY.out).length_eq,List.length_map,HL.out] at hown;have HO:Hid (aJ 3 w w2 v n ((l.map λp=>p.id).map encZ)):=⟨pL hown λk hk=>by(have:=(hown.lt k hk).1;simp at this;omega),((fR w).alloc _).more (aa.of_below hb)⟩;clear hp hown hb;obtain⟨A,c,rfl,-,-,-,-⟩:=HO.out.shape))
 go_loopw [3,10] (λov kv wr=>∃k:Nat,k≤n∧kv=I J k∧aJ 3 w wr (U A n c) n ((l.map λp=>p.id).map encZ)∧aI 79 3 w wr ov k ((l.take k).flatMap bh.cells)) (λ_ kv _=>n-(intOf kv).toNat)
 case atStart=>exact⟨0,by omega,rfl,HO.out,aI.nil_ _ _ HO.out.frm⟩
 case round=>
  obtain⟨k,hk,rfl,wM,hout⟩:=hrel;have HR:=h_ wM;have uW:=h_ hout;obtain⟨Ao,co,rfl,-,-,-,-⟩:=hout.shape;clear hout wM
  by_cases hlt:k<n
  ·obtain⟨ad,u,rfl,-,Cg,hu,Ch⟩:=HR.out.rd.at_ (k:=k) hlt
   have cQ:k<l.length:=by rw[HL.out];exact hlt
   rw[zg _ k (by rw[List.length_map];exact cQ),List.getElem_map] at hu;obtain rfl:=Option.some.inj hu;clear hu;have EJ:=h_ (qq (f:=bh.cells) l k cQ);have hmem:l[k]∈l:=List.getElem_mem cQ;obtain⟨y,hy⟩:∃y,l[k]=y:=⟨_,rfl⟩;rw[hy] at EJ Ch hmem;have hlk:=(HM.out.frm uW.out.frm id).lookup_yes (x:=kI y.id) (v:=nO y) cE Tryz.underlying106 (List.mem_map.2 ⟨y,hmem,rfl⟩) false;simp only[Bool.false_eq_true,if_false] at hlk;unfold kI nO at hlk;clear hmem hy;obtain⟨v4,w4,qZ,hrow4,uD,tx⟩:=uW.out.push tu [I J y.id,I J y.inn,V y.name] rfl (by intro u hu;simp at hu;rcases hu with rfl|rfl|rfl<;>rfl) (by unfold maxLen;omega) (by omega)
   have HX:Hid (aJ 3 w w4 (U (some ad) n c) n ((l.map λp=>p.id).map encZ)∧aI 79 3 w w4 v4 (k+1) ((l.take (k+1)).flatMap bh.cells)):=by
    refine⟨(HR.out.more ((fR wr).alloc _)).far uD (λj hj=>(uW.out.own.lt j hj).1) λj hj J3=>nR HR.out.toK uW.out (by decide) hj J3,?_⟩;rw[EJ.out];exact hrow4
   clear hrow4 uD tx;go_wp2_with (at_builtin;refine aq qZ rfl _ _ rfl rfl rfl ?_);go_roundw
   case rel=>exact⟨k+1,by omega,by go_num,HX.out.1,HX.out.2⟩
   case measure=>simp[intOf];omega
  ·obtain rfl:k=n:=by omega
   have Bq:Hid (l.take k=l):=List.take_of_length_le (by rw[HL.out];exact Nat.le_refl _);go_wp2;go_ret;have ho:=uW.out;rw[Bq.out] at ho;exact⟨_,_,rfl,ho⟩
theorem qw:mJ pQ 32 64 4 48:=⟨Tryz.underlying32,⟨.agg #[.int .i64 0,.int .i64 0,.string ByteArray.empty,.string ByteArray.empty],by kernel_rfl,rfl⟩,by decide⟩
theorem xp{l:List (aX)}(h:aO pQ 3 w m (l.map λp=>(kI p.id,kN p)))(hs:(l.map λp=>p.id).Pairwise (·<·))(hn:l.length≤100000):
  Calls pQ 57 #[.map (some m)] w λe w'=>∃A c,e=.returned (U A l.length c)∧aI 64 4 w w' (U A l.length c) l.length (l.flatMap aX.cells):=by
 obtain⟨D,hown,nZ,hsize⟩:=aO.ownI (P:=pQ) (w:=w) (m:=m) (k:=3) (L:=l.map λp=>(p.id,kN p)) Tryz.underlying3 (by rw[List.map_map];exact h) (by simp;unfold maxLen;omega);rw[List.length_map] at hsize;obtain⟨n,d9⟩:∃n,l.length=n:=⟨_,rfl⟩;rw[d9] at hsize hn ⊢;have HL:=h_ d9;rw[List.map_map] at nZ;have n9:(intKeys D).Perm (l.map λp=>p.id):=nZ;have HK:=h_ (callsIn_wide.1 (J0 m w));have HS:=h_ (callsIn_wide.1 (Hy m _ D Bp w hown (by rw[hsize];unfold maxLen;omega) (by rw[hsize];omega)));have qY:=h_ n9;have HM:=h_ h;have MC:=h_ hs;clear h hs hown nZ n9 hsize d9;go_enter Tryz.func57,Tryz.ntmps57;go_wp2_with (first|(go_at_call 111;refine HK.out.mono ?_;rintro e w1 ⟨rfl,rfl⟩)|(go_at_call 109;refine HS.out.mono ?_;rintro e w2 ⟨v,ss,rfl,hp,hown,-,hb⟩;rw[nu (hp.trans qY.out) MC.out,(hp.trans qY.out).length_eq,List.length_map,HL.out] at hown;have HO:Hid (aJ 3 w w2 v n ((l.map λp=>p.id).map encZ)):=⟨pL hown λk hk=>by(have:=(hown.lt k hk).1;simp at this;omega),((fR w).alloc _).more (aa.of_below hb)⟩;clear hp hown hb;obtain⟨A,c,rfl,-,-,-,-⟩:=HO.out.shape))
 go_loopw [3,10] (λov kv wr=>∃k:Nat,k≤n∧kv=I J k∧aJ 3 w wr (U A n c) n ((l.map λp=>p.id).map encZ)∧aI 64 4 w wr ov k ((l.take k).flatMap aX.cells)) (λ_ kv _=>n-(intOf kv).toNat)
 case atStart=>exact⟨0,by omega,rfl,HO.out,aI.nil_ _ _ HO.out.frm⟩
 case round=>
  obtain⟨k,hk,rfl,wM,hout⟩:=hrel;have HR:=h_ wM;have uW:=h_ hout;obtain⟨Ao,co,rfl,-,-,-,-⟩:=hout.shape;clear hout wM
  by_cases hlt:k<n
  ·obtain⟨ad,u,rfl,-,Cg,hu,Ch⟩:=HR.out.rd.at_ (k:=k) hlt
   have cQ:k<l.length:=by rw[HL.out];exact hlt
   rw[zg _ k (by rw[List.length_map];exact cQ),List.getElem_map] at hu;obtain rfl:=Option.some.inj hu;clear hu;have EJ:=h_ (qq (f:=aX.cells) l k cQ);have hmem:l[k]∈l:=List.getElem_mem cQ;obtain⟨y,hy⟩:∃y,l[k]=y:=⟨_,rfl⟩;rw[hy] at EJ Ch hmem;have hlk:=(HM.out.frm uW.out.frm id).lookup_yes (x:=kI y.id) (v:=kN y) cE Tryz.underlying107 (List.mem_map.2 ⟨y,hmem,rfl⟩) false;simp only[Bool.false_eq_true,if_false] at hlk;unfold kI kN at hlk;clear hmem hy;obtain⟨v4,w4,qZ,hrow4,uD,tx⟩:=uW.out.push qw [I J y.id,I J y.inn,V y.url,V y.title] rfl (by intro u hu;simp at hu;rcases hu with rfl|rfl|rfl|rfl<;>rfl) (by unfold maxLen;omega) (by omega)
   have HX:Hid (aJ 3 w w4 (U (some ad) n c) n ((l.map λp=>p.id).map encZ)∧aI 64 4 w w4 v4 (k+1) ((l.take (k+1)).flatMap aX.cells)):=by
    refine⟨(HR.out.more ((fR wr).alloc _)).far uD (λj hj=>(uW.out.own.lt j hj).1) λj hj J3=>nR HR.out.toK uW.out (by decide) hj J3,?_⟩;rw[EJ.out];exact hrow4
   clear hrow4 uD tx;go_wp2_with (at_builtin;refine aq qZ rfl _ _ rfl rfl rfl ?_);go_roundw
   case rel=>exact⟨k+1,by omega,by go_num,HX.out.1,HX.out.2⟩
   case measure=>simp[intOf];omega
  ·obtain rfl:k=n:=by omega
   have Bq:Hid (l.take k=l):=List.take_of_length_le (by rw[HL.out];exact Nat.le_refl _);go_wp2;go_ret;have ho:=uW.out;rw[Bq.out] at ho;exact⟨_,_,rfl,ho⟩
theorem px:mJ pQ 33 82 9 104:=⟨Tryz.underlying33,⟨.agg #[.int .i64 0,.int .i64 0,.int .i64 0,.string ByteArray.empty,V ByteArray.empty,V ByteArray.empty,.bool false,.bool false,U none 0 0],by kernel_rfl,rfl⟩,by decide⟩
theorem xq{l:List (Sl×aR)}(h:aO pQ 3 w m (l.map λp=>(kI p.2.id,iG p.1 p.2)))(hs:(l.map λp=>p.2.id).Pairwise (·<·))(hn:l.length≤100000):
  Calls pQ 58 #[.map (some m)] w λe w'=>∃A c,e=.returned (U A l.length c)∧aI 82 9 w w' (U A l.length c) l.length (l.flatMap io):=by
 obtain⟨D,hown,nZ,hsize⟩:=aO.ownI (P:=pQ) (w:=w) (m:=m) (k:=3) (L:=l.map λp=>(p.2.id,iG p.1 p.2)) Tryz.underlying3 (by rw[List.map_map];exact h) (by simp;unfold maxLen;omega);rw[List.length_map] at hsize;obtain⟨n,d9⟩:∃n,l.length=n:=⟨_,rfl⟩;rw[d9] at hsize hn ⊢;have HL:=h_ d9;rw[List.map_map] at nZ;have n9:(intKeys D).Perm (l.map λp=>p.2.id):=nZ;have HK:=h_ (callsIn_wide.1 (J1 m w));have HS:=h_ (callsIn_wide.1 (Hz m _ D Bp w hown (by rw[hsize];unfold maxLen;omega) (by rw[hsize];omega)));have qY:=h_ n9;have HM:=h_ h;have MC:=h_ hs;clear h hs hown nZ n9 hsize d9;go_enter Tryz.func58,Tryz.ntmps58;go_wp2_with (first|(go_at_call 112;refine HK.out.mono ?_;rintro e w1 ⟨rfl,rfl⟩)|(go_at_call 109;refine HS.out.mono ?_;rintro e w2 ⟨v,ss,rfl,hp,hown,-,hb⟩;rw[nu (hp.trans qY.out) MC.out,(hp.trans qY.out).length_eq,List.length_map,HL.out] at hown;have HO:Hid (aJ 3 w w2 v n ((l.map λp=>p.2.id).map encZ)):=⟨pL hown λk hk=>by(have:=(hown.lt k hk).1;simp at this;omega),((fR w).alloc _).more (aa.of_below hb)⟩;clear hp hown hb;obtain⟨A,c,rfl,-,-,-,-⟩:=HO.out.shape))
 go_loopw [3,10] (λov kv wr=>∃k:Nat,k≤n∧kv=I J k∧aJ 3 w wr (U A n c) n ((l.map λp=>p.2.id).map encZ)∧aI 82 9 w wr ov k ((l.take k).flatMap io)) (λ_ kv _=>n-(intOf kv).toNat)
 case atStart=>exact⟨0,by omega,rfl,HO.out,aI.nil_ _ _ HO.out.frm⟩
 case round=>
  obtain⟨k,hk,rfl,wM,hout⟩:=hrel;have HR:=h_ wM;have uW:=h_ hout;obtain⟨Ao,co,rfl,-,-,-,-⟩:=hout.shape;clear hout wM
  by_cases hlt:k<n
  ·obtain⟨ad,u,rfl,-,Cg,hu,Ch⟩:=HR.out.rd.at_ (k:=k) hlt
   have cQ:k<l.length:=by rw[HL.out];exact hlt
   rw[zg _ k (by rw[List.length_map];exact cQ),List.getElem_map] at hu;obtain rfl:=Option.some.inj hu;clear hu;have EJ:=h_ (qq (f:=io) l k cQ);have hmem:l[k]∈l:=List.getElem_mem cQ;obtain⟨y,hy⟩:∃y,l[k]=y:=⟨_,rfl⟩;rw[hy] at EJ Ch hmem;have hlk:=(HM.out.frm uW.out.frm id).lookup_yes (x:=kI y.2.id) (v:=iG y.1 y.2) cE Tryz.underlying108 (List.mem_map.2 ⟨y,hmem,rfl⟩) false;simp only[Bool.false_eq_true,if_false] at hlk;unfold kI iG NS at hlk;clear hmem hy;obtain⟨v4,w4,qZ,hrow4,uD,tx⟩:=uW.out.push px [I J y.2.id,I J y.2.feed,I J y.2.date,V y.2.guid,V y.2.title,V y.2.link,.bool y.2.read,.bool y.2.star,U y.1.1 y.2.tags.length y.1.2] rfl (by intro u hu;simp at hu;rcases hu with rfl|rfl|rfl|rfl|rfl|rfl|rfl|rfl|rfl<;>rfl) (by unfold maxLen;omega) (by omega)
   have HX:Hid (aJ 3 w w4 (U (some ad) n c) n ((l.map λp=>p.2.id).map encZ)∧aI 82 9 w w4 v4 (k+1) ((l.take (k+1)).flatMap io)):=by
    refine⟨(HR.out.more ((fR wr).alloc _)).far uD (λj hj=>(uW.out.own.lt j hj).1) λj hj J3=>nR HR.out.toK uW.out (by decide) hj J3,?_⟩;rw[EJ.out];exact hrow4
   clear hrow4 uD tx;go_wp2_with (at_builtin;refine aq qZ rfl _ _ rfl rfl rfl ?_);go_roundw
   case rel=>exact⟨k+1,by omega,by go_num,HX.out.1,HX.out.2⟩
   case measure=>simp[intOf];omega
  ·obtain rfl:k=n:=by omega
   have Bq:Hid (l.take k=l):=List.take_of_length_le (by rw[HL.out];exact Nat.le_refl _);go_wp2;go_ret;have ho:=uW.out;rw[Bq.out] at ho;exact⟨_,_,rfl,ho⟩
theorem tz:mJ pQ 34 84 3 40:=⟨Tryz.underlying34,⟨.agg #[.int .i64 0,.string ByteArray.empty,.string ByteArray.empty],by kernel_rfl,rfl⟩,by decide⟩
theorem xr{l:List (ce)}(h:aO pQ 3 w m (l.map λp=>(kI p.id,nP p)))(hs:(l.map λp=>p.id).Pairwise (·<·))(hn:l.length≤100000):
  Calls pQ 59 #[.map (some m)] w λe w'=>∃A c,e=.returned (U A l.length c)∧aI 84 3 w w' (U A l.length c) l.length (l.flatMap ce.cells):=by
 obtain⟨D,hown,nZ,hsize⟩:=aO.ownI (P:=pQ) (w:=w) (m:=m) (k:=3) (L:=l.map λp=>(p.id,nP p)) Tryz.underlying3 (by rw[List.map_map];exact h) (by simp;unfold maxLen;omega);rw[List.length_map] at hsize;obtain⟨n,d9⟩:∃n,l.length=n:=⟨_,rfl⟩;rw[d9] at hsize hn ⊢;have HL:=h_ d9;rw[List.map_map] at nZ;have n9:(intKeys D).Perm (l.map λp=>p.id):=nZ;have HK:=h_ (callsIn_wide.1 (J2 m w));have HS:=h_ (callsIn_wide.1 (H5 m _ D Bp w hown (by rw[hsize];unfold maxLen;omega) (by rw[hsize];omega)));have qY:=h_ n9;have HM:=h_ h;have MC:=h_ hs;clear h hs hown nZ n9 hsize d9;go_enter Tryz.func59,Tryz.ntmps59;go_wp2_with (first|(go_at_call 113;refine HK.out.mono ?_;rintro e w1 ⟨rfl,rfl⟩)|(go_at_call 109;refine HS.out.mono ?_;rintro e w2 ⟨v,ss,rfl,hp,hown,-,hb⟩;rw[nu (hp.trans qY.out) MC.out,(hp.trans qY.out).length_eq,List.length_map,HL.out] at hown;have HO:Hid (aJ 3 w w2 v n ((l.map λp=>p.id).map encZ)):=⟨pL hown λk hk=>by(have:=(hown.lt k hk).1;simp at this;omega),((fR w).alloc _).more (aa.of_below hb)⟩;clear hp hown hb;obtain⟨A,c,rfl,-,-,-,-⟩:=HO.out.shape))
 go_loopw [3,10] (λov kv wr=>∃k:Nat,k≤n∧kv=I J k∧aJ 3 w wr (U A n c) n ((l.map λp=>p.id).map encZ)∧aI 84 3 w wr ov k ((l.take k).flatMap ce.cells)) (λ_ kv _=>n-(intOf kv).toNat)
 case atStart=>exact⟨0,by omega,rfl,HO.out,aI.nil_ _ _ HO.out.frm⟩
 case round=>
  obtain⟨k,hk,rfl,wM,hout⟩:=hrel;have HR:=h_ wM;have uW:=h_ hout;obtain⟨Ao,co,rfl,-,-,-,-⟩:=hout.shape;clear hout wM
  by_cases hlt:k<n
  ·obtain⟨ad,u,rfl,-,Cg,hu,Ch⟩:=HR.out.rd.at_ (k:=k) hlt
   have cQ:k<l.length:=by rw[HL.out];exact hlt
   rw[zg _ k (by rw[List.length_map];exact cQ),List.getElem_map] at hu;obtain rfl:=Option.some.inj hu;clear hu;have EJ:=h_ (qq (f:=ce.cells) l k cQ);have hmem:l[k]∈l:=List.getElem_mem cQ;obtain⟨y,hy⟩:∃y,l[k]=y:=⟨_,rfl⟩;rw[hy] at EJ Ch hmem;have hlk:=(HM.out.frm uW.out.frm id).lookup_yes (x:=kI y.id) (v:=nP y) cE Tryz.underlying109 (List.mem_map.2 ⟨y,hmem,rfl⟩) false;simp only[Bool.false_eq_true,if_false] at hlk;unfold kI nP at hlk;clear hmem hy;obtain⟨v4,w4,qZ,hrow4,uD,tx⟩:=uW.out.push tz [I J y.id,V y.name,V y.query] rfl (by intro u hu;simp at hu;rcases hu with rfl|rfl|rfl<;>rfl) (by unfold maxLen;omega) (by omega)
   have HX:Hid (aJ 3 w w4 (U (some ad) n c) n ((l.map λp=>p.id).map encZ)∧aI 84 3 w w4 v4 (k+1) ((l.take (k+1)).flatMap ce.cells)):=by
    refine⟨(HR.out.more ((fR wr).alloc _)).far uD (λj hj=>(uW.out.own.lt j hj).1) λj hj J3=>nR HR.out.toK uW.out (by decide) hj J3,?_⟩;rw[EJ.out];exact hrow4
   clear hrow4 uD tx;go_wp2_with (at_builtin;refine aq qZ rfl _ _ rfl rfl rfl ?_);go_roundw
   case rel=>exact⟨k+1,by omega,by go_num,HX.out.1,HX.out.2⟩
   case measure=>simp[intOf];omega
  ·obtain rfl:k=n:=by omega
   have Bq:Hid (l.take k=l):=List.take_of_length_le (by rw[HL.out];exact Nat.le_refl _);go_wp2;go_ret;have ho:=uW.out;rw[Bq.out] at ho;exact⟨_,_,rfl,ho⟩
end Go.Proofs.YtaecjmiobllhmaaGreat
