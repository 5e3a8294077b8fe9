/- Words. -/
import Derived.Test.YtaecjmiobllhmaaGreatGp25
import Derived.Test.YtaecjmiobllhmaaGreatGp26
import Derived.Test.YtaecjmiobllhmaaGreatGp11
set_option linter.unusedVariables false
set_option linter.unusedSimpArgs false
set_option maxRecDepth 100000
set_option maxHeartbeats 16000000
namespace Go.Proofs.YtaecjmiobllhmaaGreat
open Go.RowKit Go.Maps Go.Sort Go.Shelf Go.Proofs Go.Lib
theorem sortsI(m:Nat):AnyZI.SortsIn Tryz.prog Tryz.sortedI_ren Fence.wide m:=
 ⟨λblk off cap ss W hH hblk hsz=>callsIn_wide.2 (AnyM.slices_Sort_int Tryz.sortI blk off cap ss W hH hblk hsz),
  λp cap W=>callsIn_wide.2 (AnyM.slices_Sort_int_none Tryz.sortI p cap W)⟩
theorem keysFol(b:Nat)(w:World):CallsIn Fence.wide 5 Tryz.prog 110 #[.map (some b)] w λe w'=>e=.returned (.func (.func 161) #[] #[.pointer (some ⟨w.heap.size,0,none⟩)])∧w'=(w.alloc (.cells #[.map (some b)] 106)):=
 AnyZI.keys_in Tryz.keysIFol Fence.wide 5 trivial rfl (some b) w
theorem sortsFol{H:Type}(b nn:Nat)(D0:DataW H)(R:Value→Option (DataW H×List MemPlace))(w:World)(hown:w.ownsMap Tryz.prog 3 R b nn D0)(hmax:Maps.size D0≤maxLen)(hbytes:Maps.size D0 * 8≤140737488355328):
  CallsIn Fence.wide 5 Tryz.prog 109 #[.func (.func 161) #[] #[.pointer (some ⟨w.heap.size,0,none⟩)]] (w.alloc (.cells #[.map (some b)] 106)) λe w'=>∃(v:Value) (ss:List Int),e=.returned v∧ss.Perm (intKeys D0)∧
   w'.ownsRow (w.alloc (.cells #[.map (some b)] 106)).heap.size 3 1 v ss.length ((ss.mergeSort (λx y=>decide (x≤y))).map encZ)∧(v=.slice none 0 0↔ss=[])∧Below (w.alloc (.cells #[.map (some b)] 106)).heap.size (w.alloc (.cells #[.map (some b)] 106)) w':=by
 have hbl:=hown.lt
 have hseq:SeqGives Fence.wide 2 Tryz.prog 161 #[.pointer (some ⟨w.heap.size,0,none⟩)] encZ (λss=>ss.Perm (intKeys D0)) (Maps.size D0) (w.alloc (.cells #[.map (some b)] 106)):=
  AnyZI.keys_gives (ρ:=Tryz.keysIFol_ren) {Tryz.keysIFol with} Fence.wide _ trivial rfl (by omega) w.heap.size b nn D0 _ (by simp) (by simp) (by
   obtain⟨es,clock,hb,Ft,hs,hD⟩:=hown;exact⟨es,clock,(Below.heap_alloc _ _ b hbl).trans hb,Ft,hs,hD⟩)
 exact AnyZI.sorted_in Tryz.sortedI Fence.wide 5 trivial trivial trivial trivial rfl (by omega) (sortsI _) (enters_of Tryz.func160 (by kernel_rfl) rfl) 161 #[.pointer (some ⟨w.heap.size,0,none⟩)] trivial (enters_of Tryz.func161 (by kernel_rfl) rfl) _ _ hmax hbytes _ hseq
theorem keysFee(b:Nat)(w:World):CallsIn Fence.wide 5 Tryz.prog 111 #[.map (some b)] w λe w'=>e=.returned (.func (.func 162) #[] #[.pointer (some ⟨w.heap.size,0,none⟩)])∧w'=(w.alloc (.cells #[.map (some b)] 107)):=
 AnyZI.keys_in Tryz.keysIFee Fence.wide 5 trivial rfl (some b) w
theorem sortsFee{H:Type}(b nn:Nat)(D0:DataW H)(R:Value→Option (DataW H×List MemPlace))(w:World)(hown:w.ownsMap Tryz.prog 3 R b nn D0)(hmax:Maps.size D0≤maxLen)(hbytes:Maps.size D0 * 8≤140737488355328):
  CallsIn Fence.wide 5 Tryz.prog 109 #[.func (.func 162) #[] #[.pointer (some ⟨w.heap.size,0,none⟩)]] (w.alloc (.cells #[.map (some b)] 107)) λe w'=>∃(v:Value) (ss:List Int),e=.returned v∧ss.Perm (intKeys D0)∧
   w'.ownsRow (w.alloc (.cells #[.map (some b)] 107)).heap.size 3 1 v ss.length ((ss.mergeSort (λx y=>decide (x≤y))).map encZ)∧(v=.slice none 0 0↔ss=[])∧Below (w.alloc (.cells #[.map (some b)] 107)).heap.size (w.alloc (.cells #[.map (some b)] 107)) w':=by
 have hbl:=hown.lt
 have hseq:SeqGives Fence.wide 2 Tryz.prog 162 #[.pointer (some ⟨w.heap.size,0,none⟩)] encZ (λss=>ss.Perm (intKeys D0)) (Maps.size D0) (w.alloc (.cells #[.map (some b)] 107)):=
  AnyZI.keys_gives (ρ:=Tryz.keysIFee_ren) {Tryz.keysIFee with} Fence.wide _ trivial rfl (by omega) w.heap.size b nn D0 _ (by simp) (by simp) (by
   obtain⟨es,clock,hb,Ft,hs,hD⟩:=hown;exact⟨es,clock,(Below.heap_alloc _ _ b hbl).trans hb,Ft,hs,hD⟩)
 exact AnyZI.sorted_in Tryz.sortedI Fence.wide 5 trivial trivial trivial trivial rfl (by omega) (sortsI _) (enters_of Tryz.func160 (by kernel_rfl) rfl) 162 #[.pointer (some ⟨w.heap.size,0,none⟩)] trivial (enters_of Tryz.func162 (by kernel_rfl) rfl) _ _ hmax hbytes _ hseq
theorem keysItm(b:Nat)(w:World):CallsIn Fence.wide 5 Tryz.prog 112 #[.map (some b)] w λe w'=>e=.returned (.func (.func 163) #[] #[.pointer (some ⟨w.heap.size,0,none⟩)])∧w'=(w.alloc (.cells #[.map (some b)] 108)):=
 AnyZI.keys_in Tryz.keysIItm Fence.wide 5 trivial rfl (some b) w
theorem sortsItm{H:Type}(b nn:Nat)(D0:DataW H)(R:Value→Option (DataW H×List MemPlace))(w:World)(hown:w.ownsMap Tryz.prog 3 R b nn D0)(hmax:Maps.size D0≤maxLen)(hbytes:Maps.size D0 * 8≤140737488355328):
  CallsIn Fence.wide 5 Tryz.prog 109 #[.func (.func 163) #[] #[.pointer (some ⟨w.heap.size,0,none⟩)]] (w.alloc (.cells #[.map (some b)] 108)) λe w'=>∃(v:Value) (ss:List Int),e=.returned v∧ss.Perm (intKeys D0)∧
   w'.ownsRow (w.alloc (.cells #[.map (some b)] 108)).heap.size 3 1 v ss.length ((ss.mergeSort (λx y=>decide (x≤y))).map encZ)∧(v=.slice none 0 0↔ss=[])∧Below (w.alloc (.cells #[.map (some b)] 108)).heap.size (w.alloc (.cells #[.map (some b)] 108)) w':=by
 have hbl:=hown.lt
 have hseq:SeqGives Fence.wide 2 Tryz.prog 163 #[.pointer (some ⟨w.heap.size,0,none⟩)] encZ (λss=>ss.Perm (intKeys D0)) (Maps.size D0) (w.alloc (.cells #[.map (some b)] 108)):=
  AnyZI.keys_gives (ρ:=Tryz.keysIItm_ren) {Tryz.keysIItm with} Fence.wide _ trivial rfl (by omega) w.heap.size b nn D0 _ (by simp) (by simp) (by
   obtain⟨es,clock,hb,Ft,hs,hD⟩:=hown;exact⟨es,clock,(Below.heap_alloc _ _ b hbl).trans hb,Ft,hs,hD⟩)
 exact AnyZI.sorted_in Tryz.sortedI Fence.wide 5 trivial trivial trivial trivial rfl (by omega) (sortsI _) (enters_of Tryz.func160 (by kernel_rfl) rfl) 163 #[.pointer (some ⟨w.heap.size,0,none⟩)] trivial (enters_of Tryz.func163 (by kernel_rfl) rfl) _ _ hmax hbytes _ hseq
theorem keysSea(b:Nat)(w:World):CallsIn Fence.wide 5 Tryz.prog 113 #[.map (some b)] w λe w'=>e=.returned (.func (.func 164) #[] #[.pointer (some ⟨w.heap.size,0,none⟩)])∧w'=(w.alloc (.cells #[.map (some b)] 109)):=
 AnyZI.keys_in Tryz.keysISea Fence.wide 5 trivial rfl (some b) w
theorem sortsSea{H:Type}(b nn:Nat)(D0:DataW H)(R:Value→Option (DataW H×List MemPlace))(w:World)(hown:w.ownsMap Tryz.prog 3 R b nn D0)(hmax:Maps.size D0≤maxLen)(hbytes:Maps.size D0 * 8≤140737488355328):
  CallsIn Fence.wide 5 Tryz.prog 109 #[.func (.func 164) #[] #[.pointer (some ⟨w.heap.size,0,none⟩)]] (w.alloc (.cells #[.map (some b)] 109)) λe w'=>∃(v:Value) (ss:List Int),e=.returned v∧ss.Perm (intKeys D0)∧
   w'.ownsRow (w.alloc (.cells #[.map (some b)] 109)).heap.size 3 1 v ss.length ((ss.mergeSort (λx y=>decide (x≤y))).map encZ)∧(v=.slice none 0 0↔ss=[])∧Below (w.alloc (.cells #[.map (some b)] 109)).heap.size (w.alloc (.cells #[.map (some b)] 109)) w':=by
 have hbl:=hown.lt
 have hseq:SeqGives Fence.wide 2 Tryz.prog 164 #[.pointer (some ⟨w.heap.size,0,none⟩)] encZ (λss=>ss.Perm (intKeys D0)) (Maps.size D0) (w.alloc (.cells #[.map (some b)] 109)):=
  AnyZI.keys_gives (ρ:=Tryz.keysISea_ren) {Tryz.keysISea with} Fence.wide _ trivial rfl (by omega) w.heap.size b nn D0 _ (by simp) (by simp) (by
   obtain⟨es,clock,hb,Ft,hs,hD⟩:=hown;exact⟨es,clock,(Below.heap_alloc _ _ b hbl).trans hb,Ft,hs,hD⟩)
 exact AnyZI.sorted_in Tryz.sortedI Fence.wide 5 trivial trivial trivial trivial rfl (by omega) (sortsI _) (enters_of Tryz.func160 (by kernel_rfl) rfl) 164 #[.pointer (some ⟨w.heap.size,0,none⟩)] trivial (enters_of Tryz.func164 (by kernel_rfl) rfl) _ _ hmax hbytes _ hseq
theorem ids_at(l:List Int)(k:Nat)(h:k<l.length):(l.map encZ)[k]? =some (.int .i64 l[k]):=by
 rw[List.getElem?_map,List.getElem?_eq_getElem h];rfl
theorem elemFol:ElemK Tryz.prog 31 79 3 32:=⟨Tryz.underlying31,⟨.agg #[.int .i64 0,.int .i64 0,.string ByteArray.empty],by kernel_rfl,rfl⟩,by decide⟩
theorem sortedFol_any{w:World}{m:Nat}{l:List (Fol)}(h:MapIs Tryz.prog 3 w m (l.map λp=>(kI p.id,folV p)))(hs:(l.map λp=>p.id).Pairwise (·<·))(hn:l.length≤100000):
  Calls Tryz.prog 56 #[.map (some m)] w λe w'=>∃A c,e=.returned (.slice A l.length c)∧RowK 79 3 w w' (.slice A l.length c) l.length (l.flatMap Fol.cells):=by
 obtain⟨D,hown,hkeys,hsize⟩:=MapIs.ownI (P:=Tryz.prog) (w:=w) (m:=m) (k:=3) (L:=l.map λp=>(p.id,folV p)) Tryz.underlying3 (by rw[List.map_map];exact h) (by simp;unfold maxLen;omega);rw[List.length_map] at hsize;obtain⟨n,hln⟩:∃n,l.length=n:=⟨_,rfl⟩;rw[hln] at hsize hn ⊢;have HL:=h_ hln;rw[List.map_map] at hkeys;have hkeys':(intKeys D).Perm (l.map λp=>p.id):=hkeys;have HK:=h_ (callsIn_wide.1 (keysFol m w));have HS:=h_ (callsIn_wide.1 (sortsFol m _ D anyR w hown (by rw[hsize];unfold maxLen;omega) (by rw[hsize];omega)));have HKeys:=h_ hkeys';have HM:=h_ h;have HSo:=h_ hs;clear h hs hown hkeys hkeys' hsize hln;go_enter Tryz.func56,Tryz.ntmps56;go_wp2_with (first | (go_at_call 110;refine HK.out.mono ?_;rintro e w1 ⟨rfl,rfl⟩) | (go_at_call 109;refine HS.out.mono ?_;rintro e w2 ⟨v,ss,rfl,hp,hown,-,hb⟩;rw[merge_sorted (hp.trans HKeys.out) HSo.out,(hp.trans HKeys.out).length_eq,List.length_map,HL.out] at hown;have HO:Hid (RowIn 3 w w2 v n ((l.map λp=>p.id).map encZ)):=⟨own_base hown λk hk=>by(have:=(hown.lt k hk).1;simp at this;omega),((fR w).alloc _).more (Frm.of_below hb)⟩;clear hp hown hb;obtain⟨A,c,rfl,-,-,-,-⟩:=HO.out.shape))
 go_loopw [3,10] (λov kv wr=>∃k:Nat,k≤n∧kv=.int .i64 k∧RowIn 3 w wr (.slice A n c) n ((l.map λp=>p.id).map encZ)∧RowK 79 3 w wr ov k ((l.take k).flatMap Fol.cells)) (λ_ kv _=>n - (intOf kv).toNat)
 case atStart=>exact⟨0,by omega,rfl,HO.out,RowK.nil_ _ _ HO.out.frm⟩
 case round=>
  obtain⟨k,hk,rfl,hids,hout⟩:=hrel;have HR:=h_ hids;have HO2:=h_ hout;obtain⟨Ao,co,rfl,-,-,-,-⟩:=hout.shape;clear hout hids
  by_cases hlt:k<n
  ·obtain⟨ad,u,rfl,-,hla,hu,hcu⟩:=HR.out.rd.at_ (k:=k) hlt
   have hkl:k<l.length:=by rw[HL.out];exact hlt
   rw[ids_at _ k (by rw[List.length_map];exact hkl),List.getElem_map] at hu;obtain rfl:=Option.some.inj hu;clear hu;have HFS:=h_ (flat_succ_ (f:=Fol.cells) l k hkl);have hmem:l[k]∈l:=List.getElem_mem hkl;obtain⟨y,hy⟩:∃y,l[k]=y:=⟨_,rfl⟩;rw[hy] at HFS hcu hmem;have hlk:=(HM.out.frm HO2.out.frm id).lookup_yes (x:=kI y.id) (v:=folV y) keyedI Tryz.underlying106 (List.mem_map.2 ⟨y,hmem,rfl⟩) false;simp only[Bool.false_eq_true,if_false] at hlk;unfold kI folV at hlk;clear hmem hy;obtain⟨v4,w4,hrun4,hrow4,hf4,hat4⟩:=HO2.out.push elemFol [.int .i64 y.id,.int .i64 y.inn,.string y.name] rfl (by intro u hu;simp at hu;rcases hu with rfl | rfl | rfl<;>rfl) (by unfold maxLen;omega) (by omega)
   have HX:Hid (RowIn 3 w w4 (.slice (some ad) n c) n ((l.map λp=>p.id).map encZ)∧RowK 79 3 w w4 v4 (k+1) ((l.take (k+1)).flatMap Fol.cells)):=by
    refine⟨(HR.out.more ((fR wr).alloc _)).far hf4 (λj hj=>(HO2.out.own.lt j hj).1) λj hj hj2=>rowK_apart HR.out.toK HO2.out (by decide) hj hj2,?_⟩;rw[HFS.out];exact hrow4
   clear hrow4 hf4 hat4;go_wp2_with (at_builtin;refine wpList_append_run hrun4 rfl _ _ rfl rfl rfl ?_);go_roundw
   case rel=>exact⟨k+1,by omega,by go_num,HX.out.1,HX.out.2⟩
   case measure=>simp[intOf];omega
  ·obtain rfl:k=n:=by omega
   have HLe:Hid (l.take k=l):=List.take_of_length_le (by rw[HL.out];exact Nat.le_refl _);go_wp2;go_ret;have ho:=HO2.out;rw[HLe.out] at ho;exact⟨_,_,rfl,ho⟩
theorem elemFee:ElemK Tryz.prog 32 64 4 48:=⟨Tryz.underlying32,⟨.agg #[.int .i64 0,.int .i64 0,.string ByteArray.empty,.string ByteArray.empty],by kernel_rfl,rfl⟩,by decide⟩
theorem sortedFee_any{w:World}{m:Nat}{l:List (Fee)}(h:MapIs Tryz.prog 3 w m (l.map λp=>(kI p.id,feeV p)))(hs:(l.map λp=>p.id).Pairwise (·<·))(hn:l.length≤100000):
  Calls Tryz.prog 57 #[.map (some m)] w λe w'=>∃A c,e=.returned (.slice A l.length c)∧RowK 64 4 w w' (.slice A l.length c) l.length (l.flatMap Fee.cells):=by
 obtain⟨D,hown,hkeys,hsize⟩:=MapIs.ownI (P:=Tryz.prog) (w:=w) (m:=m) (k:=3) (L:=l.map λp=>(p.id,feeV p)) Tryz.underlying3 (by rw[List.map_map];exact h) (by simp;unfold maxLen;omega);rw[List.length_map] at hsize;obtain⟨n,hln⟩:∃n,l.length=n:=⟨_,rfl⟩;rw[hln] at hsize hn ⊢;have HL:=h_ hln;rw[List.map_map] at hkeys;have hkeys':(intKeys D).Perm (l.map λp=>p.id):=hkeys;have HK:=h_ (callsIn_wide.1 (keysFee m w));have HS:=h_ (callsIn_wide.1 (sortsFee m _ D anyR w hown (by rw[hsize];unfold maxLen;omega) (by rw[hsize];omega)));have HKeys:=h_ hkeys';have HM:=h_ h;have HSo:=h_ hs;clear h hs hown hkeys hkeys' hsize hln;go_enter Tryz.func57,Tryz.ntmps57;go_wp2_with (first | (go_at_call 111;refine HK.out.mono ?_;rintro e w1 ⟨rfl,rfl⟩) | (go_at_call 109;refine HS.out.mono ?_;rintro e w2 ⟨v,ss,rfl,hp,hown,-,hb⟩;rw[merge_sorted (hp.trans HKeys.out) HSo.out,(hp.trans HKeys.out).length_eq,List.length_map,HL.out] at hown;have HO:Hid (RowIn 3 w w2 v n ((l.map λp=>p.id).map encZ)):=⟨own_base hown λk hk=>by(have:=(hown.lt k hk).1;simp at this;omega),((fR w).alloc _).more (Frm.of_below hb)⟩;clear hp hown hb;obtain⟨A,c,rfl,-,-,-,-⟩:=HO.out.shape))
 go_loopw [3,10] (λov kv wr=>∃k:Nat,k≤n∧kv=.int .i64 k∧RowIn 3 w wr (.slice A n c) n ((l.map λp=>p.id).map encZ)∧RowK 64 4 w wr ov k ((l.take k).flatMap Fee.cells)) (λ_ kv _=>n - (intOf kv).toNat)
 case atStart=>exact⟨0,by omega,rfl,HO.out,RowK.nil_ _ _ HO.out.frm⟩
 case round=>
  obtain⟨k,hk,rfl,hids,hout⟩:=hrel;have HR:=h_ hids;have HO2:=h_ hout;obtain⟨Ao,co,rfl,-,-,-,-⟩:=hout.shape;clear hout hids
  by_cases hlt:k<n
  ·obtain⟨ad,u,rfl,-,hla,hu,hcu⟩:=HR.out.rd.at_ (k:=k) hlt
   have hkl:k<l.length:=by rw[HL.out];exact hlt
   rw[ids_at _ k (by rw[List.length_map];exact hkl),List.getElem_map] at hu;obtain rfl:=Option.some.inj hu;clear hu;have HFS:=h_ (flat_succ_ (f:=Fee.cells) l k hkl);have hmem:l[k]∈l:=List.getElem_mem hkl;obtain⟨y,hy⟩:∃y,l[k]=y:=⟨_,rfl⟩;rw[hy] at HFS hcu hmem;have hlk:=(HM.out.frm HO2.out.frm id).lookup_yes (x:=kI y.id) (v:=feeV y) keyedI Tryz.underlying107 (List.mem_map.2 ⟨y,hmem,rfl⟩) false;simp only[Bool.false_eq_true,if_false] at hlk;unfold kI feeV at hlk;clear hmem hy;obtain⟨v4,w4,hrun4,hrow4,hf4,hat4⟩:=HO2.out.push elemFee [.int .i64 y.id,.int .i64 y.inn,.string y.url,.string y.title] rfl (by intro u hu;simp at hu;rcases hu with rfl | rfl | rfl | rfl<;>rfl) (by unfold maxLen;omega) (by omega)
   have HX:Hid (RowIn 3 w w4 (.slice (some ad) n c) n ((l.map λp=>p.id).map encZ)∧RowK 64 4 w w4 v4 (k+1) ((l.take (k+1)).flatMap Fee.cells)):=by
    refine⟨(HR.out.more ((fR wr).alloc _)).far hf4 (λj hj=>(HO2.out.own.lt j hj).1) λj hj hj2=>rowK_apart HR.out.toK HO2.out (by decide) hj hj2,?_⟩;rw[HFS.out];exact hrow4
   clear hrow4 hf4 hat4;go_wp2_with (at_builtin;refine wpList_append_run hrun4 rfl _ _ rfl rfl rfl ?_);go_roundw
   case rel=>exact⟨k+1,by omega,by go_num,HX.out.1,HX.out.2⟩
   case measure=>simp[intOf];omega
  ·obtain rfl:k=n:=by omega
   have HLe:Hid (l.take k=l):=List.take_of_length_le (by rw[HL.out];exact Nat.le_refl _);go_wp2;go_ret;have ho:=HO2.out;rw[HLe.out] at ho;exact⟨_,_,rfl,ho⟩
theorem elemItm:ElemK Tryz.prog 33 82 9 104:=⟨Tryz.underlying33,⟨.agg #[.int .i64 0,.int .i64 0,.int .i64 0,.string ByteArray.empty,.string ByteArray.empty,.string ByteArray.empty,.bool false,.bool false,.slice none 0 0],by kernel_rfl,rfl⟩,by decide⟩
theorem sortedItm_any{w:World}{m:Nat}{l:List (Sl×Itm)}(h:MapIs Tryz.prog 3 w m (l.map λp=>(kI p.2.id,itmV p.1 p.2)))(hs:(l.map λp=>p.2.id).Pairwise (·<·))(hn:l.length≤100000):
  Calls Tryz.prog 58 #[.map (some m)] w λe w'=>∃A c,e=.returned (.slice A l.length c)∧RowK 82 9 w w' (.slice A l.length c) l.length (l.flatMap itmC):=by
 obtain⟨D,hown,hkeys,hsize⟩:=MapIs.ownI (P:=Tryz.prog) (w:=w) (m:=m) (k:=3) (L:=l.map λp=>(p.2.id,itmV p.1 p.2)) Tryz.underlying3 (by rw[List.map_map];exact h) (by simp;unfold maxLen;omega);rw[List.length_map] at hsize;obtain⟨n,hln⟩:∃n,l.length=n:=⟨_,rfl⟩;rw[hln] at hsize hn ⊢;have HL:=h_ hln;rw[List.map_map] at hkeys;have hkeys':(intKeys D).Perm (l.map λp=>p.2.id):=hkeys;have HK:=h_ (callsIn_wide.1 (keysItm m w));have HS:=h_ (callsIn_wide.1 (sortsItm m _ D anyR w hown (by rw[hsize];unfold maxLen;omega) (by rw[hsize];omega)));have HKeys:=h_ hkeys';have HM:=h_ h;have HSo:=h_ hs;clear h hs hown hkeys hkeys' hsize hln;go_enter Tryz.func58,Tryz.ntmps58;go_wp2_with (first | (go_at_call 112;refine HK.out.mono ?_;rintro e w1 ⟨rfl,rfl⟩) | (go_at_call 109;refine HS.out.mono ?_;rintro e w2 ⟨v,ss,rfl,hp,hown,-,hb⟩;rw[merge_sorted (hp.trans HKeys.out) HSo.out,(hp.trans HKeys.out).length_eq,List.length_map,HL.out] at hown;have HO:Hid (RowIn 3 w w2 v n ((l.map λp=>p.2.id).map encZ)):=⟨own_base hown λk hk=>by(have:=(hown.lt k hk).1;simp at this;omega),((fR w).alloc _).more (Frm.of_below hb)⟩;clear hp hown hb;obtain⟨A,c,rfl,-,-,-,-⟩:=HO.out.shape))
 go_loopw [3,10] (λov kv wr=>∃k:Nat,k≤n∧kv=.int .i64 k∧RowIn 3 w wr (.slice A n c) n ((l.map λp=>p.2.id).map encZ)∧RowK 82 9 w wr ov k ((l.take k).flatMap itmC)) (λ_ kv _=>n - (intOf kv).toNat)
 case atStart=>exact⟨0,by omega,rfl,HO.out,RowK.nil_ _ _ HO.out.frm⟩
 case round=>
  obtain⟨k,hk,rfl,hids,hout⟩:=hrel;have HR:=h_ hids;have HO2:=h_ hout;obtain⟨Ao,co,rfl,-,-,-,-⟩:=hout.shape;clear hout hids
  by_cases hlt:k<n
  ·obtain⟨ad,u,rfl,-,hla,hu,hcu⟩:=HR.out.rd.at_ (k:=k) hlt
   have hkl:k<l.length:=by rw[HL.out];exact hlt
   rw[ids_at _ k (by rw[List.length_map];exact hkl),List.getElem_map] at hu;obtain rfl:=Option.some.inj hu;clear hu;have HFS:=h_ (flat_succ_ (f:=itmC) l k hkl);have hmem:l[k]∈l:=List.getElem_mem hkl;obtain⟨y,hy⟩:∃y,l[k]=y:=⟨_,rfl⟩;rw[hy] at HFS hcu hmem;have hlk:=(HM.out.frm HO2.out.frm id).lookup_yes (x:=kI y.2.id) (v:=itmV y.1 y.2) keyedI Tryz.underlying108 (List.mem_map.2 ⟨y,hmem,rfl⟩) false;simp only[Bool.false_eq_true,if_false] at hlk;unfold kI itmV slV at hlk;clear hmem hy;obtain⟨v4,w4,hrun4,hrow4,hf4,hat4⟩:=HO2.out.push elemItm [.int .i64 y.2.id,.int .i64 y.2.feed,.int .i64 y.2.date,.string y.2.guid,.string y.2.title,.string y.2.link,.bool y.2.read,.bool y.2.star,.slice y.1.1 y.2.tags.length y.1.2] rfl (by intro u hu;simp at hu;rcases hu with rfl | rfl | rfl | rfl | rfl | rfl | rfl | rfl | rfl<;>rfl) (by unfold maxLen;omega) (by omega)
   have HX:Hid (RowIn 3 w w4 (.slice (some ad) n c) n ((l.map λp=>p.2.id).map encZ)∧RowK 82 9 w w4 v4 (k+1) ((l.take (k+1)).flatMap itmC)):=by
    refine⟨(HR.out.more ((fR wr).alloc _)).far hf4 (λj hj=>(HO2.out.own.lt j hj).1) λj hj hj2=>rowK_apart HR.out.toK HO2.out (by decide) hj hj2,?_⟩;rw[HFS.out];exact hrow4
   clear hrow4 hf4 hat4;go_wp2_with (at_builtin;refine wpList_append_run hrun4 rfl _ _ rfl rfl rfl ?_);go_roundw
   case rel=>exact⟨k+1,by omega,by go_num,HX.out.1,HX.out.2⟩
   case measure=>simp[intOf];omega
  ·obtain rfl:k=n:=by omega
   have HLe:Hid (l.take k=l):=List.take_of_length_le (by rw[HL.out];exact Nat.le_refl _);go_wp2;go_ret;have ho:=HO2.out;rw[HLe.out] at ho;exact⟨_,_,rfl,ho⟩
theorem elemSea:ElemK Tryz.prog 34 84 3 40:=⟨Tryz.underlying34,⟨.agg #[.int .i64 0,.string ByteArray.empty,.string ByteArray.empty],by kernel_rfl,rfl⟩,by decide⟩
theorem sortedSea_any{w:World}{m:Nat}{l:List (Sea)}(h:MapIs Tryz.prog 3 w m (l.map λp=>(kI p.id,seaV p)))(hs:(l.map λp=>p.id).Pairwise (·<·))(hn:l.length≤100000):
  Calls Tryz.prog 59 #[.map (some m)] w λe w'=>∃A c,e=.returned (.slice A l.length c)∧RowK 84 3 w w' (.slice A l.length c) l.length (l.flatMap Sea.cells):=by
 obtain⟨D,hown,hkeys,hsize⟩:=MapIs.ownI (P:=Tryz.prog) (w:=w) (m:=m) (k:=3) (L:=l.map λp=>(p.id,seaV p)) Tryz.underlying3 (by rw[List.map_map];exact h) (by simp;unfold maxLen;omega);rw[List.length_map] at hsize;obtain⟨n,hln⟩:∃n,l.length=n:=⟨_,rfl⟩;rw[hln] at hsize hn ⊢;have HL:=h_ hln;rw[List.map_map] at hkeys;have hkeys':(intKeys D).Perm (l.map λp=>p.id):=hkeys;have HK:=h_ (callsIn_wide.1 (keysSea m w));have HS:=h_ (callsIn_wide.1 (sortsSea m _ D anyR w hown (by rw[hsize];unfold maxLen;omega) (by rw[hsize];omega)));have HKeys:=h_ hkeys';have HM:=h_ h;have HSo:=h_ hs;clear h hs hown hkeys hkeys' hsize hln;go_enter Tryz.func59,Tryz.ntmps59;go_wp2_with (first | (go_at_call 113;refine HK.out.mono ?_;rintro e w1 ⟨rfl,rfl⟩) | (go_at_call 109;refine HS.out.mono ?_;rintro e w2 ⟨v,ss,rfl,hp,hown,-,hb⟩;rw[merge_sorted (hp.trans HKeys.out) HSo.out,(hp.trans HKeys.out).length_eq,List.length_map,HL.out] at hown;have HO:Hid (RowIn 3 w w2 v n ((l.map λp=>p.id).map encZ)):=⟨own_base hown λk hk=>by(have:=(hown.lt k hk).1;simp at this;omega),((fR w).alloc _).more (Frm.of_below hb)⟩;clear hp hown hb;obtain⟨A,c,rfl,-,-,-,-⟩:=HO.out.shape))
 go_loopw [3,10] (λov kv wr=>∃k:Nat,k≤n∧kv=.int .i64 k∧RowIn 3 w wr (.slice A n c) n ((l.map λp=>p.id).map encZ)∧RowK 84 3 w wr ov k ((l.take k).flatMap Sea.cells)) (λ_ kv _=>n - (intOf kv).toNat)
 case atStart=>exact⟨0,by omega,rfl,HO.out,RowK.nil_ _ _ HO.out.frm⟩
 case round=>
  obtain⟨k,hk,rfl,hids,hout⟩:=hrel;have HR:=h_ hids;have HO2:=h_ hout;obtain⟨Ao,co,rfl,-,-,-,-⟩:=hout.shape;clear hout hids
  by_cases hlt:k<n
  ·obtain⟨ad,u,rfl,-,hla,hu,hcu⟩:=HR.out.rd.at_ (k:=k) hlt
   have hkl:k<l.length:=by rw[HL.out];exact hlt
   rw[ids_at _ k (by rw[List.length_map];exact hkl),List.getElem_map] at hu;obtain rfl:=Option.some.inj hu;clear hu;have HFS:=h_ (flat_succ_ (f:=Sea.cells) l k hkl);have hmem:l[k]∈l:=List.getElem_mem hkl;obtain⟨y,hy⟩:∃y,l[k]=y:=⟨_,rfl⟩;rw[hy] at HFS hcu hmem;have hlk:=(HM.out.frm HO2.out.frm id).lookup_yes (x:=kI y.id) (v:=seaV y) keyedI Tryz.underlying109 (List.mem_map.2 ⟨y,hmem,rfl⟩) false;simp only[Bool.false_eq_true,if_false] at hlk;unfold kI seaV at hlk;clear hmem hy;obtain⟨v4,w4,hrun4,hrow4,hf4,hat4⟩:=HO2.out.push elemSea [.int .i64 y.id,.string y.name,.string y.query] rfl (by intro u hu;simp at hu;rcases hu with rfl | rfl | rfl<;>rfl) (by unfold maxLen;omega) (by omega)
   have HX:Hid (RowIn 3 w w4 (.slice (some ad) n c) n ((l.map λp=>p.id).map encZ)∧RowK 84 3 w w4 v4 (k+1) ((l.take (k+1)).flatMap Sea.cells)):=by
    refine⟨(HR.out.more ((fR wr).alloc _)).far hf4 (λj hj=>(HO2.out.own.lt j hj).1) λj hj hj2=>rowK_apart HR.out.toK HO2.out (by decide) hj hj2,?_⟩;rw[HFS.out];exact hrow4
   clear hrow4 hf4 hat4;go_wp2_with (at_builtin;refine wpList_append_run hrun4 rfl _ _ rfl rfl rfl ?_);go_roundw
   case rel=>exact⟨k+1,by omega,by go_num,HX.out.1,HX.out.2⟩
   case measure=>simp[intOf];omega
  ·obtain rfl:k=n:=by omega
   have HLe:Hid (l.take k=l):=List.take_of_length_le (by rw[HL.out];exact Nat.le_refl _);go_wp2;go_ret;have ho:=HO2.out;rw[HLe.out] at ho;exact⟨_,_,rfl,ho⟩
end Go.Proofs.YtaecjmiobllhmaaGreat
