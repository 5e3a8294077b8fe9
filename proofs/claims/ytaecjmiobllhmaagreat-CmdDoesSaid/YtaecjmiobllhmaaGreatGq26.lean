/- Words. -/
import Derived.Ground.GgzProg
import Derived.Test.YtaecjmiobllhmaaGreatGq25
import Derived.Test.YtaecjmiobllhmaaGreatGq11
set_option linter.unusedVariables false
set_option linter.unusedSimpArgs false
set_option maxRecDepth 100000
set_option maxHeartbeats 16000000
section
namespace Go.Proofs
open Go.Shelf
def Tryz.keysIFol_ren:Go.Shelf.Ren:=⟨fun|7=>110|10=>161|n=>n,fun|23=>106|26=>3|3=>79|28=>159|0=>0|27=>158|33=>150|4=>4|n=>n,fun|n=>n⟩
theorem Tryz.keysIFol:Go.Proofs.SlLaysZI.n7 Tryz.prog Tryz.keysIFol_ren:={
 mixed:=by kernel_rfl
 f7:=⟨Tryz.f110.name,by decide,Tryz.func110.trans (congrArg some (by kernel_rfl))⟩
 f10:=⟨Tryz.f161.name,by decide,Tryz.func161.trans (congrArg some (by kernel_rfl))⟩
 t0:=Tryz.underlying0
 a0:=Tryz.isAgg0
 z0:=Tryz.sizeOf0
 v0:=Tryz.zeroValue0
 t4:=Tryz.underlying4
 a4:=Tryz.isAgg4
 z4:=Tryz.sizeOf4
 v4:=Tryz.zeroValue4
 t23:=Tryz.underlying106
 a23:=Tryz.isAgg106
 z23:=Tryz.sizeOf106
 v23:=Tryz.zeroValue106
 t26:=Tryz.underlying3
 a26:=Tryz.isAgg3
 z26:=Tryz.sizeOf3
 v26:=Tryz.zeroValue3
 t27:=Tryz.underlying158
 a27:=Tryz.isAgg158
 z27:=Tryz.sizeOf158
 v27:=Tryz.zeroValue158
 t28:=Tryz.underlying159
 a28:=Tryz.isAgg159
 z28:=Tryz.sizeOf159
 v28:=Tryz.zeroValue159
 t33:=Tryz.underlying150
 a33:=Tryz.isAgg150
 z33:=Tryz.sizeOf150
 v33:=Tryz.zeroValue150}
def Tryz.keysIFee_ren:Go.Shelf.Ren:=⟨fun|7=>111|10=>162|n=>n,fun|23=>107|26=>3|3=>64|28=>159|0=>0|27=>158|33=>150|4=>4|n=>n,fun|n=>n⟩
theorem Tryz.keysIFee:Go.Proofs.SlLaysZI.n7 Tryz.prog Tryz.keysIFee_ren:={
 mixed:=by kernel_rfl
 f7:=⟨Tryz.f111.name,by decide,Tryz.func111.trans (congrArg some (by kernel_rfl))⟩
 f10:=⟨Tryz.f162.name,by decide,Tryz.func162.trans (congrArg some (by kernel_rfl))⟩
 t0:=Tryz.underlying0
 a0:=Tryz.isAgg0
 z0:=Tryz.sizeOf0
 v0:=Tryz.zeroValue0
 t4:=Tryz.underlying4
 a4:=Tryz.isAgg4
 z4:=Tryz.sizeOf4
 v4:=Tryz.zeroValue4
 t23:=Tryz.underlying107
 a23:=Tryz.isAgg107
 z23:=Tryz.sizeOf107
 v23:=Tryz.zeroValue107
 t26:=Tryz.underlying3
 a26:=Tryz.isAgg3
 z26:=Tryz.sizeOf3
 v26:=Tryz.zeroValue3
 t27:=Tryz.underlying158
 a27:=Tryz.isAgg158
 z27:=Tryz.sizeOf158
 v27:=Tryz.zeroValue158
 t28:=Tryz.underlying159
 a28:=Tryz.isAgg159
 z28:=Tryz.sizeOf159
 v28:=Tryz.zeroValue159
 t33:=Tryz.underlying150
 a33:=Tryz.isAgg150
 z33:=Tryz.sizeOf150
 v33:=Tryz.zeroValue150}
def Tryz.keysIItm_ren:Go.Shelf.Ren:=⟨fun|7=>112|10=>163|n=>n,fun|23=>108|26=>3|3=>82|28=>159|0=>0|27=>158|33=>150|4=>4|n=>n,fun|n=>n⟩
theorem Tryz.keysIItm:Go.Proofs.SlLaysZI.n7 Tryz.prog Tryz.keysIItm_ren:={
 mixed:=by kernel_rfl
 f7:=⟨Tryz.f112.name,by decide,Tryz.func112.trans (congrArg some (by kernel_rfl))⟩
 f10:=⟨Tryz.f163.name,by decide,Tryz.func163.trans (congrArg some (by kernel_rfl))⟩
 t0:=Tryz.underlying0
 a0:=Tryz.isAgg0
 z0:=Tryz.sizeOf0
 v0:=Tryz.zeroValue0
 t4:=Tryz.underlying4
 a4:=Tryz.isAgg4
 z4:=Tryz.sizeOf4
 v4:=Tryz.zeroValue4
 t23:=Tryz.underlying108
 a23:=Tryz.isAgg108
 z23:=Tryz.sizeOf108
 v23:=Tryz.zeroValue108
 t26:=Tryz.underlying3
 a26:=Tryz.isAgg3
 z26:=Tryz.sizeOf3
 v26:=Tryz.zeroValue3
 t27:=Tryz.underlying158
 a27:=Tryz.isAgg158
 z27:=Tryz.sizeOf158
 v27:=Tryz.zeroValue158
 t28:=Tryz.underlying159
 a28:=Tryz.isAgg159
 z28:=Tryz.sizeOf159
 v28:=Tryz.zeroValue159
 t33:=Tryz.underlying150
 a33:=Tryz.isAgg150
 z33:=Tryz.sizeOf150
 v33:=Tryz.zeroValue150}
def Tryz.keysISea_ren:Go.Shelf.Ren:=⟨fun|7=>113|10=>164|n=>n,fun|23=>109|26=>3|3=>84|28=>159|0=>0|27=>158|33=>150|4=>4|n=>n,fun|n=>n⟩
theorem Tryz.keysISea:Go.Proofs.SlLaysZI.n7 Tryz.prog Tryz.keysISea_ren:={
 mixed:=by kernel_rfl
 f7:=⟨Tryz.f113.name,by decide,Tryz.func113.trans (congrArg some (by kernel_rfl))⟩
 f10:=⟨Tryz.f164.name,by decide,Tryz.func164.trans (congrArg some (by kernel_rfl))⟩
 t0:=Tryz.underlying0
 a0:=Tryz.isAgg0
 z0:=Tryz.sizeOf0
 v0:=Tryz.zeroValue0
 t4:=Tryz.underlying4
 a4:=Tryz.isAgg4
 z4:=Tryz.sizeOf4
 v4:=Tryz.zeroValue4
 t23:=Tryz.underlying109
 a23:=Tryz.isAgg109
 z23:=Tryz.sizeOf109
 v23:=Tryz.zeroValue109
 t26:=Tryz.underlying3
 a26:=Tryz.isAgg3
 z26:=Tryz.sizeOf3
 v26:=Tryz.zeroValue3
 t27:=Tryz.underlying158
 a27:=Tryz.isAgg158
 z27:=Tryz.sizeOf158
 v27:=Tryz.zeroValue158
 t28:=Tryz.underlying159
 a28:=Tryz.isAgg159
 z28:=Tryz.sizeOf159
 v28:=Tryz.zeroValue159
 t33:=Tryz.underlying150
 a33:=Tryz.isAgg150
 z33:=Tryz.sizeOf150
 v33:=Tryz.zeroValue150}
def Tryz.sortedI_ren:Go.Shelf.Ren:=⟨fun|6=>109|8=>159|9=>160|11=>202|13=>204|12=>203|23=>228|24=>229|14=>219|15=>220|16=>221|17=>222|18=>223|19=>224|20=>225|21=>226|22=>227|25=>236|26=>237|27=>238|28=>239|29=>240|30=>241|31=>244|n=>n,fun|26=>3|28=>159|24=>94|0=>0|3=>3|37=>204|48=>220|50=>240|4=>4|40=>232|39=>231|45=>28|5=>5|9=>9|51=>244|55=>248|57=>250|58=>251|33=>150|n=>n,fun|n=>n⟩
theorem Tryz.sortedI:Go.Proofs.SlLaysZI.n6 Tryz.prog Tryz.sortedI_ren:={
 mixed:=by kernel_rfl
 f6:=⟨Tryz.f109.name,by decide,Tryz.func109.trans (congrArg some (by kernel_rfl))⟩
 f8:=⟨Tryz.f159.name,by decide,Tryz.func159.trans (congrArg some (by kernel_rfl))⟩
 f11:=⟨Tryz.f202.name,by decide,Tryz.func202.trans (congrArg some (by kernel_rfl))⟩
 t0:=Tryz.underlying0
 a0:=Tryz.isAgg0
 z0:=Tryz.sizeOf0
 v0:=Tryz.zeroValue0
 t24:=Tryz.underlying94
 a24:=Tryz.isAgg94
 z24:=Tryz.sizeOf94
 v24:=Tryz.zeroValue94
 t26:=Tryz.underlying3
 a26:=Tryz.isAgg3
 z26:=Tryz.sizeOf3
 v26:=Tryz.zeroValue3
 t28:=Tryz.underlying159
 a28:=Tryz.isAgg159
 z28:=Tryz.sizeOf159
 v28:=Tryz.zeroValue159
 i26:=by kernel_rfl}
def Tryz.sortI_ren:Go.Shelf.Ren:=⟨fun|5=>160|8=>204|7=>203|19=>228|20=>229|10=>219|11=>220|12=>221|13=>222|14=>223|15=>224|16=>225|17=>226|18=>227|30=>236|31=>237|32=>238|33=>239|34=>240|35=>241|40=>244|n=>n,fun|23=>94|25=>3|3=>3|32=>204|22=>94|0=>0|44=>220|46=>240|4=>4|36=>232|35=>231|41=>28|5=>5|9=>9|53=>244|57=>248|63=>250|64=>251|n=>n,fun|n=>n⟩
theorem Tryz.sortI:Go.Proofs.SlLaysM.n5 Tryz.prog Tryz.sortI_ren:={
 mixed:=by kernel_rfl
 f5:=⟨Tryz.f160.name,by decide,Tryz.func160.trans (congrArg some (by kernel_rfl))⟩
 f7:=⟨Tryz.f203.name,by decide,Tryz.func203.trans (congrArg some (by kernel_rfl))⟩
 f8:=Tryz.func204.trans (congrArg some (by kernel_rfl))
 f10:=⟨Tryz.f219.name,by decide,Tryz.func219.trans (congrArg some (by kernel_rfl))⟩
 f11:=⟨Tryz.f220.name,by decide,Tryz.func220.trans (congrArg some (by kernel_rfl))⟩
 f12:=⟨Tryz.f221.name,by decide,Tryz.func221.trans (congrArg some (by kernel_rfl))⟩
 f13:=⟨Tryz.f222.name,by decide,Tryz.func222.trans (congrArg some (by kernel_rfl))⟩
 f14:=⟨Tryz.f223.name,by decide,Tryz.func223.trans (congrArg some (by kernel_rfl))⟩
 f15:=⟨Tryz.f224.name,by decide,Tryz.func224.trans (congrArg some (by kernel_rfl))⟩
 f16:=⟨Tryz.f225.name,by decide,Tryz.func225.trans (congrArg some (by kernel_rfl))⟩
 f17:=⟨Tryz.f226.name,by decide,Tryz.func226.trans (congrArg some (by kernel_rfl))⟩
 f18:=⟨Tryz.f227.name,by decide,Tryz.func227.trans (congrArg some (by kernel_rfl))⟩
 f19:=Tryz.func228.trans (congrArg some (by kernel_rfl))
 f20:=Tryz.func229.trans (congrArg some (by kernel_rfl))
 f30:=⟨Tryz.f236.name,by decide,Tryz.func236.trans (congrArg some (by kernel_rfl))⟩
 f31:=Tryz.func237.trans (congrArg some (by kernel_rfl))
 f32:=Tryz.func238.trans (congrArg some (by kernel_rfl))
 f33:=⟨Tryz.f239.name,by decide,Tryz.func239.trans (congrArg some (by kernel_rfl))⟩
 f34:=⟨Tryz.f240.name,by decide,Tryz.func240.trans (congrArg some (by kernel_rfl))⟩
 f35:=⟨Tryz.f241.name,by decide,Tryz.func241.trans (congrArg some (by kernel_rfl))⟩
 f40:=⟨Tryz.f244.name,by decide,Tryz.func244.trans (congrArg some (by kernel_rfl))⟩
 t0:=Tryz.underlying0
 a0:=Tryz.isAgg0
 z0:=Tryz.sizeOf0
 v0:=Tryz.zeroValue0
 t3:=Tryz.underlying3
 a3:=Tryz.isAgg3
 z3:=Tryz.sizeOf3
 v3:=Tryz.zeroValue3
 t4:=Tryz.underlying4
 a4:=Tryz.isAgg4
 z4:=Tryz.sizeOf4
 v4:=Tryz.zeroValue4
 t5:=Tryz.underlying5
 a5:=Tryz.isAgg5
 z5:=Tryz.sizeOf5
 v5:=Tryz.zeroValue5
 t9:=Tryz.underlying9
 a9:=Tryz.isAgg9
 z9:=Tryz.sizeOf9
 v9:=Tryz.zeroValue9
 t22:=Tryz.underlying94
 a22:=Tryz.isAgg94
 z22:=Tryz.sizeOf94
 v22:=Tryz.zeroValue94
 t23:=Tryz.underlying94
 a23:=Tryz.isAgg94
 z23:=Tryz.sizeOf94
 v23:=Tryz.zeroValue94
 t25:=Tryz.underlying3
 a25:=Tryz.isAgg3
 z25:=Tryz.sizeOf3
 v25:=Tryz.zeroValue3
 t32:=Tryz.underlying204
 a32:=Tryz.isAgg204
 z32:=Tryz.sizeOf204
 v32:=Tryz.zeroValue204
 t35:=Tryz.underlying231
 a35:=Tryz.isAgg231
 z35:=Tryz.sizeOf231
 v35:=Tryz.zeroValue231
 t36:=Tryz.underlying232
 a36:=Tryz.isAgg232
 z36:=Tryz.sizeOf232
 v36:=Tryz.zeroValue232
 t41:=Tryz.underlying28
 a41:=Tryz.isAgg28
 z41:=Tryz.sizeOf28
 v41:=Tryz.zeroValue28
 t44:=Tryz.underlying220
 a44:=Tryz.isAgg220
 z44:=Tryz.sizeOf220
 v44:=Tryz.zeroValue220
 t46:=Tryz.underlying240
 a46:=Tryz.isAgg240
 z46:=Tryz.sizeOf240
 v46:=Tryz.zeroValue240
 t53:=Tryz.underlying244
 a53:=Tryz.isAgg244
 z53:=Tryz.sizeOf244
 v53:=Tryz.zeroValue244
 t57:=Tryz.underlying248
 a57:=Tryz.isAgg248
 z57:=Tryz.sizeOf248
 v57:=Tryz.zeroValue248
 t63:=Tryz.underlying250
 a63:=Tryz.isAgg250
 z63:=Tryz.sizeOf250
 v63:=Tryz.zeroValue250
 t64:=Tryz.underlying251
 a64:=Tryz.isAgg251
 z64:=Tryz.sizeOf251
 v64:=Tryz.zeroValue251}
end Go.Proofs
end
section
namespace Go.Proofs.YtaecjmiobllhmaaGreat
open Go.RowKit Go.Maps Go.Sort Go.Shelf Go.Proofs
theorem zr(m:Nat):AnyZI.SortsIn Tryz.prog Tryz.sortedI_ren Fence.wide m:=
 ⟨λblk off cap ss W hH hblk hsz=>callsIn_wide.2 (AnyM.slices_Sort_int Tryz.sortI blk off cap ss W hH hblk hsz),
  λp cap W=>callsIn_wide.2 (AnyM.slices_Sort_int_none Tryz.sortI p cap W)⟩
theorem Lj(b:Nat)(w:World):CallsIn Fence.wide 5 Tryz.prog 110 #[.map (some b)] w λe w'=>e=.returned (.func (.func 161) #[] #[.pointer (some ⟨w.heap.size,0,none⟩)])∧w'=(w.alloc (.cells #[.map (some b)] 106)):=
 AnyZI.keys_in Tryz.keysIFol Fence.wide 5 trivial rfl (some b) w
theorem I1{H:Type}(b nn:Nat)(D0:DataW H)(R:Value→Option (DataW H×List MemPlace))(w:World)(hown:w.ownsMap Tryz.prog 3 R b nn D0)(hmax:Maps.size D0≤maxLen)(hbytes:Maps.size D0 * 8≤140737488355328):
  CallsIn Fence.wide 5 Tryz.prog 109 #[.func (.func 161) #[] #[.pointer (some ⟨w.heap.size,0,none⟩)]] (w.alloc (.cells #[.map (some b)] 106)) λe w'=>∃(v:Value) (ss:List Int),e=.returned v∧ss.Perm (intKeys D0)∧
   w'.ownsRow (w.alloc (.cells #[.map (some b)] 106)).heap.size 3 1 v ss.length ((ss.mergeSort (λx y=>decide (x≤y))).map encZ)∧(v=.slice none 0 0↔ss=[])∧Below (w.alloc (.cells #[.map (some b)] 106)).heap.size (w.alloc (.cells #[.map (some b)] 106)) w':=by
 have hbl:=hown.lt
 have hseq:SeqGives Fence.wide 2 Tryz.prog 161 #[.pointer (some ⟨w.heap.size,0,none⟩)] encZ (λss=>ss.Perm (intKeys D0)) (Maps.size D0) (w.alloc (.cells #[.map (some b)] 106)):=
  AnyZI.keys_gives (ρ:=Tryz.keysIFol_ren) {Tryz.keysIFol with} Fence.wide _ trivial rfl (by omega) w.heap.size b nn D0 _ (by simp) (by simp) (by
   obtain⟨es,clock,hb,Ft,hs,hD⟩:=hown;exact⟨es,clock,(Below.heap_alloc _ _ b hbl).trans hb,Ft,hs,hD⟩)
 exact AnyZI.sorted_in Tryz.sortedI Fence.wide 5 trivial trivial trivial trivial rfl (by omega) (zr _) (enters_of Tryz.func160 (by kernel_rfl) rfl) 161 #[.pointer (some ⟨w.heap.size,0,none⟩)] trivial (enters_of Tryz.func161 (by kernel_rfl) rfl) _ _ hmax hbytes _ hseq
theorem Lk(b:Nat)(w:World):CallsIn Fence.wide 5 Tryz.prog 111 #[.map (some b)] w λe w'=>e=.returned (.func (.func 162) #[] #[.pointer (some ⟨w.heap.size,0,none⟩)])∧w'=(w.alloc (.cells #[.map (some b)] 107)):=
 AnyZI.keys_in Tryz.keysIFee Fence.wide 5 trivial rfl (some b) w
theorem I2{H:Type}(b nn:Nat)(D0:DataW H)(R:Value→Option (DataW H×List MemPlace))(w:World)(hown:w.ownsMap Tryz.prog 3 R b nn D0)(hmax:Maps.size D0≤maxLen)(hbytes:Maps.size D0 * 8≤140737488355328):
  CallsIn Fence.wide 5 Tryz.prog 109 #[.func (.func 162) #[] #[.pointer (some ⟨w.heap.size,0,none⟩)]] (w.alloc (.cells #[.map (some b)] 107)) λe w'=>∃(v:Value) (ss:List Int),e=.returned v∧ss.Perm (intKeys D0)∧
   w'.ownsRow (w.alloc (.cells #[.map (some b)] 107)).heap.size 3 1 v ss.length ((ss.mergeSort (λx y=>decide (x≤y))).map encZ)∧(v=.slice none 0 0↔ss=[])∧Below (w.alloc (.cells #[.map (some b)] 107)).heap.size (w.alloc (.cells #[.map (some b)] 107)) w':=by
 have hbl:=hown.lt
 have hseq:SeqGives Fence.wide 2 Tryz.prog 162 #[.pointer (some ⟨w.heap.size,0,none⟩)] encZ (λss=>ss.Perm (intKeys D0)) (Maps.size D0) (w.alloc (.cells #[.map (some b)] 107)):=
  AnyZI.keys_gives (ρ:=Tryz.keysIFee_ren) {Tryz.keysIFee with} Fence.wide _ trivial rfl (by omega) w.heap.size b nn D0 _ (by simp) (by simp) (by
   obtain⟨es,clock,hb,Ft,hs,hD⟩:=hown;exact⟨es,clock,(Below.heap_alloc _ _ b hbl).trans hb,Ft,hs,hD⟩)
 exact AnyZI.sorted_in Tryz.sortedI Fence.wide 5 trivial trivial trivial trivial rfl (by omega) (zr _) (enters_of Tryz.func160 (by kernel_rfl) rfl) 162 #[.pointer (some ⟨w.heap.size,0,none⟩)] trivial (enters_of Tryz.func162 (by kernel_rfl) rfl) _ _ hmax hbytes _ hseq
theorem Ll(b:Nat)(w:World):CallsIn Fence.wide 5 Tryz.prog 112 #[.map (some b)] w λe w'=>e=.returned (.func (.func 163) #[] #[.pointer (some ⟨w.heap.size,0,none⟩)])∧w'=(w.alloc (.cells #[.map (some b)] 108)):=
 AnyZI.keys_in Tryz.keysIItm Fence.wide 5 trivial rfl (some b) w
theorem I3{H:Type}(b nn:Nat)(D0:DataW H)(R:Value→Option (DataW H×List MemPlace))(w:World)(hown:w.ownsMap Tryz.prog 3 R b nn D0)(hmax:Maps.size D0≤maxLen)(hbytes:Maps.size D0 * 8≤140737488355328):
  CallsIn Fence.wide 5 Tryz.prog 109 #[.func (.func 163) #[] #[.pointer (some ⟨w.heap.size,0,none⟩)]] (w.alloc (.cells #[.map (some b)] 108)) λe w'=>∃(v:Value) (ss:List Int),e=.returned v∧ss.Perm (intKeys D0)∧
   w'.ownsRow (w.alloc (.cells #[.map (some b)] 108)).heap.size 3 1 v ss.length ((ss.mergeSort (λx y=>decide (x≤y))).map encZ)∧(v=.slice none 0 0↔ss=[])∧Below (w.alloc (.cells #[.map (some b)] 108)).heap.size (w.alloc (.cells #[.map (some b)] 108)) w':=by
 have hbl:=hown.lt
 have hseq:SeqGives Fence.wide 2 Tryz.prog 163 #[.pointer (some ⟨w.heap.size,0,none⟩)] encZ (λss=>ss.Perm (intKeys D0)) (Maps.size D0) (w.alloc (.cells #[.map (some b)] 108)):=
  AnyZI.keys_gives (ρ:=Tryz.keysIItm_ren) {Tryz.keysIItm with} Fence.wide _ trivial rfl (by omega) w.heap.size b nn D0 _ (by simp) (by simp) (by
   obtain⟨es,clock,hb,Ft,hs,hD⟩:=hown;exact⟨es,clock,(Below.heap_alloc _ _ b hbl).trans hb,Ft,hs,hD⟩)
 exact AnyZI.sorted_in Tryz.sortedI Fence.wide 5 trivial trivial trivial trivial rfl (by omega) (zr _) (enters_of Tryz.func160 (by kernel_rfl) rfl) 163 #[.pointer (some ⟨w.heap.size,0,none⟩)] trivial (enters_of Tryz.func163 (by kernel_rfl) rfl) _ _ hmax hbytes _ hseq
theorem Lm(b:Nat)(w:World):CallsIn Fence.wide 5 Tryz.prog 113 #[.map (some b)] w λe w'=>e=.returned (.func (.func 164) #[] #[.pointer (some ⟨w.heap.size,0,none⟩)])∧w'=(w.alloc (.cells #[.map (some b)] 109)):=
 AnyZI.keys_in Tryz.keysISea Fence.wide 5 trivial rfl (some b) w
theorem I4{H:Type}(b nn:Nat)(D0:DataW H)(R:Value→Option (DataW H×List MemPlace))(w:World)(hown:w.ownsMap Tryz.prog 3 R b nn D0)(hmax:Maps.size D0≤maxLen)(hbytes:Maps.size D0 * 8≤140737488355328):
  CallsIn Fence.wide 5 Tryz.prog 109 #[.func (.func 164) #[] #[.pointer (some ⟨w.heap.size,0,none⟩)]] (w.alloc (.cells #[.map (some b)] 109)) λe w'=>∃(v:Value) (ss:List Int),e=.returned v∧ss.Perm (intKeys D0)∧
   w'.ownsRow (w.alloc (.cells #[.map (some b)] 109)).heap.size 3 1 v ss.length ((ss.mergeSort (λx y=>decide (x≤y))).map encZ)∧(v=.slice none 0 0↔ss=[])∧Below (w.alloc (.cells #[.map (some b)] 109)).heap.size (w.alloc (.cells #[.map (some b)] 109)) w':=by
 have hbl:=hown.lt
 have hseq:SeqGives Fence.wide 2 Tryz.prog 164 #[.pointer (some ⟨w.heap.size,0,none⟩)] encZ (λss=>ss.Perm (intKeys D0)) (Maps.size D0) (w.alloc (.cells #[.map (some b)] 109)):=
  AnyZI.keys_gives (ρ:=Tryz.keysISea_ren) {Tryz.keysISea with} Fence.wide _ trivial rfl (by omega) w.heap.size b nn D0 _ (by simp) (by simp) (by
   obtain⟨es,clock,hb,Ft,hs,hD⟩:=hown;exact⟨es,clock,(Below.heap_alloc _ _ b hbl).trans hb,Ft,hs,hD⟩)
 exact AnyZI.sorted_in Tryz.sortedI Fence.wide 5 trivial trivial trivial trivial rfl (by omega) (zr _) (enters_of Tryz.func160 (by kernel_rfl) rfl) 164 #[.pointer (some ⟨w.heap.size,0,none⟩)] trivial (enters_of Tryz.func164 (by kernel_rfl) rfl) _ _ hmax hbytes _ hseq
end Go.Proofs.YtaecjmiobllhmaaGreat
end
section
namespace Go.Proofs.YtaecjmiobllhmaaGreat
open Go.RowKit Go.Lib Go.Maps Go.Sort Go.Proofs
theorem zt(l:List Int)(k:Nat)(h:k<l.length):(l.map encZ)[k]? =some (.int .i64 l[k]):=by
 rw[List.getElem?_map,List.getElem?_eq_getElem h];rfl
theorem sW:nc Tryz.prog 31 79 3 32:=⟨Tryz.underlying31,⟨.agg #[.int .i64 0,.int .i64 0,.string ByteArray.empty],by kernel_rfl,rfl⟩,by decide⟩
theorem xA{w:World}{m:Nat}{l:List (bg)}(h:aV Tryz.prog 3 w m (l.map λp=>(kI p.id,oh p)))(hs:(l.map λp=>p.id).Pairwise (·<·))(hn:l.length≤100000):
  Calls Tryz.prog 56 #[.map (some m)] w λe w'=>∃A c,e=.returned (.slice A l.length c)∧aO 79 3 w w' (.slice A l.length c) l.length (l.flatMap bg.cells):=by
 obtain⟨D,hown,nQ,hsize⟩:=aV.ownI (P:=Tryz.prog) (w:=w) (m:=m) (k:=3) (L:=l.map λp=>(p.id,oh p)) Tryz.underlying3 (by rw[List.map_map];exact h) (by simp;unfold maxLen;omega);rw[List.length_map] at hsize;obtain⟨n,lG⟩:∃n,l.length=n:=⟨_,rfl⟩;rw[lG] at hsize hn ⊢;have HL:=h_ lG;rw[List.map_map] at nQ;have nR:(intKeys D).Perm (l.map λp=>p.id):=nQ;have HK:=h_ (callsIn_wide.1 (Lj m w));have HS:=h_ (callsIn_wide.1 (I1 m _ D BA w hown (by rw[hsize];unfold maxLen;omega) (by rw[hsize];omega)));have qP:=h_ nR;have HM:=h_ h;have ND:=h_ hs;clear h hs hown nQ nR hsize lG;go_enter Tryz.func56,Tryz.ntmps56;go_wp2_with (first|(go_at_call 110;refine HK.out.mono ?_;rintro e w1 ⟨rfl,rfl⟩)|(go_at_call 109;refine HS.out.mono ?_;rintro e w2 ⟨v,ss,rfl,hp,hown,-,hb⟩;rw[np (hp.trans qP.out) ND.out,(hp.trans qP.out).length_eq,List.length_map,HL.out] at hown;have HO:Hid (aK 3 w w2 v n ((l.map λp=>p.id).map encZ)):=⟨pH hown λk hk=>by(have:=(hown.lt k hk).1;simp at this;omega),((fR w).alloc _).more (aa.of_below hb)⟩;clear hp hown hb;obtain⟨A,c,rfl,-,-,-,-⟩:=HO.out.shape))
 go_loopw [3,10] (λov kv wr=>∃k:Nat,k≤n∧kv=.int .i64 k∧aK 3 w wr (.slice A n c) n ((l.map λp=>p.id).map encZ)∧aO 79 3 w wr ov k ((l.take k).flatMap bg.cells)) (λ_ kv _=>n-(intOf kv).toNat)
 case atStart=>exact⟨0,by omega,rfl,HO.out,aO.nil_ _ _ HO.out.frm⟩
 case round=>
  obtain⟨k,hk,rfl,wB,hout⟩:=hrel;have HR:=h_ wB;have wC:=h_ hout;obtain⟨Ao,co,rfl,-,-,-,-⟩:=hout.shape;clear hout wB
  by_cases hlt:k<n
  ·obtain⟨ad,u,rfl,-,Mn,hu,yK⟩:=HR.out.rd.at_ (k:=k) hlt
   have dX:k<l.length:=by rw[HL.out];exact hlt
   rw[zt _ k (by rw[List.length_map];exact dX),List.getElem_map] at hu;obtain rfl:=Option.some.inj hu;clear hu;have Fy:=h_ (qd (f:=bg.cells) l k dX);have hmem:l[k]∈l:=List.getElem_mem dX;obtain⟨y,hy⟩:∃y,l[k]=y:=⟨_,rfl⟩;rw[hy] at Fy yK hmem;have hlk:=(HM.out.frm wC.out.frm id).lookup_yes (x:=kI y.id) (v:=oh y) d7 Tryz.underlying106 (List.mem_map.2 ⟨y,hmem,rfl⟩) false;simp only[Bool.false_eq_true,if_false] at hlk;unfold kI oh at hlk;clear hmem hy;obtain⟨v4,w4,mg,hrow4,pN,DF⟩:=wC.out.push sW [.int .i64 y.id,.int .i64 y.inn,.string y.name] rfl (by intro u hu;simp at hu;rcases hu with rfl|rfl|rfl<;>rfl) (by unfold maxLen;omega) (by omega)
   have HX:Hid (aK 3 w w4 (.slice (some ad) n c) n ((l.map λp=>p.id).map encZ)∧aO 79 3 w w4 v4 (k+1) ((l.take (k+1)).flatMap bg.cells)):=by
    refine⟨(HR.out.more ((fR wr).alloc _)).far pN (λj hj=>(wC.out.own.lt j hj).1) λj hj DG=>qc HR.out.toK wC.out (by decide) hj DG,?_⟩;rw[Fy.out];exact hrow4
   clear hrow4 pN DF;go_wp2_with (at_builtin;refine aq mg rfl _ _ rfl rfl rfl ?_);go_roundw
   case rel=>exact⟨k+1,by omega,by go_num,HX.out.1,HX.out.2⟩
   case measure=>simp[intOf];omega
  ·obtain rfl:k=n:=by omega
   have NE:Hid (l.take k=l):=List.take_of_length_le (by rw[HL.out];exact Nat.le_refl _);go_wp2;go_ret;have ho:=wC.out;rw[NE.out] at ho;exact⟨_,_,rfl,ho⟩
theorem ql:nc Tryz.prog 32 64 4 48:=⟨Tryz.underlying32,⟨.agg #[.int .i64 0,.int .i64 0,.string ByteArray.empty,.string ByteArray.empty],by kernel_rfl,rfl⟩,by decide⟩
theorem xB{w:World}{m:Nat}{l:List (aP)}(h:aV Tryz.prog 3 w m (l.map λp=>(kI p.id,lp p)))(hs:(l.map λp=>p.id).Pairwise (·<·))(hn:l.length≤100000):
  Calls Tryz.prog 57 #[.map (some m)] w λe w'=>∃A c,e=.returned (.slice A l.length c)∧aO 64 4 w w' (.slice A l.length c) l.length (l.flatMap aP.cells):=by
 obtain⟨D,hown,nQ,hsize⟩:=aV.ownI (P:=Tryz.prog) (w:=w) (m:=m) (k:=3) (L:=l.map λp=>(p.id,lp p)) Tryz.underlying3 (by rw[List.map_map];exact h) (by simp;unfold maxLen;omega);rw[List.length_map] at hsize;obtain⟨n,lG⟩:∃n,l.length=n:=⟨_,rfl⟩;rw[lG] at hsize hn ⊢;have HL:=h_ lG;rw[List.map_map] at nQ;have nR:(intKeys D).Perm (l.map λp=>p.id):=nQ;have HK:=h_ (callsIn_wide.1 (Lk m w));have HS:=h_ (callsIn_wide.1 (I2 m _ D BA w hown (by rw[hsize];unfold maxLen;omega) (by rw[hsize];omega)));have qP:=h_ nR;have HM:=h_ h;have ND:=h_ hs;clear h hs hown nQ nR hsize lG;go_enter Tryz.func57,Tryz.ntmps57;go_wp2_with (first|(go_at_call 111;refine HK.out.mono ?_;rintro e w1 ⟨rfl,rfl⟩)|(go_at_call 109;refine HS.out.mono ?_;rintro e w2 ⟨v,ss,rfl,hp,hown,-,hb⟩;rw[np (hp.trans qP.out) ND.out,(hp.trans qP.out).length_eq,List.length_map,HL.out] at hown;have HO:Hid (aK 3 w w2 v n ((l.map λp=>p.id).map encZ)):=⟨pH hown λk hk=>by(have:=(hown.lt k hk).1;simp at this;omega),((fR w).alloc _).more (aa.of_below hb)⟩;clear hp hown hb;obtain⟨A,c,rfl,-,-,-,-⟩:=HO.out.shape))
 go_loopw [3,10] (λov kv wr=>∃k:Nat,k≤n∧kv=.int .i64 k∧aK 3 w wr (.slice A n c) n ((l.map λp=>p.id).map encZ)∧aO 64 4 w wr ov k ((l.take k).flatMap aP.cells)) (λ_ kv _=>n-(intOf kv).toNat)
 case atStart=>exact⟨0,by omega,rfl,HO.out,aO.nil_ _ _ HO.out.frm⟩
 case round=>
  obtain⟨k,hk,rfl,wB,hout⟩:=hrel;have HR:=h_ wB;have wC:=h_ hout;obtain⟨Ao,co,rfl,-,-,-,-⟩:=hout.shape;clear hout wB
  by_cases hlt:k<n
  ·obtain⟨ad,u,rfl,-,Mn,hu,yK⟩:=HR.out.rd.at_ (k:=k) hlt
   have dX:k<l.length:=by rw[HL.out];exact hlt
   rw[zt _ k (by rw[List.length_map];exact dX),List.getElem_map] at hu;obtain rfl:=Option.some.inj hu;clear hu;have Fy:=h_ (qd (f:=aP.cells) l k dX);have hmem:l[k]∈l:=List.getElem_mem dX;obtain⟨y,hy⟩:∃y,l[k]=y:=⟨_,rfl⟩;rw[hy] at Fy yK hmem;have hlk:=(HM.out.frm wC.out.frm id).lookup_yes (x:=kI y.id) (v:=lp y) d7 Tryz.underlying107 (List.mem_map.2 ⟨y,hmem,rfl⟩) false;simp only[Bool.false_eq_true,if_false] at hlk;unfold kI lp at hlk;clear hmem hy;obtain⟨v4,w4,mg,hrow4,pN,DF⟩:=wC.out.push ql [.int .i64 y.id,.int .i64 y.inn,.string y.url,.string y.title] rfl (by intro u hu;simp at hu;rcases hu with rfl|rfl|rfl|rfl<;>rfl) (by unfold maxLen;omega) (by omega)
   have HX:Hid (aK 3 w w4 (.slice (some ad) n c) n ((l.map λp=>p.id).map encZ)∧aO 64 4 w w4 v4 (k+1) ((l.take (k+1)).flatMap aP.cells)):=by
    refine⟨(HR.out.more ((fR wr).alloc _)).far pN (λj hj=>(wC.out.own.lt j hj).1) λj hj DG=>qc HR.out.toK wC.out (by decide) hj DG,?_⟩;rw[Fy.out];exact hrow4
   clear hrow4 pN DF;go_wp2_with (at_builtin;refine aq mg rfl _ _ rfl rfl rfl ?_);go_roundw
   case rel=>exact⟨k+1,by omega,by go_num,HX.out.1,HX.out.2⟩
   case measure=>simp[intOf];omega
  ·obtain rfl:k=n:=by omega
   have NE:Hid (l.take k=l):=List.take_of_length_le (by rw[HL.out];exact Nat.le_refl _);go_wp2;go_ret;have ho:=wC.out;rw[NE.out] at ho;exact⟨_,_,rfl,ho⟩
theorem pj:nc Tryz.prog 33 82 9 104:=⟨Tryz.underlying33,⟨.agg #[.int .i64 0,.int .i64 0,.int .i64 0,.string ByteArray.empty,.string ByteArray.empty,.string ByteArray.empty,.bool false,.bool false,.slice none 0 0],by kernel_rfl,rfl⟩,by decide⟩
theorem xC{w:World}{m:Nat}{l:List (Sl×aJ)}(h:aV Tryz.prog 3 w m (l.map λp=>(kI p.2.id,jm p.1 p.2)))(hs:(l.map λp=>p.2.id).Pairwise (·<·))(hn:l.length≤100000):
  Calls Tryz.prog 58 #[.map (some m)] w λe w'=>∃A c,e=.returned (.slice A l.length c)∧aO 82 9 w w' (.slice A l.length c) l.length (l.flatMap iY):=by
 obtain⟨D,hown,nQ,hsize⟩:=aV.ownI (P:=Tryz.prog) (w:=w) (m:=m) (k:=3) (L:=l.map λp=>(p.2.id,jm p.1 p.2)) Tryz.underlying3 (by rw[List.map_map];exact h) (by simp;unfold maxLen;omega);rw[List.length_map] at hsize;obtain⟨n,lG⟩:∃n,l.length=n:=⟨_,rfl⟩;rw[lG] at hsize hn ⊢;have HL:=h_ lG;rw[List.map_map] at nQ;have nR:(intKeys D).Perm (l.map λp=>p.2.id):=nQ;have HK:=h_ (callsIn_wide.1 (Ll m w));have HS:=h_ (callsIn_wide.1 (I3 m _ D BA w hown (by rw[hsize];unfold maxLen;omega) (by rw[hsize];omega)));have qP:=h_ nR;have HM:=h_ h;have ND:=h_ hs;clear h hs hown nQ nR hsize lG;go_enter Tryz.func58,Tryz.ntmps58;go_wp2_with (first|(go_at_call 112;refine HK.out.mono ?_;rintro e w1 ⟨rfl,rfl⟩)|(go_at_call 109;refine HS.out.mono ?_;rintro e w2 ⟨v,ss,rfl,hp,hown,-,hb⟩;rw[np (hp.trans qP.out) ND.out,(hp.trans qP.out).length_eq,List.length_map,HL.out] at hown;have HO:Hid (aK 3 w w2 v n ((l.map λp=>p.2.id).map encZ)):=⟨pH hown λk hk=>by(have:=(hown.lt k hk).1;simp at this;omega),((fR w).alloc _).more (aa.of_below hb)⟩;clear hp hown hb;obtain⟨A,c,rfl,-,-,-,-⟩:=HO.out.shape))
 go_loopw [3,10] (λov kv wr=>∃k:Nat,k≤n∧kv=.int .i64 k∧aK 3 w wr (.slice A n c) n ((l.map λp=>p.2.id).map encZ)∧aO 82 9 w wr ov k ((l.take k).flatMap iY)) (λ_ kv _=>n-(intOf kv).toNat)
 case atStart=>exact⟨0,by omega,rfl,HO.out,aO.nil_ _ _ HO.out.frm⟩
 case round=>
  obtain⟨k,hk,rfl,wB,hout⟩:=hrel;have HR:=h_ wB;have wC:=h_ hout;obtain⟨Ao,co,rfl,-,-,-,-⟩:=hout.shape;clear hout wB
  by_cases hlt:k<n
  ·obtain⟨ad,u,rfl,-,Mn,hu,yK⟩:=HR.out.rd.at_ (k:=k) hlt
   have dX:k<l.length:=by rw[HL.out];exact hlt
   rw[zt _ k (by rw[List.length_map];exact dX),List.getElem_map] at hu;obtain rfl:=Option.some.inj hu;clear hu;have Fy:=h_ (qd (f:=iY) l k dX);have hmem:l[k]∈l:=List.getElem_mem dX;obtain⟨y,hy⟩:∃y,l[k]=y:=⟨_,rfl⟩;rw[hy] at Fy yK hmem;have hlk:=(HM.out.frm wC.out.frm id).lookup_yes (x:=kI y.2.id) (v:=jm y.1 y.2) d7 Tryz.underlying108 (List.mem_map.2 ⟨y,hmem,rfl⟩) false;simp only[Bool.false_eq_true,if_false] at hlk;unfold kI jm Px at hlk;clear hmem hy;obtain⟨v4,w4,mg,hrow4,pN,DF⟩:=wC.out.push pj [.int .i64 y.2.id,.int .i64 y.2.feed,.int .i64 y.2.date,.string y.2.guid,.string y.2.title,.string y.2.link,.bool y.2.read,.bool y.2.star,.slice y.1.1 y.2.tags.length y.1.2] rfl (by intro u hu;simp at hu;rcases hu with rfl|rfl|rfl|rfl|rfl|rfl|rfl|rfl|rfl<;>rfl) (by unfold maxLen;omega) (by omega)
   have HX:Hid (aK 3 w w4 (.slice (some ad) n c) n ((l.map λp=>p.2.id).map encZ)∧aO 82 9 w w4 v4 (k+1) ((l.take (k+1)).flatMap iY)):=by
    refine⟨(HR.out.more ((fR wr).alloc _)).far pN (λj hj=>(wC.out.own.lt j hj).1) λj hj DG=>qc HR.out.toK wC.out (by decide) hj DG,?_⟩;rw[Fy.out];exact hrow4
   clear hrow4 pN DF;go_wp2_with (at_builtin;refine aq mg rfl _ _ rfl rfl rfl ?_);go_roundw
   case rel=>exact⟨k+1,by omega,by go_num,HX.out.1,HX.out.2⟩
   case measure=>simp[intOf];omega
  ·obtain rfl:k=n:=by omega
   have NE:Hid (l.take k=l):=List.take_of_length_le (by rw[HL.out];exact Nat.le_refl _);go_wp2;go_ret;have ho:=wC.out;rw[NE.out] at ho;exact⟨_,_,rfl,ho⟩
theorem sX:nc Tryz.prog 34 84 3 40:=⟨Tryz.underlying34,⟨.agg #[.int .i64 0,.string ByteArray.empty,.string ByteArray.empty],by kernel_rfl,rfl⟩,by decide⟩
theorem xD{w:World}{m:Nat}{l:List (dE)}(h:aV Tryz.prog 3 w m (l.map λp=>(kI p.id,om p)))(hs:(l.map λp=>p.id).Pairwise (·<·))(hn:l.length≤100000):
  Calls Tryz.prog 59 #[.map (some m)] w λe w'=>∃A c,e=.returned (.slice A l.length c)∧aO 84 3 w w' (.slice A l.length c) l.length (l.flatMap dE.cells):=by
 obtain⟨D,hown,nQ,hsize⟩:=aV.ownI (P:=Tryz.prog) (w:=w) (m:=m) (k:=3) (L:=l.map λp=>(p.id,om p)) Tryz.underlying3 (by rw[List.map_map];exact h) (by simp;unfold maxLen;omega);rw[List.length_map] at hsize;obtain⟨n,lG⟩:∃n,l.length=n:=⟨_,rfl⟩;rw[lG] at hsize hn ⊢;have HL:=h_ lG;rw[List.map_map] at nQ;have nR:(intKeys D).Perm (l.map λp=>p.id):=nQ;have HK:=h_ (callsIn_wide.1 (Lm m w));have HS:=h_ (callsIn_wide.1 (I4 m _ D BA w hown (by rw[hsize];unfold maxLen;omega) (by rw[hsize];omega)));have qP:=h_ nR;have HM:=h_ h;have ND:=h_ hs;clear h hs hown nQ nR hsize lG;go_enter Tryz.func59,Tryz.ntmps59;go_wp2_with (first|(go_at_call 113;refine HK.out.mono ?_;rintro e w1 ⟨rfl,rfl⟩)|(go_at_call 109;refine HS.out.mono ?_;rintro e w2 ⟨v,ss,rfl,hp,hown,-,hb⟩;rw[np (hp.trans qP.out) ND.out,(hp.trans qP.out).length_eq,List.length_map,HL.out] at hown;have HO:Hid (aK 3 w w2 v n ((l.map λp=>p.id).map encZ)):=⟨pH hown λk hk=>by(have:=(hown.lt k hk).1;simp at this;omega),((fR w).alloc _).more (aa.of_below hb)⟩;clear hp hown hb;obtain⟨A,c,rfl,-,-,-,-⟩:=HO.out.shape))
 go_loopw [3,10] (λov kv wr=>∃k:Nat,k≤n∧kv=.int .i64 k∧aK 3 w wr (.slice A n c) n ((l.map λp=>p.id).map encZ)∧aO 84 3 w wr ov k ((l.take k).flatMap dE.cells)) (λ_ kv _=>n-(intOf kv).toNat)
 case atStart=>exact⟨0,by omega,rfl,HO.out,aO.nil_ _ _ HO.out.frm⟩
 case round=>
  obtain⟨k,hk,rfl,wB,hout⟩:=hrel;have HR:=h_ wB;have wC:=h_ hout;obtain⟨Ao,co,rfl,-,-,-,-⟩:=hout.shape;clear hout wB
  by_cases hlt:k<n
  ·obtain⟨ad,u,rfl,-,Mn,hu,yK⟩:=HR.out.rd.at_ (k:=k) hlt
   have dX:k<l.length:=by rw[HL.out];exact hlt
   rw[zt _ k (by rw[List.length_map];exact dX),List.getElem_map] at hu;obtain rfl:=Option.some.inj hu;clear hu;have Fy:=h_ (qd (f:=dE.cells) l k dX);have hmem:l[k]∈l:=List.getElem_mem dX;obtain⟨y,hy⟩:∃y,l[k]=y:=⟨_,rfl⟩;rw[hy] at Fy yK hmem;have hlk:=(HM.out.frm wC.out.frm id).lookup_yes (x:=kI y.id) (v:=om y) d7 Tryz.underlying109 (List.mem_map.2 ⟨y,hmem,rfl⟩) false;simp only[Bool.false_eq_true,if_false] at hlk;unfold kI om at hlk;clear hmem hy;obtain⟨v4,w4,mg,hrow4,pN,DF⟩:=wC.out.push sX [.int .i64 y.id,.string y.name,.string y.query] rfl (by intro u hu;simp at hu;rcases hu with rfl|rfl|rfl<;>rfl) (by unfold maxLen;omega) (by omega)
   have HX:Hid (aK 3 w w4 (.slice (some ad) n c) n ((l.map λp=>p.id).map encZ)∧aO 84 3 w w4 v4 (k+1) ((l.take (k+1)).flatMap dE.cells)):=by
    refine⟨(HR.out.more ((fR wr).alloc _)).far pN (λj hj=>(wC.out.own.lt j hj).1) λj hj DG=>qc HR.out.toK wC.out (by decide) hj DG,?_⟩;rw[Fy.out];exact hrow4
   clear hrow4 pN DF;go_wp2_with (at_builtin;refine aq mg rfl _ _ rfl rfl rfl ?_);go_roundw
   case rel=>exact⟨k+1,by omega,by go_num,HX.out.1,HX.out.2⟩
   case measure=>simp[intOf];omega
  ·obtain rfl:k=n:=by omega
   have NE:Hid (l.take k=l):=List.take_of_length_le (by rw[HL.out];exact Nat.le_refl _);go_wp2;go_ret;have ho:=wC.out;rw[NE.out] at ho;exact⟨_,_,rfl,ho⟩
end Go.Proofs.YtaecjmiobllhmaaGreat
end
