/-
  Contracts: Tell, whole.
-/
import Derived.Test.YtlafbakoefcifaaGreatGa31
import Derived.Test.YtlafbakoefcifaaGreatGa13
set_option linter.unusedVariables false
set_option linter.unusedSimpArgs false
set_option maxRecDepth 100000
set_option maxHeartbeats 16000000
namespace Go.Proofs.YtlafbakoefcifaaGreat
open Go.RowKit Go.Lib
section
structure Tell4 (w wc:World) (br:Nat) (fo fe it se:Sl) (x:St) (ts:List (Sl×Itm)):Prop where
 res:Blk wc br 30 #[.int .i64 0,.slice none 0 0,.slice none 0 0,.slice none 0 0,.slice none 0 0,.int .i64 0,.int .i64 0,.int .i64 0,.int .i64 0]
 fol:RowK 49 3 w wc (.slice fo.1 x.fols.length fo.2) x.fols.length (x.fols.flatMap Fol.cells)
 fee:RowK 51 4 w wc (.slice fe.1 x.fees.length fe.2) x.fees.length (x.fees.flatMap Fee.cells)
 itm:RowK 54 9 w wc (.slice it.1 x.itms.length it.2) x.itms.length (ts.flatMap itmC)
 sea:RowK 56 3 w wc (.slice se.1 x.seas.length se.2) x.seas.length (x.seas.flatMap Sea.cells)
 same:ts.map (·.2)=x.itms
 hbr:w.heap.size≤br
 old:∀ p ∈ ts,TagsIn wc p.1 p.2.tags
section
variable {w w4:World} {br b3:Nat} {fo fe it se:Sl} {x:St} {ts:List (Sl×Itm)}
theorem Tell4.new (h:Tell4 w w4 br fo fe it se x ts):TellAt w (w4.alloc (.cells #[.int .i64 x.clock,.slice fo.1 x.fols.length fo.2,.slice fe.1 x.fees.length fe.2,.slice it.1 x.itms.length it.2,.slice se.1 x.seas.length se.2,.int .i64 x.tFol,.int .i64 x.tFee,.int .i64 x.tItm,.int .i64 x.tSea] 30)) br w4.heap.size (w4.alloc (.cells #[.int .i64 x.clock,.slice fo.1 x.fols.length fo.2,.slice fe.1 x.fees.length fe.2,.slice it.1 x.itms.length it.2,.slice se.1 x.seas.length se.2,.int .i64 x.tFol,.int .i64 x.tFee,.int .i64 x.tItm,.int .i64 x.tSea] 30)).heap.size fo fe it se x 0 ts:=by
 have hf:Frm Nix w4 (w4.alloc (.cells #[.int .i64 x.clock,.slice fo.1 x.fols.length fo.2,.slice fe.1 x.fees.length fe.2,.slice it.1 x.itms.length it.2,.slice se.1 x.seas.length se.2,.int .i64 x.tFol,.int .i64 x.tFee,.int .i64 x.tItm,.int .i64 x.tSea] 30)):=(Frm.refl Nix w4).alloc _
 have hs:(w4.alloc (.cells #[.int .i64 x.clock,.slice fo.1 x.fols.length fo.2,.slice fe.1 x.fees.length fe.2,.slice it.1 x.itms.length it.2,.slice se.1 x.seas.length se.2,.int .i64 x.tFol,.int .i64 x.tFee,.int .i64 x.tItm,.int .i64 x.tSea] 30)).heap.size=w4.heap.size+1:=by simp
 have hbl:=h.res.lt
 exact⟨h.res.frm hf id,Blk.new _ _ _,h.fol.more hf,h.fee.more hf,h.itm.more hf,h.sea.more hf,h.same,h.hbr,h.itm.frm.size,⟨by omega,by omega,fun j hj=>by have:=(h.itm.own.lt j hj).2;omega⟩,fun i hi _=>(h.old _ (List.getElem_mem hi)).frm hf fun _ _=>id,fun i hi hk=>absurd hk (by omega)⟩
theorem Tell4.put (h:Tell4 w w4 br fo fe it se x ts) (hb:Blk w4 b3 30 #[.int .i64 0,.slice none 0 0,.slice none 0 0,.slice none 0 0,.slice none 0 0,.int .i64 0,.int .i64 0,.int .i64 0,.int .i64 0]) (hne:br≠b3) (hb3:w.heap.size≤b3):TellAt w (((((((((w4.setCell ⟨b3,0,none⟩ (.int .i64 x.clock)).setCell ⟨b3,1,none⟩ (.slice fo.1 x.fols.length fo.2)).setCell ⟨b3,2,none⟩ (.slice fe.1 x.fees.length fe.2)).setCell ⟨b3,3,none⟩ (.slice it.1 x.itms.length it.2)).setCell ⟨b3,4,none⟩ (.slice se.1 x.seas.length se.2)).setCell ⟨b3,5,none⟩ (.int .i64 x.tFol)).setCell ⟨b3,6,none⟩ (.int .i64 x.tFee)).setCell ⟨b3,7,none⟩ (.int .i64 x.tItm)).setCell ⟨b3,8,none⟩ (.int .i64 x.tSea)) br b3 (((((((((w4.setCell ⟨b3,0,none⟩ (.int .i64 x.clock)).setCell ⟨b3,1,none⟩ (.slice fo.1 x.fols.length fo.2)).setCell ⟨b3,2,none⟩ (.slice fe.1 x.fees.length fe.2)).setCell ⟨b3,3,none⟩ (.slice it.1 x.itms.length it.2)).setCell ⟨b3,4,none⟩ (.slice se.1 x.seas.length se.2)).setCell ⟨b3,5,none⟩ (.int .i64 x.tFol)).setCell ⟨b3,6,none⟩ (.int .i64 x.tFee)).setCell ⟨b3,7,none⟩ (.int .i64 x.tItm)).setCell ⟨b3,8,none⟩ (.int .i64 x.tSea)).heap.size fo fe it se x 0 ts:=by
 have hf:=frm9 w4 b3 (.int .i64 x.clock) (.slice fo.1 x.fols.length fo.2) (.slice fe.1 x.fees.length fe.2) (.slice it.1 x.itms.length it.2) (.slice se.1 x.seas.length se.2) (.int .i64 x.tFol) (.int .i64 x.tFee) (.int .i64 x.tItm) (.int .i64 x.tSea)
 have hs:=hf.size
 have hbl:=h.res.lt
 have hbl3:=hb.lt
 have f1:∀ k,k=b3→w.heap.size≤k:=fun k hk=>by omega
 exact⟨h.res.frm hf hne,put9 hb (.int .i64 x.clock) (.slice fo.1 x.fols.length fo.2) (.slice fe.1 x.fees.length fe.2) (.slice it.1 x.itms.length it.2) (.slice se.1 x.seas.length se.2) (.int .i64 x.tFol) (.int .i64 x.tFee) (.int .i64 x.tItm) (.int .i64 x.tSea),h.fol.far hf f1 (fun j hj e=>h.fol.ne_blk hb (by decide) (e ▸ hj)),h.fee.far hf f1 (fun j hj e=>h.fee.ne_blk hb (by decide) (e ▸ hj)),h.itm.far hf f1 (fun j hj e=>h.itm.ne_blk hb (by decide) (e ▸ hj)),h.sea.far hf f1 (fun j hj e=>h.sea.ne_blk hb (by decide) (e ▸ hj)),h.same,h.hbr,hb3,⟨by omega,by omega,fun j hj=>by have:=(h.itm.own.lt j hj).2;omega⟩,fun i hi _=>(h.old _ (List.getElem_mem hi)).frm hf fun j hj e=>hb.ne_str (by decide) hj e,fun i hi hk=>absurd hk (by omega)⟩
end
theorem Blk.fresh {w w1:World} {t:TypeId} {cs:Array Value} (hf:Frm Nix (w.alloc (.cells cs t)) w1):Blk w1 w.heap.size t cs:=(Blk.new w t cs).frm hf id
theorem Blk.freshD {w w1:World} {t:TypeId} {cs:Array Value} (hf:Frm Nix (w.alloc (.cells cs t)).drew w1):Blk w1 w.heap.size t cs:=(Blk.new w t cs).drew.frm hf id
theorem Blk.still {w w1:World} {g:Nat} {t:TypeId} {cs:Array Value} (hb:Blk w g t cs) (hf:Frm Nix w w1):Blk w1 g t cs:=hb.frm hf id
theorem sorted_map {α:Type} {g:α→Int} {l:List α} (h:l.Pairwise fun a b=>g a<g b):(l.map g).Pairwise (·<·):=List.pairwise_map.2 h
theorem TellT2 {w wc:World} {g br:Nat} {M:Ms} {x:St} (hS:StAt wc g M x) (hF:Frm Nix w wc) (hres:Blk wc br 30 #[.int .i64 0,.slice none 0 0,.slice none 0 0,.slice none 0 0,.slice none 0 0,.int .i64 0,.int .i64 0,.int .i64 0,.int .i64 0]) (hbr:w.heap.size≤br) {u1 u3 u4 u5 u6 u7 u8 u9 u10 u11 u12 u13 u14 u15 u16 u17 u18 u19 u20 u21 u22 u23 u24 u25 u26 u27 u28 u29 u30 u31 u32 u33 u34 u35 u36 u37 u38 u39 u40 u41 u42 u43 u44 u45 u46 u47 u48 u49 u50 u51 u52 u53 u54 u55 u56 u57 u58 u59 u60 u61 u62 u63 u64 u65 u66 u67 u68 u69:Value}:
  Code.wp Tryz.prog (peel 2 (bodyOf Tryz.f10)) (bodyPost Tryz.prog Tryz.f10 fun e w'=>∃ fo fe it se:Sl,∃ ts:List (Sl×Itm),e=.returned (stV fo fe it se x)∧StIn w' (fun k=>w.heap.size≤k) fo fe it se ts x∧Frm Nix w w') ⟨#[.pointer (some ⟨g,0,none⟩),u1,.pointer (some ⟨br,0,none⟩),u3,u4,u5,u6,u7,u8,u9,u10,u11,u12,u13,u14,u15,u16,u17,u18,u19,u20,u21,u22,u23,u24,u25,u26,u27,u28,u29,u30,u31,u32,u33,u34,u35,u36,u37,u38,u39,u40,u41,u42,u43,u44,u45,u46,u47,u48,u49,u50,u51,u52,u53,u54,u55,u56,u57,u58,u59,u60,u61,u62,u63,u64,u65,u66,u67,u68,u69],[]⟩ wc:=by
 obtain⟨sl,hit,htg⟩:=hS.maps.it
 have hx:=hS.ok
 have KFol:Hid (∀ W,Frm Nix wc W→Calls Tryz.prog 42 #[.map (some M.fo)] W fun e w'=>∃ A c,e=.returned (.slice A x.fols.length c)∧RowK 49 3 W w' (.slice A x.fols.length c) x.fols.length (x.fols.flatMap Fol.cells)):=fun W hW=>sortedFol_any (l:=x.fols) (hS.maps.fo.frm hW id) (sorted_map hx.fR) (by have:=hx.fL;omega)
 have KFee:Hid (∀ W,Frm Nix wc W→Calls Tryz.prog 43 #[.map (some M.fe)] W fun e w'=>∃ A c,e=.returned (.slice A x.fees.length c)∧RowK 51 4 W w' (.slice A x.fees.length c) x.fees.length (x.fees.flatMap Fee.cells)):=fun W hW=>sortedFee_any (l:=x.fees) (hS.maps.fe.frm hW id) (sorted_map hx.eR) (by have:=hx.eL;omega)
 have KSea:Hid (∀ W,Frm Nix wc W→Calls Tryz.prog 45 #[.map (some M.se)] W fun e w'=>∃ A c,e=.returned (.slice A x.seas.length c)∧RowK 56 3 W w' (.slice A x.seas.length c) x.seas.length (x.seas.flatMap Sea.cells)):=fun W hW=>sortedSea_any (l:=x.seas) (hS.maps.se.frm hW id) (sorted_map hx.sR) (by have:=hx.sL;omega)
 obtain⟨ts,hts⟩:∃ ts,ts=x.itms.map fun t=>(sl t.id,t):=⟨_,rfl⟩
 have htl:ts.length=x.itms.length:=by rw[hts,List.length_map]
 have hsame:ts.map (·.2)=x.itms:=by rw[hts,List.map_map];exact List.map_id _
 have KItm:Hid (∀ W,Frm Nix wc W→Calls Tryz.prog 44 #[.map (some M.it)] W fun e w'=>∃ A c,e=.returned (.slice A x.itms.length c)∧RowK 54 9 W w' (.slice A x.itms.length c) x.itms.length (ts.flatMap itmC)):=fun W hW=>by
  have h1:MapIs Tryz.prog 3 W M.it (ts.map fun p=>(kI p.2.id,itmV p.1 p.2)):=by rw[hts,List.map_map];exact hit.frm hW id
  have h2:(ts.map fun p=>p.2.id).Pairwise (·<·):=by rw[hts,List.map_map];exact sorted_map hx.iR
  have:=sortedItm_any (l:=ts) h1 h2 (by have:=hx.iL;omega)
  rw[htl] at this
  exact this
 have HOld:Hid (∀ W,Frm Nix wc W→∀ p ∈ ts,TagsIn W p.1 p.2.tags):=fun W hW p hp=>by
  rw[hts] at hp
  obtain⟨t,ht,rfl⟩:=List.mem_map.1 hp
  exact(htg t ht).frm hW fun _ _=>id
 have HMk:Hid (∀ W,Frm Nix wc W→(fun W=>Frm Nix wc W∧W.cell? ⟨g,0,none⟩=some (.int .i64 x.clock)∧W.cell? ⟨g,1,none⟩=some (.map (some M.fo))∧W.cell? ⟨g,2,none⟩=some (.map (some M.fe))∧W.cell? ⟨g,3,none⟩=some (.map (some M.it))∧W.cell? ⟨g,4,none⟩=some (.map (some M.se))∧W.cell? ⟨g,9,none⟩=some (.int .i64 x.tFol)∧W.cell? ⟨g,10,none⟩=some (.int .i64 x.tFee)∧W.cell? ⟨g,11,none⟩=some (.int .i64 x.tItm)∧W.cell? ⟨g,12,none⟩=some (.int .i64 x.tSea)) W):=fun W hf=>by
  obtain⟨c0,c1,c2,c3,c4,c5,c6,c7,c8,c9,c10,c11,c12⟩:=(hS.nix hf).cells
  exact⟨hf,c0,c1,c2,c3,c4,c9,c10,c11,c12⟩
 have hf0:=Frm.refl Nix wc
 have HF:=Lib.hid hF
 have HRes:=Lib.hid hres
 have HX:=Lib.hid hx
 have HSame:=Lib.hid hsame
 have hrl:=hres.lt
 have hsz:=hF.size
 clear hS hF hres hx hit htg hts htl hsame
 have e1:peel 2 (bodyOf Tryz.f10)=.seq (hdC (peel 2 (bodyOf Tryz.f10))) (peel 3 (bodyOf Tryz.f10)):=by kernel_rfl
 rw[e1]
 clear e1
 refine wp_seq_k fun K hK=>?_
 conv in hdC _=>whnf
 generalize hn1:x.fols.length=n1 at KFol
 generalize hn2:x.fees.length=n2 at KFee
 generalize hn3:x.itms.length=n3 at KItm
 generalize hn4:x.seas.length=n4 at KSea
 have HN:=Lib.hid (And.intro hn1 (And.intro hn2 (And.intro hn3 hn4)))
 clear hn1 hn2 hn3 hn4
 go_region_held3 (fun W=>Frm Nix wc W∧W.cell? ⟨g,0,none⟩=some (.int .i64 x.clock)∧W.cell? ⟨g,1,none⟩=some (.map (some M.fo))∧W.cell? ⟨g,2,none⟩=some (.map (some M.fe))∧W.cell? ⟨g,3,none⟩=some (.map (some M.it))∧W.cell? ⟨g,4,none⟩=some (.map (some M.se))∧W.cell? ⟨g,9,none⟩=some (.int .i64 x.tFol)∧W.cell? ⟨g,10,none⟩=some (.int .i64 x.tFee)∧W.cell? ⟨g,11,none⟩=some (.int .i64 x.tItm)∧W.cell? ⟨g,12,none⟩=some (.int .i64 x.tSea)) ((refine HMk.out _ ?_;repeat' (first | with_reducible exact hf0 | with_reducible exact hz4 | with_reducible exact hz3 | with_reducible exact hz2 | with_reducible exact hz1 | with_reducible apply Frm.drew | with_reducible apply Frm.alloc | with_reducible refine Frm.setCell ?_ (Or.inr (Nat.le_refl _)) _ | with_reducible refine Frm.setCell ?_ (Or.inr hz3.size) _ | with_reducible refine Frm.setCell ?_ (Or.inr hz2.size) _ | with_reducible refine Frm.setCell ?_ (Or.inr hz1.size) _))) (first
  | (go_at_call 45;refine(KSea.out _ (by repeat' (first | with_reducible exact Frm.refl _ _ | with_reducible apply Frm.drew | with_reducible apply Frm.alloc | with_reducible exact hz1 | with_reducible exact hz2 | with_reducible exact hz3))).mono ?_;rintro e w4 ⟨A4,c4,rfl,hr4⟩;have hz4:Frm Nix wc w4:=Frm.trans (by repeat' (first | with_reducible exact Frm.refl _ _ | with_reducible apply Frm.drew | with_reducible apply Frm.alloc | with_reducible exact hz1 | with_reducible exact hz2 | with_reducible exact hz3)) hr4.frm;have HR4:=Lib.hid (hr4.since (wb:=wc) (by repeat' (first | with_reducible exact Frm.refl _ _ | with_reducible apply Frm.drew | with_reducible apply Frm.alloc | with_reducible exact hz1 | with_reducible exact hz2 | with_reducible exact hz3)));have HC4:Hid (Frm Nix w3 w4):=Frm.trans (by repeat' (first | with_reducible exact Frm.refl _ _ | with_reducible apply Frm.drew | with_reducible apply Frm.alloc)) hr4.frm;(try (with_reducible have hq4:=Blk.fresh hr4.frm;obtain⟨z40,z41,z42,z43,z44,z45,z46,z47,z48⟩:=blk9 hq4;have g40:=hq4.frozen 0;have g41:=hq4.frozen 1;have g42:=hq4.frozen 2;have g43:=hq4.frozen 3;have g44:=hq4.frozen 4;have g45:=hq4.frozen 5;have g46:=hq4.frozen 6;have g47:=hq4.frozen 7;have g48:=hq4.frozen 8;(try simp at z40 z41 z42 z43 z44 z45 z46 z47 z48);(try simp at g40 g41 g42 g43 g44 g45 g46 g47 g48);have HQ:=Lib.hid hq4;clear hq4));(try (with_reducible have hq4:=Blk.still HQ.out hr4.frm;obtain⟨z40,z41,z42,z43,z44,z45,z46,z47,z48⟩:=blk9 hq4;have g40:=hq4.frozen 0;have g41:=hq4.frozen 1;have g42:=hq4.frozen 2;have g43:=hq4.frozen 3;have g44:=hq4.frozen 4;have g45:=hq4.frozen 5;have g46:=hq4.frozen 6;have g47:=hq4.frozen 7;have g48:=hq4.frozen 8;(try simp at z40 z41 z42 z43 z44 z45 z46 z47 z48);(try simp at g40 g41 g42 g43 g44 g45 g46 g47 g48);have HQ:=Lib.hid hq4;clear hq4));clear hr4)
  | (go_at_call 44;refine(KItm.out _ (by repeat' (first | with_reducible exact Frm.refl _ _ | with_reducible apply Frm.drew | with_reducible apply Frm.alloc | with_reducible exact hz1 | with_reducible exact hz2))).mono ?_;rintro e w3 ⟨A3,c3,rfl,hr3⟩;have hz3:Frm Nix wc w3:=Frm.trans (by repeat' (first | with_reducible exact Frm.refl _ _ | with_reducible apply Frm.drew | with_reducible apply Frm.alloc | with_reducible exact hz1 | with_reducible exact hz2)) hr3.frm;have HR3:=Lib.hid (hr3.since (wb:=wc) (by repeat' (first | with_reducible exact Frm.refl _ _ | with_reducible apply Frm.drew | with_reducible apply Frm.alloc | with_reducible exact hz1 | with_reducible exact hz2)));have HC3:Hid (Frm Nix w2 w3):=Frm.trans (by repeat' (first | with_reducible exact Frm.refl _ _ | with_reducible apply Frm.drew | with_reducible apply Frm.alloc)) hr3.frm;(try (with_reducible have hq3:=Blk.fresh hr3.frm;obtain⟨z30,z31,z32,z33,z34,z35,z36,z37,z38⟩:=blk9 hq3;have g30:=hq3.frozen 0;have g31:=hq3.frozen 1;have g32:=hq3.frozen 2;have g33:=hq3.frozen 3;have g34:=hq3.frozen 4;have g35:=hq3.frozen 5;have g36:=hq3.frozen 6;have g37:=hq3.frozen 7;have g38:=hq3.frozen 8;(try simp at z30 z31 z32 z33 z34 z35 z36 z37 z38);(try simp at g30 g31 g32 g33 g34 g35 g36 g37 g38);have HQ:=Lib.hid hq3;clear hq3));(try (with_reducible have hq3:=Blk.still HQ.out hr3.frm;obtain⟨z30,z31,z32,z33,z34,z35,z36,z37,z38⟩:=blk9 hq3;have g30:=hq3.frozen 0;have g31:=hq3.frozen 1;have g32:=hq3.frozen 2;have g33:=hq3.frozen 3;have g34:=hq3.frozen 4;have g35:=hq3.frozen 5;have g36:=hq3.frozen 6;have g37:=hq3.frozen 7;have g38:=hq3.frozen 8;(try simp at z30 z31 z32 z33 z34 z35 z36 z37 z38);(try simp at g30 g31 g32 g33 g34 g35 g36 g37 g38);have HQ:=Lib.hid hq3;clear hq3));clear hr3)
  | (go_at_call 43;refine(KFee.out _ (by repeat' (first | with_reducible exact Frm.refl _ _ | with_reducible apply Frm.drew | with_reducible apply Frm.alloc | with_reducible exact hz1))).mono ?_;rintro e w2 ⟨A2,c2,rfl,hr2⟩;have hz2:Frm Nix wc w2:=Frm.trans (by repeat' (first | with_reducible exact Frm.refl _ _ | with_reducible apply Frm.drew | with_reducible apply Frm.alloc | with_reducible exact hz1)) hr2.frm;have HR2:=Lib.hid (hr2.since (wb:=wc) (by repeat' (first | with_reducible exact Frm.refl _ _ | with_reducible apply Frm.drew | with_reducible apply Frm.alloc | with_reducible exact hz1)));have HC2:Hid (Frm Nix w1 w2):=Frm.trans (by repeat' (first | with_reducible exact Frm.refl _ _ | with_reducible apply Frm.drew | with_reducible apply Frm.alloc)) hr2.frm;(try (with_reducible have hq2:=Blk.fresh hr2.frm;obtain⟨z20,z21,z22,z23,z24,z25,z26,z27,z28⟩:=blk9 hq2;have g20:=hq2.frozen 0;have g21:=hq2.frozen 1;have g22:=hq2.frozen 2;have g23:=hq2.frozen 3;have g24:=hq2.frozen 4;have g25:=hq2.frozen 5;have g26:=hq2.frozen 6;have g27:=hq2.frozen 7;have g28:=hq2.frozen 8;(try simp at z20 z21 z22 z23 z24 z25 z26 z27 z28);(try simp at g20 g21 g22 g23 g24 g25 g26 g27 g28);have HQ:=Lib.hid hq2;clear hq2));(try (with_reducible have hq2:=Blk.still HQ.out hr2.frm;obtain⟨z20,z21,z22,z23,z24,z25,z26,z27,z28⟩:=blk9 hq2;have g20:=hq2.frozen 0;have g21:=hq2.frozen 1;have g22:=hq2.frozen 2;have g23:=hq2.frozen 3;have g24:=hq2.frozen 4;have g25:=hq2.frozen 5;have g26:=hq2.frozen 6;have g27:=hq2.frozen 7;have g28:=hq2.frozen 8;(try simp at z20 z21 z22 z23 z24 z25 z26 z27 z28);(try simp at g20 g21 g22 g23 g24 g25 g26 g27 g28);have HQ:=Lib.hid hq2;clear hq2));clear hr2)
  | (go_at_call 42;refine(KFol.out _ (by repeat' (first | with_reducible exact Frm.refl _ _ | with_reducible apply Frm.drew | with_reducible apply Frm.alloc))).mono ?_;rintro e w1 ⟨A1,c1,rfl,hr1⟩;have hz1:Frm Nix wc w1:=Frm.trans (by repeat' (first | with_reducible exact Frm.refl _ _ | with_reducible apply Frm.drew | with_reducible apply Frm.alloc)) hr1.frm;have HR1:=Lib.hid (hr1.since (wb:=wc) (by repeat' (first | with_reducible exact Frm.refl _ _ | with_reducible apply Frm.drew | with_reducible apply Frm.alloc)));have HC1:Hid (Frm Nix wc w1):=Frm.trans (by repeat' (first | with_reducible exact Frm.refl _ _ | with_reducible apply Frm.drew | with_reducible apply Frm.alloc)) hr1.frm;(try (with_reducible have hq1:=Blk.freshD hr1.frm;obtain⟨z10,z11,z12,z13,z14,z15,z16,z17,z18⟩:=blk9 hq1;have g10:=hq1.frozen 0;have g11:=hq1.frozen 1;have g12:=hq1.frozen 2;have g13:=hq1.frozen 3;have g14:=hq1.frozen 4;have g15:=hq1.frozen 5;have g16:=hq1.frozen 6;have g17:=hq1.frozen 7;have g18:=hq1.frozen 8;(try simp at z10 z11 z12 z13 z14 z15 z16 z17 z18);(try simp at g10 g11 g12 g13 g14 g15 g16 g17 g18);have HQ:=Lib.hid hq1;clear hq1));clear hr1))
 ·obtain⟨rfl,rfl,rfl,rfl⟩:=HN.out
  have T4:Tell4 w w4 br (A1,c1) (A2,c2) (A3,c3) (A4,c4) x ts:=⟨HRes.out.frm hz4 id,(HR1.out.more (HC2.out.trans (HC3.out.trans HC4.out))).since HF.out,(HR2.out.more (HC3.out.trans HC4.out)).since HF.out,(HR3.out.more HC4.out).since HF.out,HR4.out.since HF.out,HSame.out,hbr,HOld.out w4 hz4⟩
  have q1:=hz1.size
  have q2:=hz2.size
  have q3:=hz3.size
  have q4:=hz4.size
  go_wp2
  exact TellT3 HX.out (Tell4.new T4)
 all_goals
  obtain⟨rfl,rfl,rfl,rfl⟩:=HN.out
  have T4:Tell4 w w4 br (A1,c1) (A2,c2) (A3,c3) (A4,c4) x ts:=⟨HRes.out.frm hz4 id,(HR1.out.more (HC2.out.trans (HC3.out.trans HC4.out))).since HF.out,(HR2.out.more (HC3.out.trans HC4.out)).since HF.out,(HR3.out.more HC4.out).since HF.out,HR4.out.since HF.out,HSame.out,hbr,HOld.out w4 hz4⟩
  have q1:=hz1.size
  have q2:=hz2.size
  have q3:=hz3.size
  have q4:=hz4.size
  go_wp2
  exact TellT3 HX.out (Tell4.put T4 HQ.out (by omega) (by omega))
end
theorem Tell_any {w:World} {g:Nat} {M:Ms} {x:St} (h:StAt w g M x):
  Calls Tryz.prog 10 #[.pointer (some ⟨g,0,none⟩)] w fun e w'=>∃ fo fe it se:Sl,∃ ts:List (Sl×Itm),e=.returned (stV fo fe it se x)∧StIn w' (fun k=>w.heap.size≤k) fo fe it se ts x∧Frm Nix w w':=by
 obtain⟨w0,hw0⟩:∃ w0,w0=w.alloc (.cells #[.int .i64 0,.slice none 0 0,.slice none 0 0,.slice none 0 0,.slice none 0 0,.int .i64 0,.int .i64 0,.int .i64 0,.int .i64 0] 30):=⟨_,rfl⟩
 have hf0:Frm Nix w w0:=by rw[hw0];exact(Frm.refl Nix w).alloc _
 have hb0:Blk w0 w.heap.size 30 #[.int .i64 0,.slice none 0 0,.slice none 0 0,.slice none 0 0,.slice none 0 0,.int .i64 0,.int .i64 0,.int .i64 0,.int .i64 0]:=by rw[hw0];exact Blk.new w _ _
 have HS:=Lib.hid (h.nix hf0)
 have HF0:=Lib.hid hf0
 have HB0:=Lib.hid hb0
 have HW0:=Lib.hid hw0
 clear h hf0 hb0 hw0
 go_enter Tryz.func10,Tryz.ntmps10
 show Code.wp Tryz.prog (peel 0 (bodyOf Tryz.f10)) _ _ _
 have e1:peel 0 (bodyOf Tryz.f10)=.seq (hdC (peel 0 (bodyOf Tryz.f10))) (peel 1 (bodyOf Tryz.f10)):=by kernel_rfl
 rw[e1]
 clear e1
 refine wp_seq_k fun K hK=>?_
 conv in hdC _=>whnf
 go_wp2
 rw[← HW0.out]
 have e1:peel 1 (bodyOf Tryz.f10)=.seq (hdC (peel 1 (bodyOf Tryz.f10))) (peel 2 (bodyOf Tryz.f10)):=by kernel_rfl
 rw[e1]
 clear e1
 refine wp_seq_k fun K hK=>?_
 conv in hdC _=>whnf
 go_wp2
 exact TellT2 HS.out HF0.out HB0.out (Nat.le_refl _)
end Go.Proofs.YtlafbakoefcifaaGreat
