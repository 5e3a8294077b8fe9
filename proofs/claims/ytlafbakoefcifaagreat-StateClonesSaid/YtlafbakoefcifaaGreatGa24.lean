/-
  Contracts: Apply: an item that is turned.
-/
import Derived.Test.YtlafbakoefcifaaGreatGa22
import Derived.StillTailTactics
import Derived.Deep.RegionHeld3
import Derived.Test.YtlafbakoefcifaaGreatGa23
set_option linter.unusedVariables false
set_option linter.unusedSimpArgs false
set_option maxRecDepth 100000
set_option maxHeartbeats 16000000
namespace Go.Proofs.YtlafbakoefcifaaGreat
open Go.RowKit Go.Lib
theorem ApplyT8 {w wc:World} {g be bf bt:Nat} {M:Ms} {x:St} {v:Sl} (hS:StAt wc g M x) (hF:Frm Nix w wc) (a b n:Int) (s t u:ByteArray) (hB:Blk wc be 38 #[.int .i64 8,.int .i64 a,.int .i64 b,.int .i64 n,.string s,.string t,.string u]) (hBf:Blk wc bf 51 #[.int .i64 (feeAt x a).id,.int .i64 (feeAt x a).inn,.string (feeAt x a).url,.string (feeAt x a).title]) (hBt:Blk wc bt 54 (itmA v (itmAt x a))) (hv:TagsIn wc v (itmAt x a).tags) (hlt:∀ k,SF g M k→k<w.heap.size) (hse:w.heap.size≤be) (hsf:w.heap.size≤bf) (hst:w.heap.size≤bt) (hfit:fits x ⟨8,a,b,n,s,t,u⟩=true) (ha:I64 a) (hb:I64 b) {u8 u9 u10 u11 u12 u13 u14 u15 u16 u17 u18 u19 u20 u21 u22 u23 u24 u25:Value}:
  Code.wp Tryz.prog (peel 3 (bodyOf Tryz.f14)) (bodyPost Tryz.prog Tryz.f14 fun r w'=>r=.returned (.bool true)∧StAt w' g M (doS x ⟨8,a,b,n,s,t,u⟩)∧Frm (SF g M) w w') ⟨#[.pointer (some ⟨g,0,none⟩),.agg #[.int .i64 8,.int .i64 a,.int .i64 b,.int .i64 n,.string s,.string t,.string u],undef,.pointer (some ⟨be,0,none⟩),.bool false,.pointer (some ⟨bf,0,none⟩),.pointer (some ⟨bt,0,none⟩),undef,u8,u9,u10,u11,u12,u13,u14,u15,u16,u17,u18,u19,u20,u21,u22,u23,u24,u25,undef,undef,undef,undef,undef,undef,undef,undef,undef,undef,undef,undef,undef,undef,undef,undef,undef,undef,undef,undef,undef,undef,undef,undef,undef,undef,undef,undef,undef,undef,undef,undef,undef,undef,undef,undef,undef,undef,undef,undef,undef,undef,undef,undef,undef,undef,undef,undef,undef,undef,undef,undef,undef,undef,undef,undef,undef,undef,undef,undef,undef,undef,undef,undef,undef,undef,undef,undef,undef,undef,undef,undef,undef,undef,undef,undef,undef,undef,undef,undef,undef,undef,undef,undef,undef,undef,undef,undef,undef,undef,undef,undef,undef,undef,undef,undef,undef,undef,undef,undef,undef,undef,undef,undef,undef,undef,undef,undef,undef,undef,undef,undef,undef,undef,undef,undef,undef,undef,undef,undef,undef,undef,undef,undef],[]⟩ wc:=by
 obtain⟨d0,d1,d2,d3,d4,d5,d6⟩:=blk7 hB
 have he:=fits_ev hfit
 obtain⟨f,hfm,hfa⟩:=(fits89 (x:=x) (.inl rfl) he).1 hfit
 simp only at hfa
 have hat:=atI_some hS.ok.iR hfm hfa
 have hok:=doS_ok hS.ok hfit
 rw[do8 rfl] at hok ⊢
 simp only at hok ⊢
 have hn':(n==1)=decide (n=1):=by rw[Bool.eq_iff_iff];simp
 generalize decide (n=1)=bb at *
 have hitm:itmAt x a=f:=by unfold itmAt;rw[hat];rfl
 rw[hitm] at hBt hv
 unfold itmA at hBt
 have hbt:¬SF g M bt:=fun h=>by have:=hlt bt h;omega
 have hbts:¬StrB wc bt:=fun h=>hBt.ne_str (by decide) h rfl
 have ne:∀ k,SF g M k→¬k=bt:=fun k hk e=>hbt (e ▸ hk)
 have hbb:be≠bt:=hB.ne_ hBt (by decide)
 obtain⟨⟨g1,g2,g3,g4,g5,g6,g7,g8⟩,-⟩:=hS.apart.ne
 obtain⟨w1,hw1⟩:∃ w1,w1=wc.setCell ⟨bt,6,none⟩ (.bool bb):=⟨_,rfl⟩
 have f1:Frm (·=bt) wc w1:=by rw[hw1];exact(Frm.refl (·=bt) wc).setCell (.inl rfl) _
 have b1:Blk w1 bt 54 #[.int .i64 f.id,.int .i64 f.feed,.int .i64 f.date,.string f.guid,.string f.title,.string f.link,.bool bb,.bool f.star,.slice v.1 f.tags.length v.2]:=by
  rw[hw1]
  have:=hBt.set_ 6 (.bool bb)
  simpa using this
 have x6:=hBt.cell 6
 have fz:=hBt.frozen 6
 simp at x6
 have y0:=b1.cell 0
 have y1:=b1.cell 1
 have y2:=b1.cell 2
 have y3:=b1.cell 3
 have y4:=b1.cell 4
 have y5:=b1.cell 5
 have y6:=b1.cell 6
 have y7:=b1.cell 7
 have y8:=b1.cell 8
 simp at y0 y1 y2 y3 y4 y5 y6 y7 y8
 obtain⟨d0',d1',-⟩:=blk7 (hB.frm f1 hbb)
 have q3:=(hS.blk.frm f1 (ne _ (by simp[SF]))).cell 3
 simp at q3
 obtain⟨sl,hi,htg⟩:=hS.maps.it
 obtain⟨w2,r2,m2,f2⟩:=((hi.frm f1 (ne _ (by simp[SF]))).frm (Frm.refl Nix w1).drew id).update_old keyedI Tryz.underlying74 ((delI_perm hat).map fun t:Itm=>(kI t.id,itmV (sl t.id) t)) (itmV v {f with read:=bb})
 rw[show kI f.id=kI a by rw[hfa]] at r2 m2
 have r2':(Instr.mapUpdate 74 (.map (some M.it)) (.int .i64 a) (.agg #[.int .i64 f.id,.int .i64 f.feed,.int .i64 f.date,.string f.guid,.string f.title,.string f.link,.bool bb,.bool f.star,.slice v.1 f.tags.length v.2])).run Tryz.prog w1.drew=.ok () w2:=r2
 have f2':Frm (·=M.it) w1 w2:=(Frm.refl (·=M.it) w1).drew.trans f2
 have f12:Frm (fun k=>k=M.it∨k=bt) wc w2:=(f1.mono fun k hk=>.inr hk).trans (f2'.mono fun k hk=>.inl hk)
 have hv2:TagsIn w2 v f.tags:=hv.frm f12 fun k hk e=>by
  rcases e with e | e
  ·exact hS.str k hk (by simp[SF,e])
  ·exact hbts (e ▸ hk)
 have HM:=Lib.hid (itm_mem (b:=bt) hS htg hat (fun f=>{f with read:=bb}) rfl rfl rfl hv2 m2 f12 hbt hbts hok)
 have HF:=Lib.hid hF
 have HW:=Lib.hid hw1
 clear hS hF hB hBf hBt hv hlt hfit hok hat hfm r2 m2 f2 f2' f12 b1 f1 hw1 hfa hbts hi htg hv2 hitm
 simp only[peel,bodyOf,Tryz.f14]
 go_wp2
 rw[← HW.out]
 go_still_tail 7,(by kernel_rfl)
 change wpList _ _ _ _ _ w1.drew
 go_wp2_with (at_mapUpdate;refine wpList_mapUpdate_run r2' rfl _ _ _ rfl rfl rfl rfl ?_)
 go_ret
 exact⟨rfl,HM.out.1,(Frm.nix (F:=SF g M) HF.out).next HM.out.2 fun k hk=>hk.imp id fun e=>by omega⟩
theorem ApplyT9 {w wc:World} {g be bf bt:Nat} {M:Ms} {x:St} {v:Sl} (hS:StAt wc g M x) (hF:Frm Nix w wc) (a b n:Int) (s t u:ByteArray) (hB:Blk wc be 38 #[.int .i64 9,.int .i64 a,.int .i64 b,.int .i64 n,.string s,.string t,.string u]) (hBf:Blk wc bf 51 #[.int .i64 (feeAt x a).id,.int .i64 (feeAt x a).inn,.string (feeAt x a).url,.string (feeAt x a).title]) (hBt:Blk wc bt 54 (itmA v (itmAt x a))) (hv:TagsIn wc v (itmAt x a).tags) (hlt:∀ k,SF g M k→k<w.heap.size) (hse:w.heap.size≤be) (hsf:w.heap.size≤bf) (hst:w.heap.size≤bt) (hfit:fits x ⟨9,a,b,n,s,t,u⟩=true) (ha:I64 a) (hb:I64 b) {u8 u9 u10 u11 u12 u13 u14 u15 u16 u17 u18 u19 u20 u21 u22 u23 u24 u25:Value}:
  Code.wp Tryz.prog (peel 3 (bodyOf Tryz.f14)) (bodyPost Tryz.prog Tryz.f14 fun r w'=>r=.returned (.bool true)∧StAt w' g M (doS x ⟨9,a,b,n,s,t,u⟩)∧Frm (SF g M) w w') ⟨#[.pointer (some ⟨g,0,none⟩),.agg #[.int .i64 9,.int .i64 a,.int .i64 b,.int .i64 n,.string s,.string t,.string u],undef,.pointer (some ⟨be,0,none⟩),.bool false,.pointer (some ⟨bf,0,none⟩),.pointer (some ⟨bt,0,none⟩),undef,u8,u9,u10,u11,u12,u13,u14,u15,u16,u17,u18,u19,u20,u21,u22,u23,u24,u25,undef,undef,undef,undef,undef,undef,undef,undef,undef,undef,undef,undef,undef,undef,undef,undef,undef,undef,undef,undef,undef,undef,undef,undef,undef,undef,undef,undef,undef,undef,undef,undef,undef,undef,undef,undef,undef,undef,undef,undef,undef,undef,undef,undef,undef,undef,undef,undef,undef,undef,undef,undef,undef,undef,undef,undef,undef,undef,undef,undef,undef,undef,undef,undef,undef,undef,undef,undef,undef,undef,undef,undef,undef,undef,undef,undef,undef,undef,undef,undef,undef,undef,undef,undef,undef,undef,undef,undef,undef,undef,undef,undef,undef,undef,undef,undef,undef,undef,undef,undef,undef,undef,undef,undef,undef,undef,undef,undef,undef,undef,undef,undef,undef,undef,undef,undef,undef,undef,undef,undef,undef,undef,undef,undef],[]⟩ wc:=by
 obtain⟨d0,d1,d2,d3,d4,d5,d6⟩:=blk7 hB
 have he:=fits_ev hfit
 obtain⟨f,hfm,hfa⟩:=(fits89 (x:=x) (.inr rfl) he).1 hfit
 simp only at hfa
 have hat:=atI_some hS.ok.iR hfm hfa
 have hok:=doS_ok hS.ok hfit
 rw[do9 rfl] at hok ⊢
 simp only at hok ⊢
 have hn':(n==1)=decide (n=1):=by rw[Bool.eq_iff_iff];simp
 generalize decide (n=1)=bb at *
 have hitm:itmAt x a=f:=by unfold itmAt;rw[hat];rfl
 rw[hitm] at hBt hv
 unfold itmA at hBt
 have hbt:¬SF g M bt:=fun h=>by have:=hlt bt h;omega
 have hbts:¬StrB wc bt:=fun h=>hBt.ne_str (by decide) h rfl
 have ne:∀ k,SF g M k→¬k=bt:=fun k hk e=>hbt (e ▸ hk)
 have hbb:be≠bt:=hB.ne_ hBt (by decide)
 obtain⟨⟨g1,g2,g3,g4,g5,g6,g7,g8⟩,-⟩:=hS.apart.ne
 obtain⟨w1,hw1⟩:∃ w1,w1=wc.setCell ⟨bt,7,none⟩ (.bool bb):=⟨_,rfl⟩
 have f1:Frm (·=bt) wc w1:=by rw[hw1];exact(Frm.refl (·=bt) wc).setCell (.inl rfl) _
 have b1:Blk w1 bt 54 #[.int .i64 f.id,.int .i64 f.feed,.int .i64 f.date,.string f.guid,.string f.title,.string f.link,.bool f.read,.bool bb,.slice v.1 f.tags.length v.2]:=by
  rw[hw1]
  have:=hBt.set_ 7 (.bool bb)
  simpa using this
 have x6:=hBt.cell 7
 have fz:=hBt.frozen 7
 simp at x6
 have y0:=b1.cell 0
 have y1:=b1.cell 1
 have y2:=b1.cell 2
 have y3:=b1.cell 3
 have y4:=b1.cell 4
 have y5:=b1.cell 5
 have y6:=b1.cell 6
 have y7:=b1.cell 7
 have y8:=b1.cell 8
 simp at y0 y1 y2 y3 y4 y5 y6 y7 y8
 obtain⟨d0',d1',-⟩:=blk7 (hB.frm f1 hbb)
 have q3:=(hS.blk.frm f1 (ne _ (by simp[SF]))).cell 3
 simp at q3
 obtain⟨sl,hi,htg⟩:=hS.maps.it
 obtain⟨w2,r2,m2,f2⟩:=((hi.frm f1 (ne _ (by simp[SF]))).frm (Frm.refl Nix w1).drew id).update_old keyedI Tryz.underlying74 ((delI_perm hat).map fun t:Itm=>(kI t.id,itmV (sl t.id) t)) (itmV v {f with star:=bb})
 rw[show kI f.id=kI a by rw[hfa]] at r2 m2
 have r2':(Instr.mapUpdate 74 (.map (some M.it)) (.int .i64 a) (.agg #[.int .i64 f.id,.int .i64 f.feed,.int .i64 f.date,.string f.guid,.string f.title,.string f.link,.bool f.read,.bool bb,.slice v.1 f.tags.length v.2])).run Tryz.prog w1.drew=.ok () w2:=r2
 have f2':Frm (·=M.it) w1 w2:=(Frm.refl (·=M.it) w1).drew.trans f2
 have f12:Frm (fun k=>k=M.it∨k=bt) wc w2:=(f1.mono fun k hk=>.inr hk).trans (f2'.mono fun k hk=>.inl hk)
 have hv2:TagsIn w2 v f.tags:=hv.frm f12 fun k hk e=>by
  rcases e with e | e
  ·exact hS.str k hk (by simp[SF,e])
  ·exact hbts (e ▸ hk)
 have HM:=Lib.hid (itm_mem (b:=bt) hS htg hat (fun f=>{f with star:=bb}) rfl rfl rfl hv2 m2 f12 hbt hbts hok)
 have HF:=Lib.hid hF
 have HW:=Lib.hid hw1
 clear hS hF hB hBf hBt hv hlt hfit hok hat hfm r2 m2 f2 f2' f12 b1 f1 hw1 hfa hbts hi htg hv2 hitm
 simp only[peel,bodyOf,Tryz.f14]
 go_wp2
 rw[← HW.out]
 go_still_tail 7,(by kernel_rfl)
 change wpList _ _ _ _ _ w1.drew
 go_wp2_with (at_mapUpdate;refine wpList_mapUpdate_run r2' rfl _ _ _ rfl rfl rfl rfl ?_)
 go_ret
 exact⟨rfl,HM.out.1,(Frm.nix (F:=SF g M) HF.out).next HM.out.2 fun k hk=>hk.imp id fun e=>by omega⟩
theorem ApplyT10 {w wc:World} {g be bf bt:Nat} {M:Ms} {x:St} {v:Sl} (hS:StAt wc g M x) (hF:Frm Nix w wc) (a b n:Int) (s t u:ByteArray) (hB:Blk wc be 38 #[.int .i64 10,.int .i64 a,.int .i64 b,.int .i64 n,.string s,.string t,.string u]) (hBf:Blk wc bf 51 #[.int .i64 (feeAt x a).id,.int .i64 (feeAt x a).inn,.string (feeAt x a).url,.string (feeAt x a).title]) (hBt:Blk wc bt 54 (itmA v (itmAt x a))) (hv:TagsIn wc v (itmAt x a).tags) (hlt:∀ k,SF g M k→k<w.heap.size) (hse:w.heap.size≤be) (hsf:w.heap.size≤bf) (hst:w.heap.size≤bt) (hfit:fits x ⟨10,a,b,n,s,t,u⟩=true) (ha:I64 a) (hb:I64 b) {u8 u9 u10 u11 u12 u13 u14 u15 u16 u17 u18 u19 u20 u21 u22 u23 u24 u25:Value}:
  Code.wp Tryz.prog (peel 3 (bodyOf Tryz.f14)) (bodyPost Tryz.prog Tryz.f14 fun r w'=>r=.returned (.bool true)∧StAt w' g M (doS x ⟨10,a,b,n,s,t,u⟩)∧Frm (SF g M) w w') ⟨#[.pointer (some ⟨g,0,none⟩),.agg #[.int .i64 10,.int .i64 a,.int .i64 b,.int .i64 n,.string s,.string t,.string u],undef,.pointer (some ⟨be,0,none⟩),.bool false,.pointer (some ⟨bf,0,none⟩),.pointer (some ⟨bt,0,none⟩),undef,u8,u9,u10,u11,u12,u13,u14,u15,u16,u17,u18,u19,u20,u21,u22,u23,u24,u25,undef,undef,undef,undef,undef,undef,undef,undef,undef,undef,undef,undef,undef,undef,undef,undef,undef,undef,undef,undef,undef,undef,undef,undef,undef,undef,undef,undef,undef,undef,undef,undef,undef,undef,undef,undef,undef,undef,undef,undef,undef,undef,undef,undef,undef,undef,undef,undef,undef,undef,undef,undef,undef,undef,undef,undef,undef,undef,undef,undef,undef,undef,undef,undef,undef,undef,undef,undef,undef,undef,undef,undef,undef,undef,undef,undef,undef,undef,undef,undef,undef,undef,undef,undef,undef,undef,undef,undef,undef,undef,undef,undef,undef,undef,undef,undef,undef,undef,undef,undef,undef,undef,undef,undef,undef,undef,undef,undef,undef,undef,undef,undef,undef,undef,undef,undef,undef,undef,undef,undef,undef,undef,undef,undef],[]⟩ wc:=by
 obtain⟨d0,d1,d2,d3,d4,d5,d6⟩:=blk7 hB
 have he:=fits_ev hfit
 obtain⟨f,hat,-⟩:=(fits10 (x:=x) rfl he).1 hfit
 simp only at hat
 have hfa:f.id=a:=(atI_mem hat).2
 have hok:=doS_ok hS.ok hfit
 rw[do10 rfl] at hok ⊢
 simp only at hok ⊢
 have hn01:n=0∨n=1:=(flag_of rfl he).1
 have hitm:itmAt x a=f:=by unfold itmAt;rw[hat];rfl
 rw[hitm] at hBt hv
 unfold itmA at hBt
 have hbt:¬SF g M bt:=fun h=>by have:=hlt bt h;omega
 have hbts:¬StrB wc bt:=fun h=>hBt.ne_str (by decide) h rfl
 have ne:∀ k,SF g M k→¬k=bt:=fun k hk e=>hbt (e ▸ hk)
 have hbb:be≠bt:=hB.ne_ hBt (by decide)
 obtain⟨⟨g1,g2,g3,g4,g5,g6,g7,g8⟩,-⟩:=hS.apart.ne
 have KT:=Lib.hid (tagged_any hS 10 a b n s t u ha hn01)
 rw[hitm] at KT
 unfold evV slV at KT
 obtain⟨L,hL⟩:∃ L,L=tagsS f.tags s (decide (n=1)):=⟨_,rfl⟩
 rw[← hL] at KT
 have x8:=hBt.cell 8
 simp at x8
 have HS:=Lib.hid hS
 have HF:=Lib.hid hF
 have HB:=Lib.hid hB
 have HBt:=Lib.hid hBt
 have HOk:=Lib.hid hok
 have HAt:=Lib.hid hat
 have HFa:=Lib.hid hfa
 have HLt:=Lib.hid hL
 have nbe:∀ k,SF g M k→¬be=k:=fun k hk e=>by have:=hlt k hk;omega
 clear hS hF hB hBf hBt hv hfit hok hat hitm hfa hL
 simp only[peel,bodyOf,Tryz.f14]
 go_wp2_with (go_at_call 57;refine KT.out.mono ?_;rintro r w1 ⟨v',rfl,hv1,f1⟩;have b1:=HBt.out.frm f1 id;have x8':=b1.cell 8;have fz:=b1.frozen 8;simp at x8';have HB1:=Lib.hid b1;clear b1)
 obtain⟨w3,hw3⟩:∃ w3,w3=w1.setCell ⟨bt,8,none⟩ (.slice v'.1 L.length v'.2):=⟨_,rfl⟩
 rw[← hw3]
 have b1:=HB1.out
 have f3:Frm (·=bt) w1 w3:=by rw[hw3];exact(Frm.refl (·=bt) w1).setCell (.inl rfl) _
 have b3:Blk w3 bt 54 #[.int .i64 f.id,.int .i64 f.feed,.int .i64 f.date,.string f.guid,.string f.title,.string f.link,.bool f.read,.bool f.star,.slice v'.1 L.length v'.2]:=by
  rw[hw3]
  have:=b1.set_ 8 (.slice v'.1 L.length v'.2)
  simpa using this
 have h1:=HS.out.nix f1
 have y0:=b3.cell 0
 have y1:=b3.cell 1
 have y2:=b3.cell 2
 have y3:=b3.cell 3
 have y4:=b3.cell 4
 have y5:=b3.cell 5
 have y6:=b3.cell 6
 have y7:=b3.cell 7
 have y8:=b3.cell 8
 simp at y0 y1 y2 y3 y4 y5 y6 y7 y8
 obtain⟨e0',e1',-⟩:=blk7 ((HB.out.frm f1 id).frm f3 hbb)
 have q3:=(h1.blk.frm f3 (ne _ (by simp[SF]))).cell 3
 simp at q3
 obtain⟨sl,hi,htg⟩:=h1.maps.it
 obtain⟨w4,r4,m4,f4⟩:=((hi.frm f3 (ne _ (by simp[SF]))).frm (Frm.refl Nix w3).drew id).update_old keyedI Tryz.underlying74 ((delI_perm HAt.out).map fun t:Itm=>(kI t.id,itmV (sl t.id) t)) (itmV v' {f with tags:=L})
 rw[show kI f.id=kI a by rw[HFa.out]] at r4 m4
 have r4':(Instr.mapUpdate 74 (.map (some M.it)) (.int .i64 a) (.agg #[.int .i64 f.id,.int .i64 f.feed,.int .i64 f.date,.string f.guid,.string f.title,.string f.link,.bool f.read,.bool f.star,.slice v'.1 L.length v'.2])).run Tryz.prog w3.drew=.ok () w4:=r4
 have f4':Frm (·=M.it) w3 w4:=(Frm.refl (·=M.it) w3).drew.trans f4
 have f14:Frm (fun k=>k=M.it∨k=bt) w1 w4:=(f3.mono fun k hk=>.inr hk).trans (f4'.mono fun k hk=>.inl hk)
 have hbts1:¬StrB w1 bt:=fun h=>b1.ne_str (by decide) h rfl
 have hv4:TagsIn w4 v' L:=hv1.frm f14 fun k hk e=>by
  rcases e with e | e
  ·exact h1.str k hk (by simp[SF,e])
  ·exact hbts1 (e ▸ hk)
 have hL:=HLt.out
 rw[hL] at m4 hv4
 have HM:=Lib.hid (itm_mem (b:=bt) h1 htg HAt.out (fun f=>{f with tags:=tagsS f.tags s (decide (n=1))}) rfl rfl rfl hv4 m4 f14 hbt hbts1 HOk.out)
 have HF1:=Lib.hid (HF.out.trans f1)
 clear b1 f3 b3 h1 r4 m4 f4 f4' f14 hv1 hv4 hi htg hw3 x8 x8' d0 d1 d2 d3 d4 d5 d6 hL hbts1 f1
 go_still_tail 7,(by kernel_rfl)
 change wpList _ _ _ _ _ w3.drew
 go_wp2_with (at_mapUpdate;refine wpList_mapUpdate_run r4' rfl _ _ _ rfl rfl rfl rfl ?_)
 go_ret
 exact⟨rfl,HM.out.1,(Frm.nix (F:=SF g M) HF1.out).next HM.out.2 fun k hk=>hk.imp id fun e=>by omega⟩
theorem ApplyT {w wc:World} {g be bf bt:Nat} {M:Ms} {x:St} {v:Sl} (hS:StAt wc g M x) (hF:Frm Nix w wc) (k a b n:Int) (s t u:ByteArray) (hB:Blk wc be 38 #[.int .i64 k,.int .i64 a,.int .i64 b,.int .i64 n,.string s,.string t,.string u]) (hBf:Blk wc bf 51 #[.int .i64 (feeAt x a).id,.int .i64 (feeAt x a).inn,.string (feeAt x a).url,.string (feeAt x a).title]) (hBt:Blk wc bt 54 (itmA v (itmAt x a))) (hv:TagsIn wc v (itmAt x a).tags) (hlt:∀ k,SF g M k→k<w.heap.size) (hse:w.heap.size≤be) (hsf:w.heap.size≤bf) (hst:w.heap.size≤bt) (hfit:fits x ⟨k,a,b,n,s,t,u⟩=true) (ha:I64 a) (hb:I64 b) {u8 u9 u10 u11 u12 u13 u14 u15 u16 u17 u18 u19 u20 u21 u22 u23 u24 u25:Value}:
  Code.wp Tryz.prog (peel 3 (bodyOf Tryz.f14)) (bodyPost Tryz.prog Tryz.f14 fun r w'=>r=.returned (.bool true)∧StAt w' g M (doS x ⟨k,a,b,n,s,t,u⟩)∧Frm (SF g M) w w') ⟨#[.pointer (some ⟨g,0,none⟩),.agg #[.int .i64 k,.int .i64 a,.int .i64 b,.int .i64 n,.string s,.string t,.string u],undef,.pointer (some ⟨be,0,none⟩),.bool false,.pointer (some ⟨bf,0,none⟩),.pointer (some ⟨bt,0,none⟩),undef,u8,u9,u10,u11,u12,u13,u14,u15,u16,u17,u18,u19,u20,u21,u22,u23,u24,u25,undef,undef,undef,undef,undef,undef,undef,undef,undef,undef,undef,undef,undef,undef,undef,undef,undef,undef,undef,undef,undef,undef,undef,undef,undef,undef,undef,undef,undef,undef,undef,undef,undef,undef,undef,undef,undef,undef,undef,undef,undef,undef,undef,undef,undef,undef,undef,undef,undef,undef,undef,undef,undef,undef,undef,undef,undef,undef,undef,undef,undef,undef,undef,undef,undef,undef,undef,undef,undef,undef,undef,undef,undef,undef,undef,undef,undef,undef,undef,undef,undef,undef,undef,undef,undef,undef,undef,undef,undef,undef,undef,undef,undef,undef,undef,undef,undef,undef,undef,undef,undef,undef,undef,undef,undef,undef,undef,undef,undef,undef,undef,undef,undef,undef,undef,undef,undef,undef,undef,undef,undef,undef,undef,undef],[]⟩ wc:=by
 have hk:=evKind (fits_ev hfit)
 simp only at hk
 rcases hk with rfl | rfl | rfl | rfl | rfl | rfl | rfl | rfl | rfl | rfl | rfl | rfl | rfl
 ·exact ApplyT1 hS hF a b n s t u hB hBf hBt hv hlt hse hsf hst hfit ha hb
 ·exact ApplyT2 hS hF a b n s t u hB hBf hBt hv hlt hse hsf hst hfit ha hb
 ·exact ApplyT3 hS hF a b n s t u hB hBf hBt hv hlt hse hsf hst hfit ha hb
 ·exact ApplyT4 hS hF a b n s t u hB hBf hBt hv hlt hse hsf hst hfit ha hb
 ·exact ApplyT5 hS hF a b n s t u hB hBf hBt hv hlt hse hsf hst hfit ha hb
 ·exact ApplyT6 hS hF a b n s t u hB hBf hBt hv hlt hse hsf hst hfit ha hb
 ·exact ApplyT7 hS hF a b n s t u hB hBf hBt hv hlt hse hsf hst hfit ha hb
 ·exact ApplyT8 hS hF a b n s t u hB hBf hBt hv hlt hse hsf hst hfit ha hb
 ·exact ApplyT9 hS hF a b n s t u hB hBf hBt hv hlt hse hsf hst hfit ha hb
 ·exact ApplyT10 hS hF a b n s t u hB hBf hBt hv hlt hse hsf hst hfit ha hb
 ·exact ApplyT11 hS hF a b n s t u hB hBf hBt hv hlt hse hsf hst hfit ha hb
 ·exact ApplyT12 hS hF a b n s t u hB hBf hBt hv hlt hse hsf hst hfit ha hb
 ·exact ApplyT13 hS hF a b n s t u hB hBf hBt hv hlt hse hsf hst hfit ha hb
theorem ApplyP2 {w wc:World} {g be:Nat} {M:Ms} {x:St} (hS:StAt wc g M x) (hF:Frm Nix w wc) (k a b n:Int) (s t u:ByteArray) (hB:Blk wc be 38 #[.int .i64 k,.int .i64 a,.int .i64 b,.int .i64 n,.string s,.string t,.string u]) (hlt:∀ k,SF g M k→k<w.heap.size) (hse:w.heap.size≤be) (hfit:fits x ⟨k,a,b,n,s,t,u⟩=true) (ha:I64 a) (hb:I64 b) {u8 u9 u10 u11:Value}:
  Code.wp Tryz.prog (peel 2 (bodyOf Tryz.f14)) (bodyPost Tryz.prog Tryz.f14 fun r w'=>r=.returned (.bool true)∧StAt w' g M (doS x ⟨k,a,b,n,s,t,u⟩)∧Frm (SF g M) w w') ⟨#[.pointer (some ⟨g,0,none⟩),.agg #[.int .i64 k,.int .i64 a,.int .i64 b,.int .i64 n,.string s,.string t,.string u],undef,.pointer (some ⟨be,0,none⟩),.bool false,undef,undef,undef,u8,u9,u10,u11,undef,undef,undef,undef,undef,undef,undef,undef,undef,undef,undef,undef,undef,undef,undef,undef,undef,undef,undef,undef,undef,undef,undef,undef,undef,undef,undef,undef,undef,undef,undef,undef,undef,undef,undef,undef,undef,undef,undef,undef,undef,undef,undef,undef,undef,undef,undef,undef,undef,undef,undef,undef,undef,undef,undef,undef,undef,undef,undef,undef,undef,undef,undef,undef,undef,undef,undef,undef,undef,undef,undef,undef,undef,undef,undef,undef,undef,undef,undef,undef,undef,undef,undef,undef,undef,undef,undef,undef,undef,undef,undef,undef,undef,undef,undef,undef,undef,undef,undef,undef,undef,undef,undef,undef,undef,undef,undef,undef,undef,undef,undef,undef,undef,undef,undef,undef,undef,undef,undef,undef,undef,undef,undef,undef,undef,undef,undef,undef,undef,undef,undef,undef,undef,undef,undef,undef,undef,undef],[]⟩ wc:=by
 have e:peel 2 (bodyOf Tryz.f14)=.seq (hdC (peel 2 (bodyOf Tryz.f14))) (peel 3 (bodyOf Tryz.f14)):=by kernel_rfl
 rw[e]
 clear e
 refine wp_seq_k fun K hK=>?_
 obtain⟨vt,hvt⟩:=hS.itmSl ha
 have HMk:Hid (∀ W,Frm Nix wc W→(fun W=>Frm Nix wc W∧W.cell? ⟨g,2,none⟩=some (.map (some M.fe))∧W.cell? ⟨g,3,none⟩=some (.map (some M.it))∧W.cell? ⟨be,1,none⟩=some (.int .i64 a)∧(Instr.lookup 73 (.map (some M.fe)) (.int .i64 a) false).run Tryz.prog W=.ok (.agg #[.int .i64 (feeAt x a).id,.int .i64 (feeAt x a).inn,.string (feeAt x a).url,.string (feeAt x a).title]) W∧(Instr.lookup 74 (.map (some M.it)) (.int .i64 a) false).run Tryz.prog W=.ok (.agg #[.int .i64 (itmAt x a).id,.int .i64 (itmAt x a).feed,.int .i64 (itmAt x a).date,.string (itmAt x a).guid,.string (itmAt x a).title,.string (itmAt x a).link,.bool (itmAt x a).read,.bool (itmAt x a).star,.slice vt.1 (itmAt x a).tags.length vt.2]) W) W):=fun W hf=>⟨hf,(hS.nix hf).cells.2.2.1,(hS.nix hf).cells.2.2.2.1,(blk7 (hB.frm hf id)).2.1,(hS.nix hf).feeLook ha false,(hvt _ hf).2 false⟩
 have HT:Hid (∀ W,Frm Nix wc W→TagsIn W vt (itmAt x a).tags):=fun W hf=>(hvt _ hf).1
 have hf0:=Frm.refl Nix wc
 have hsz:=hF.size
 simp only[hdC,peel,bodyOf,Tryz.f14]
 have HS:=Lib.hid hS
 have HF:=Lib.hid hF
 have HB:=Lib.hid hB
 have HLt:=Lib.hid hlt
 have e1:∀ o,(wc.alloc o).heap.size=wc.heap.size+1:=fun o=>by simp
 have HA:Hid (StAt ((wc.alloc (.cells #[.int .i64 (feeAt x a).id,.int .i64 (feeAt x a).inn,.string (feeAt x a).url,.string (feeAt x a).title] 51)).alloc (.cells #[.int .i64 (itmAt x a).id,.int .i64 (itmAt x a).feed,.int .i64 (itmAt x a).date,.string (itmAt x a).guid,.string (itmAt x a).title,.string (itmAt x a).link,.bool (itmAt x a).read,.bool (itmAt x a).star,.slice vt.1 (itmAt x a).tags.length vt.2] 54)).drew g M x∧Frm Nix w ((wc.alloc (.cells #[.int .i64 (feeAt x a).id,.int .i64 (feeAt x a).inn,.string (feeAt x a).url,.string (feeAt x a).title] 51)).alloc (.cells #[.int .i64 (itmAt x a).id,.int .i64 (itmAt x a).feed,.int .i64 (itmAt x a).date,.string (itmAt x a).guid,.string (itmAt x a).title,.string (itmAt x a).link,.bool (itmAt x a).read,.bool (itmAt x a).star,.slice vt.1 (itmAt x a).tags.length vt.2] 54)).drew∧Blk ((wc.alloc (.cells #[.int .i64 (feeAt x a).id,.int .i64 (feeAt x a).inn,.string (feeAt x a).url,.string (feeAt x a).title] 51)).alloc (.cells #[.int .i64 (itmAt x a).id,.int .i64 (itmAt x a).feed,.int .i64 (itmAt x a).date,.string (itmAt x a).guid,.string (itmAt x a).title,.string (itmAt x a).link,.bool (itmAt x a).read,.bool (itmAt x a).star,.slice vt.1 (itmAt x a).tags.length vt.2] 54)).drew be 38 #[.int .i64 k,.int .i64 a,.int .i64 b,.int .i64 n,.string s,.string t,.string u]∧Blk ((wc.alloc (.cells #[.int .i64 (feeAt x a).id,.int .i64 (feeAt x a).inn,.string (feeAt x a).url,.string (feeAt x a).title] 51)).alloc (.cells #[.int .i64 (itmAt x a).id,.int .i64 (itmAt x a).feed,.int .i64 (itmAt x a).date,.string (itmAt x a).guid,.string (itmAt x a).title,.string (itmAt x a).link,.bool (itmAt x a).read,.bool (itmAt x a).star,.slice vt.1 (itmAt x a).tags.length vt.2] 54)).drew wc.heap.size 51 #[.int .i64 (feeAt x a).id,.int .i64 (feeAt x a).inn,.string (feeAt x a).url,.string (feeAt x a).title]∧Blk ((wc.alloc (.cells #[.int .i64 (feeAt x a).id,.int .i64 (feeAt x a).inn,.string (feeAt x a).url,.string (feeAt x a).title] 51)).alloc (.cells #[.int .i64 (itmAt x a).id,.int .i64 (itmAt x a).feed,.int .i64 (itmAt x a).date,.string (itmAt x a).guid,.string (itmAt x a).title,.string (itmAt x a).link,.bool (itmAt x a).read,.bool (itmAt x a).star,.slice vt.1 (itmAt x a).tags.length vt.2] 54)).drew (wc.heap.size+1) 54 #[.int .i64 (itmAt x a).id,.int .i64 (itmAt x a).feed,.int .i64 (itmAt x a).date,.string (itmAt x a).guid,.string (itmAt x a).title,.string (itmAt x a).link,.bool (itmAt x a).read,.bool (itmAt x a).star,.slice vt.1 (itmAt x a).tags.length vt.2]∧TagsIn ((wc.alloc (.cells #[.int .i64 (feeAt x a).id,.int .i64 (feeAt x a).inn,.string (feeAt x a).url,.string (feeAt x a).title] 51)).alloc (.cells #[.int .i64 (itmAt x a).id,.int .i64 (itmAt x a).feed,.int .i64 (itmAt x a).date,.string (itmAt x a).guid,.string (itmAt x a).title,.string (itmAt x a).link,.bool (itmAt x a).read,.bool (itmAt x a).star,.slice vt.1 (itmAt x a).tags.length vt.2] 54)).drew vt (itmAt x a).tags):=by
  have hf2:Frm Nix wc ((wc.alloc (.cells #[.int .i64 (feeAt x a).id,.int .i64 (feeAt x a).inn,.string (feeAt x a).url,.string (feeAt x a).title] 51)).alloc (.cells #[.int .i64 (itmAt x a).id,.int .i64 (itmAt x a).feed,.int .i64 (itmAt x a).date,.string (itmAt x a).guid,.string (itmAt x a).title,.string (itmAt x a).link,.bool (itmAt x a).read,.bool (itmAt x a).star,.slice vt.1 (itmAt x a).tags.length vt.2] 54)).drew:=((hf0.alloc _).alloc _).drew
  refine⟨HS.out.nix hf2,HF.out.trans hf2,HB.out.frm hf2 id,((Blk.new wc _ _).alloc _).drew,?_,HT.out _ hf2⟩
  rw[← e1 (.cells #[.int .i64 (feeAt x a).id,.int .i64 (feeAt x a).inn,.string (feeAt x a).url,.string (feeAt x a).title] 51)]
  exact(Blk.new _ _ _).drew
 have HI:Hid (StAt ((wc.alloc (.cells #[.int .i64 (itmAt x a).id,.int .i64 (itmAt x a).feed,.int .i64 (itmAt x a).date,.string (itmAt x a).guid,.string (itmAt x a).title,.string (itmAt x a).link,.bool (itmAt x a).read,.bool (itmAt x a).star,.slice vt.1 (itmAt x a).tags.length vt.2] 54)).alloc (.cells #[.int .i64 (feeAt x a).id,.int .i64 (feeAt x a).inn,.string (feeAt x a).url,.string (feeAt x a).title] 51)).drew g M x∧Frm Nix w ((wc.alloc (.cells #[.int .i64 (itmAt x a).id,.int .i64 (itmAt x a).feed,.int .i64 (itmAt x a).date,.string (itmAt x a).guid,.string (itmAt x a).title,.string (itmAt x a).link,.bool (itmAt x a).read,.bool (itmAt x a).star,.slice vt.1 (itmAt x a).tags.length vt.2] 54)).alloc (.cells #[.int .i64 (feeAt x a).id,.int .i64 (feeAt x a).inn,.string (feeAt x a).url,.string (feeAt x a).title] 51)).drew∧Blk ((wc.alloc (.cells #[.int .i64 (itmAt x a).id,.int .i64 (itmAt x a).feed,.int .i64 (itmAt x a).date,.string (itmAt x a).guid,.string (itmAt x a).title,.string (itmAt x a).link,.bool (itmAt x a).read,.bool (itmAt x a).star,.slice vt.1 (itmAt x a).tags.length vt.2] 54)).alloc (.cells #[.int .i64 (feeAt x a).id,.int .i64 (feeAt x a).inn,.string (feeAt x a).url,.string (feeAt x a).title] 51)).drew be 38 #[.int .i64 k,.int .i64 a,.int .i64 b,.int .i64 n,.string s,.string t,.string u]∧Blk ((wc.alloc (.cells #[.int .i64 (itmAt x a).id,.int .i64 (itmAt x a).feed,.int .i64 (itmAt x a).date,.string (itmAt x a).guid,.string (itmAt x a).title,.string (itmAt x a).link,.bool (itmAt x a).read,.bool (itmAt x a).star,.slice vt.1 (itmAt x a).tags.length vt.2] 54)).alloc (.cells #[.int .i64 (feeAt x a).id,.int .i64 (feeAt x a).inn,.string (feeAt x a).url,.string (feeAt x a).title] 51)).drew wc.heap.size 54 #[.int .i64 (itmAt x a).id,.int .i64 (itmAt x a).feed,.int .i64 (itmAt x a).date,.string (itmAt x a).guid,.string (itmAt x a).title,.string (itmAt x a).link,.bool (itmAt x a).read,.bool (itmAt x a).star,.slice vt.1 (itmAt x a).tags.length vt.2]∧Blk ((wc.alloc (.cells #[.int .i64 (itmAt x a).id,.int .i64 (itmAt x a).feed,.int .i64 (itmAt x a).date,.string (itmAt x a).guid,.string (itmAt x a).title,.string (itmAt x a).link,.bool (itmAt x a).read,.bool (itmAt x a).star,.slice vt.1 (itmAt x a).tags.length vt.2] 54)).alloc (.cells #[.int .i64 (feeAt x a).id,.int .i64 (feeAt x a).inn,.string (feeAt x a).url,.string (feeAt x a).title] 51)).drew (wc.heap.size+1) 51 #[.int .i64 (feeAt x a).id,.int .i64 (feeAt x a).inn,.string (feeAt x a).url,.string (feeAt x a).title]∧TagsIn ((wc.alloc (.cells #[.int .i64 (itmAt x a).id,.int .i64 (itmAt x a).feed,.int .i64 (itmAt x a).date,.string (itmAt x a).guid,.string (itmAt x a).title,.string (itmAt x a).link,.bool (itmAt x a).read,.bool (itmAt x a).star,.slice vt.1 (itmAt x a).tags.length vt.2] 54)).alloc (.cells #[.int .i64 (feeAt x a).id,.int .i64 (feeAt x a).inn,.string (feeAt x a).url,.string (feeAt x a).title] 51)).drew vt (itmAt x a).tags):=by
  have hf2:Frm Nix wc ((wc.alloc (.cells #[.int .i64 (itmAt x a).id,.int .i64 (itmAt x a).feed,.int .i64 (itmAt x a).date,.string (itmAt x a).guid,.string (itmAt x a).title,.string (itmAt x a).link,.bool (itmAt x a).read,.bool (itmAt x a).star,.slice vt.1 (itmAt x a).tags.length vt.2] 54)).alloc (.cells #[.int .i64 (feeAt x a).id,.int .i64 (feeAt x a).inn,.string (feeAt x a).url,.string (feeAt x a).title] 51)).drew:=((hf0.alloc _).alloc _).drew
  refine⟨HS.out.nix hf2,HF.out.trans hf2,HB.out.frm hf2 id,((Blk.new wc _ _).alloc _).drew,?_,HT.out _ hf2⟩
  rw[← e1 (.cells #[.int .i64 (itmAt x a).id,.int .i64 (itmAt x a).feed,.int .i64 (itmAt x a).date,.string (itmAt x a).guid,.string (itmAt x a).title,.string (itmAt x a).link,.bool (itmAt x a).read,.bool (itmAt x a).star,.slice vt.1 (itmAt x a).tags.length vt.2] 54)]
  exact(Blk.new _ _ _).drew
 clear hS hF hB hvt hlt e1
 go_region_held3 (fun W=>Frm Nix wc W∧W.cell? ⟨g,2,none⟩=some (.map (some M.fe))∧W.cell? ⟨g,3,none⟩=some (.map (some M.it))∧W.cell? ⟨be,1,none⟩=some (.int .i64 a)∧(Instr.lookup 73 (.map (some M.fe)) (.int .i64 a) false).run Tryz.prog W=.ok (.agg #[.int .i64 (feeAt x a).id,.int .i64 (feeAt x a).inn,.string (feeAt x a).url,.string (feeAt x a).title]) W∧(Instr.lookup 74 (.map (some M.it)) (.int .i64 a) false).run Tryz.prog W=.ok (.agg #[.int .i64 (itmAt x a).id,.int .i64 (itmAt x a).feed,.int .i64 (itmAt x a).date,.string (itmAt x a).guid,.string (itmAt x a).title,.string (itmAt x a).link,.bool (itmAt x a).read,.bool (itmAt x a).star,.slice vt.1 (itmAt x a).tags.length vt.2]) W) ((refine HMk.out _ ?_;repeat' (first | exact hf0 | apply Frm.drew | apply Frm.alloc | refine Frm.setCell ?_ (.inr (by simp)) _))) (first | fail)
 all_goals
  go_wp2
  first
   | exact ApplyT HA.out.1 HA.out.2.1 k a b n s t u HA.out.2.2.1 HA.out.2.2.2.1 HA.out.2.2.2.2.1 HA.out.2.2.2.2.2 HLt.out hse hsz (Nat.le_succ_of_le hsz) hfit ha hb
   | exact ApplyT HI.out.1 HI.out.2.1 k a b n s t u HI.out.2.2.1 HI.out.2.2.2.2.1 HI.out.2.2.2.1 HI.out.2.2.2.2.2 HLt.out hse (Nat.le_succ_of_le hsz) hsz hfit ha hb
theorem Apply_no {w:World} {g:Nat} {M:Ms} {x:St} (h:StAt w g M x) (k a b n:Int) (s t u:ByteArray) (ha:I64 a) (hb:I64 b) (hf:fits x ⟨k,a,b,n,s,t,u⟩=false):
  Calls Tryz.prog 14 #[.pointer (some ⟨g,0,none⟩),evV ⟨k,a,b,n,s,t,u⟩] w fun r w'=>r=.returned (.bool false)∧StAt w' g M x∧Frm (SF g M) w w':=by
 obtain⟨w0,hw0⟩:∃ w0,w0=w.alloc (.cells #[.int .i64 k,.int .i64 a,.int .i64 b,.int .i64 n,.string s,.string t,.string u] 38):=⟨_,rfl⟩
 have hcur:Frm Nix w w0:=by rw[hw0];exact(Frm.refl Nix w).alloc _
 have hBe:Blk w0 w.heap.size 38 #[.int .i64 k,.int .i64 a,.int .i64 b,.int .i64 n,.string s,.string t,.string u]:=by rw[hw0];exact Blk.new w _ _
 obtain⟨d0,d1,d2,d3,d4,d5,d6⟩:=blk7 hBe
 have HBe:=Lib.hid hBe
 have KF:Hid (Calls Tryz.prog 13 #[.pointer (some ⟨g,0,none⟩),.agg #[.int .i64 k,.int .i64 a,.int .i64 b,.int .i64 n,.string s,.string t,.string u]] w0 fun r w'=>r=.returned (.bool (fits x ⟨k,a,b,n,s,t,u⟩))∧Frm Nix w0 w'):=Fits_any (h.nix hcur) ⟨k,a,b,n,s,t,u⟩ ha hb
 rw[hf] at KF
 have HS:Hid (StAt w0 g M x):=h.nix hcur
 have HLt:=Lib.hid h.lt
 have HC:=Lib.hid hcur
 have HW:=Lib.hid hw0
 have HFit:=Lib.hid hf
 clear h hcur hBe hf
 unfold evV
 go_enter Tryz.func14,Tryz.ntmps14
 show Code.wp Tryz.prog (peel 0 (bodyOf Tryz.f14)) _ _ _
 have e0:peel 0 (bodyOf Tryz.f14)=.seq (hdC (peel 0 (bodyOf Tryz.f14))) (peel 1 (bodyOf Tryz.f14)):=by kernel_rfl
 rw[e0]
 clear e0
 refine wp_seq_k fun K hK=>?_
 conv in hdC _=>whnf
 clear hw0
 go_wp2
 rw[← HW.out]
 have e1:peel 1 (bodyOf Tryz.f14)=.seq (hdC (peel 1 (bodyOf Tryz.f14))) (peel 2 (bodyOf Tryz.f14)):=by kernel_rfl
 rw[e1]
 clear e1
 refine wp_seq_k fun K hK=>?_
 conv in hdC _=>whnf
 go_wp2_with (go_at_call 13;refine KF.out.mono ?_;rintro r w1 ⟨rfl,hf1⟩)
 go_ret
 exact⟨rfl,HS.out.nix hf1,(Frm.nix (HC.out.trans hf1))⟩
theorem Apply_yes {w:World} {g:Nat} {M:Ms} {x:St} (h:StAt w g M x) (k a b n:Int) (s t u:ByteArray) (ha:I64 a) (hb:I64 b) (hf:fits x ⟨k,a,b,n,s,t,u⟩=true):
  Calls Tryz.prog 14 #[.pointer (some ⟨g,0,none⟩),evV ⟨k,a,b,n,s,t,u⟩] w fun r w'=>r=.returned (.bool true)∧StAt w' g M (doS x ⟨k,a,b,n,s,t,u⟩)∧Frm (SF g M) w w':=by
 obtain⟨w0,hw0⟩:∃ w0,w0=w.alloc (.cells #[.int .i64 k,.int .i64 a,.int .i64 b,.int .i64 n,.string s,.string t,.string u] 38):=⟨_,rfl⟩
 have hcur:Frm Nix w w0:=by rw[hw0];exact(Frm.refl Nix w).alloc _
 have hBe:Blk w0 w.heap.size 38 #[.int .i64 k,.int .i64 a,.int .i64 b,.int .i64 n,.string s,.string t,.string u]:=by rw[hw0];exact Blk.new w _ _
 obtain⟨d0,d1,d2,d3,d4,d5,d6⟩:=blk7 hBe
 have HBe:=Lib.hid hBe
 have KF:Hid (Calls Tryz.prog 13 #[.pointer (some ⟨g,0,none⟩),.agg #[.int .i64 k,.int .i64 a,.int .i64 b,.int .i64 n,.string s,.string t,.string u]] w0 fun r w'=>r=.returned (.bool (fits x ⟨k,a,b,n,s,t,u⟩))∧Frm Nix w0 w'):=Fits_any (h.nix hcur) ⟨k,a,b,n,s,t,u⟩ ha hb
 rw[hf] at KF
 have HS:Hid (StAt w0 g M x):=h.nix hcur
 have HLt:=Lib.hid h.lt
 have HC:=Lib.hid hcur
 have HW:=Lib.hid hw0
 have HFit:=Lib.hid hf
 clear h hcur hBe hf
 unfold evV
 go_enter Tryz.func14,Tryz.ntmps14
 show Code.wp Tryz.prog (peel 0 (bodyOf Tryz.f14)) _ _ _
 have e0:peel 0 (bodyOf Tryz.f14)=.seq (hdC (peel 0 (bodyOf Tryz.f14))) (peel 1 (bodyOf Tryz.f14)):=by kernel_rfl
 rw[e0]
 clear e0
 refine wp_seq_k fun K hK=>?_
 conv in hdC _=>whnf
 clear hw0
 go_wp2
 rw[← HW.out]
 have e1:peel 1 (bodyOf Tryz.f14)=.seq (hdC (peel 1 (bodyOf Tryz.f14))) (peel 2 (bodyOf Tryz.f14)):=by kernel_rfl
 rw[e1]
 clear e1
 refine wp_seq_k fun K hK=>?_
 conv in hdC _=>whnf
 go_wp2_with (go_at_call 13;refine KF.out.mono ?_;rintro r w1 ⟨rfl,hf1⟩)
 exact ApplyP2 (HS.out.nix hf1) (HC.out.trans hf1) k a b n s t u (HBe.out.frm hf1 id) HLt.out (Nat.le_refl _) HFit.out ha hb
theorem Apply_any {w:World} {g:Nat} {M:Ms} {x:St} (h:StAt w g M x) (e:Ev) (ha:I64 e.a) (hb:I64 e.b):
  Calls Tryz.prog 14 #[.pointer (some ⟨g,0,none⟩),evV e] w fun r w'=>r=.returned (.bool (applyS x e).2)∧StAt w' g M (applyS x e).1∧Frm (SF g M) w w':=by
 cases hf:fits x e with
 | false=>
   rw[show applyS x e=(x,false) by simp[applyS,hf]]
   exact Apply_no h e.kind e.a e.b e.n e.s e.t e.u ha hb hf
 | true=>
   rw[show applyS x e=(doS x e,true) by simp[applyS,hf]]
   exact Apply_yes h e.kind e.a e.b e.n e.s e.t e.u ha hb hf
end Go.Proofs.YtlafbakoefcifaaGreat
