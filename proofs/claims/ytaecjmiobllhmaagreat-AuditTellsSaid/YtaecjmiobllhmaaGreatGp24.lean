/- Words. -/
import Derived.Test.YtaecjmiobllhmaaGreatGp23
import Derived.Test.YtaecjmiobllhmaaGreatGp11
import Derived.Test.YtaecjmiobllhmaaGreatGp15
import Derived.Test.YtaecjmiobllhmaaGreatGp13
import Derived.Deep.RegionHeld3
set_option linter.unusedVariables false
set_option linter.unusedSimpArgs false
set_option maxRecDepth 100000
set_option maxHeartbeats 16000000
namespace Go.Proofs.YtaecjmiobllhmaaGreat
open Go.RowKit Go.Lib
theorem evc7{w:World}{b off:Nat}{e:Ev}(h:∀(j:Nat) (u:Value),e.cells[j]? =some u→w.cell? ⟨b,off+j,none⟩=some u):
  w.cell? ⟨b,off,none⟩=some (.int .i64 e.kind)∧w.cell? ⟨b,off+1,none⟩=some (.int .i64 e.a)∧w.cell? ⟨b,off+2,none⟩=some (.int .i64 e.b)∧w.cell? ⟨b,off+3,none⟩=some (.int .i64 e.n)∧w.cell? ⟨b,off+4,none⟩=some (.string e.s)∧w.cell? ⟨b,off+5,none⟩=some (.string e.t)∧w.cell? ⟨b,off+6,none⟩=some (.string e.u):=
 ⟨h 0 _ rfl,h 1 _ rfl,h 2 _ rfl,h 3 _ rfl,h 4 _ rfl,h 5 _ rfl,h 6 _ rfl⟩
theorem foldE_take{x:St}{l:List Ev}{k:Nat}(h:k<l.length):foldE x (l.take (k+1))=(applyS (foldE x (l.take k)) l[k]).1:=by
 unfold foldE;rw[List.take_succ_eq_append_getElem h,List.foldl_append];rfl
theorem frm_own{w wr w2:World}{g:Nat}{M:Ms}(h:Frm Nix w wr)(hf:Frm (SF g M) wr w2)(hn:∀k,SF g M k→w.heap.size≤k):Frm Nix w w2:=h.next hf λk hk=>.inr (hn k hk)
theorem Fold_any{w:World}{v:Sl}{G:Nat→Prop}(l:List Ev)(hv:SlIn w G 7 v l.length (l.flatMap Ev.cells))(hI:∀e∈l,I64 e.a∧I64 e.b)(hn:l.length≤1000000):
  Calls Tryz.prog 19 #[.slice v.1 l.length v.2] w λe w'=>∃g M,e=.returned (.pointer (some ⟨g,0,none⟩))∧StAt w' g M (foldE st0 l)∧Frm Nix w w'∧∀k,SF g M k→w.heap.size≤k:=by
 obtain⟨Av,cv⟩:=v;dsimp only;obtain⟨n,hln⟩:∃n,l.length=n:=⟨_,rfl⟩;have HL:=h_ hln;have HV:=h_ hv;have HI:=h_ hI;have KN:=h_ (New_any w);rw[hln] at hn ⊢;clear hv hln hI;go_enter Tryz.func19,Tryz.ntmps19;go_wp2_with (go_at_call 38;refine KN.out.mono ?_;rintro e w1 ⟨g,M,rfl,hs,hf,hg⟩;have HS:=h_ hs;have HF:=h_ hf;have HG:=h_ hg;clear hs hf hg)
 go_loopw [9] (λkv wr=>∃k:Nat,k≤n∧kv=.int .i64 k∧StAt wr g M (foldE st0 (l.take k))∧Frm Nix w wr) (λkv _=>n - (intOf kv).toNat)
 case atStart=>exact⟨0,by omega,rfl,HS.out,HF.out⟩
 case round=>
  obtain⟨k,hk,rfl,hs,hf⟩:=hrel;have HS2:=h_ hs;have HF2:=h_ hf;clear hs hf
  by_cases hlt:k<n
  ·have hkl:k<l.length:=by rw[HL.out];exact hlt
   obtain⟨b,off,hA,-,hbl,hcell⟩:=(HV.out.nix HF2.out).at_ Ev.clen (by decide) (by omega);dsimp only at hA;subst hA;have h7:=evc7 (w:=wr) (b:=b) (off:=off+k * 7) (e:=l[k]) (hcell k hkl);have hie:=HI.out l[k] (List.getElem_mem hkl);have HFT:=h_ (foldE_take (x:=st0) hkl);obtain⟨ev,hev⟩:∃ev,l[k]=ev:=⟨_,rfl⟩;rw[hev] at h7 hie HFT;obtain⟨x0,x1,x2,x3,x4,x5,x6⟩:=h7
   have KA:Hid (Calls Tryz.prog 42 #[.pointer (some ⟨g,0,none⟩),.agg #[.int .i64 ev.kind,.int .i64 ev.a,.int .i64 ev.b,.int .i64 ev.n,.string ev.s,.string ev.t,.string ev.u]] (wr.alloc (.cells #[.int .i64 ev.kind,.int .i64 ev.a,.int .i64 ev.b,.int .i64 ev.n,.string ev.s,.string ev.t,.string ev.u] 42)) λr w'=>r=.returned (.bool (applyS (foldE st0 (l.take k)) ev).2)∧StAt w' g M (foldE st0 (l.take (k+1)))∧Frm Nix w w'):=
    (Apply_any (HS2.out.nix ((fR wr).alloc _)) ev hie.1 hie.2).mono λr w' ⟨h1,h2,h3⟩=>⟨h1,by rw[HFT.out];exact h2,frm_own (HF2.out.alloc _) h3 HG.out⟩
   clear hcell hev hie;generalize (applyS (foldE st0 (l.take k)) ev).2=bb at *;go_wp2_with (go_at_call 42;refine KA.out.mono ?_;rintro r w2 ⟨rfl,hs2,hf2⟩;have HS3:=h_ hs2;have HF3:=h_ hf2;clear hs2 hf2);go_roundw
   case rel=>exact⟨k+1,by omega,by go_num,HS3.out,HF3.out⟩
   case measure=>simp[intOf];omega
  ·obtain rfl:k=n:=by omega
   have HTk:Hid (l.take k=l):=List.take_of_length_le (by rw[HL.out];exact Nat.le_refl _);have hs:=HS2.out;rw[HTk.out] at hs;have HS4:=h_ hs;clear hs;go_wp2;go_ret;exact⟨g,M,rfl,HS4.out,HF2.out,HG.out⟩
theorem str_flat(l:List ByteArray):l.map Value.string=l.flatMap λi=>[Value.string i]:=by
 induction l with
 | nil=>rfl
 | cons a l ih=>rw[List.map_cons,ih,List.flatMap_cons];rfl
theorem rtexts_any{w:World}{G G':Nat→Prop}{v v':Sl}(l l':List ByteArray)(hv0:SlIn w G 1 v l.length (l.map Value.string))(hv0':SlIn w G' 1 v' l'.length (l'.map Value.string))(hn:l.length≤1000000)(hn':l'.length≤1000000):
  Calls Tryz.prog 81 #[.slice v.1 l.length v.2,.slice v'.1 l'.length v'.2] w λe w'=>e=.returned (.bool (decide (l=l')))∧Frm Nix w w':=by
 have hv:=hv0;have hv':=hv0';rw[str_flat] at hv hv';clear hv0 hv0';obtain⟨A,c⟩:=v;obtain⟨A',c'⟩:=v';dsimp only
 by_cases hll:l.length=l'.length
 ·rw[←hll]
  obtain⟨n,hln⟩:∃n,l.length=n:=⟨_,rfl⟩;have HL:=h_ hln;have HLL:=h_ hll;have HV:=h_ hv;have HV':=h_ hv';rw[hln] at hn ⊢;clear hv hv' hll hln hn';go_enter Tryz.func81,Tryz.ntmps81;go_wp2
  go_loopw [5] (λkv wr=>∃k:Nat,k≤n∧kv=.int .i64 k∧l.take k=l'.take k∧Frm Nix w wr) (λkv _=>n - (intOf kv).toNat)
  case atStart=>exact⟨0,by omega,rfl,by simp,Frm.refl _ _⟩
  case round=>
   obtain⟨k,hk,rfl,ht,hf⟩:=hrel;have HT:=h_ ht;have HF:=h_ hf;clear ht hf
   by_cases hlt:k<n
   ·have hkl:k<l.length:=by rw[HL.out];exact hlt
    have hkl':k<l'.length:=by rw[←HLL.out];exact hkl
    obtain⟨b,off,hA,-,hbl,hcell⟩:=(HV.out.nix HF.out).at_ (f:=λi=>[Value.string i]) (λ_=>rfl) (by decide) (by omega);obtain⟨b',off',hA',-,hbl',hcell'⟩:=(HV'.out.nix HF.out).at_ (f:=λi=>[Value.string i]) (λ_=>rfl) (by decide) (by omega);dsimp only at hA hA';subst hA;subst hA';have x0:=hcell k hkl 0 _ rfl;have y0:=hcell' k hkl' 0 _ rfl;rw[Nat.mul_one,Nat.add_zero] at x0 y0;have HNe:=h_ (take_ne hkl hkl');have HEq:=h_ (take_eq hkl hkl' HT.out);clear hcell hcell';generalize l[k]=p at *;generalize l'[k]=q at *
    by_cases he:p=q
    ·subst he
     have HE:=h_ (HEq.out rfl);go_wp2;go_quiet (fail);go_wp2;go_roundw
     case rel=>exact⟨k+1,by omega,by go_num,HE.out,HF.out.drewN _⟩
     case measure=>simp[intOf];omega
    ·have hq:¬p.toList=q.toList:=λe=>he (toList_inj.1 e)
     have hq2:(p.toList==q.toList)=false:=by simp[hq]
     have HE:=h_ (HNe.out he);clear he;go_wp2;go_quiet (fail);go_wp2;go_ret;exact⟨ret_bool (decide_eq_false HE.out).symm,HF.out.drewN _⟩
   ·obtain rfl:k=n:=by omega
    have HE:Hid (l=l'):=by
     have:=HT.out;rw[List.take_of_length_le (by rw[HL.out];exact Nat.le_refl _),List.take_of_length_le (by rw[←HLL.out,HL.out];exact Nat.le_refl _)] at this;exact this
    go_wp2;go_ret;exact⟨ret_bool (decide_eq_true HE.out).symm,HF.out⟩
 ·have HE:Hid (l≠l'):=λe=>hll (by rw[e])
  clear hv hv';have hne:¬((l.length:Int)=(l'.length:Int)):=by omega
  generalize hq1:l.length=n1 at *;generalize hq2:l'.length=n2 at *;clear hq1 hq2;go_enter Tryz.func81,Tryz.ntmps81;go_wp2;go_ret;exact⟨ret_bool (decide_eq_false HE.out).symm,Frm.refl _ _⟩
theorem itm_iff2(t t':Itm):decide (t=t')=(decide (t.id=t'.id)&&(decide (t.feed=t'.feed)&&(decide (t.date=t'.date)&&(decide (t.guid=t'.guid)&&(decide (t.title=t'.title)&&(decide (t.link=t'.link)&&(decide (t.read=t'.read)&&(decide (t.star=t'.star)&&decide (t.tags=t'.tags))))))))):=by
 rw[Bool.eq_iff_iff];simp only[Bool.and_eq_true,decide_eq_true_eq];constructor
 ·rintro rfl;simp
 ·rintro⟨h1,h2,h3,h4,h5,h6,h7,h8,h9⟩
  cases t
  cases t'
  simp_all
theorem rSameItem_any{w:World}{G G':Nat→Prop}{v v':Sl}(t t':Itm)(hv:SlIn w G 1 v t.tags.length (t.tags.map Value.string))(hv':SlIn w G' 1 v' t'.tags.length (t'.tags.map Value.string))(hn:t.tags.length≤1000000)(hn':t'.tags.length≤1000000):
  Calls Tryz.prog 36 #[.agg #[.int .i64 t.id,.int .i64 t.feed,.int .i64 t.date,.string t.guid,.string t.title,.string t.link,.bool t.read,.bool t.star,.slice v.1 t.tags.length v.2],.agg #[.int .i64 t'.id,.int .i64 t'.feed,.int .i64 t'.date,.string t'.guid,.string t'.title,.string t'.link,.bool t'.read,.bool t'.star,.slice v'.1 t'.tags.length v'.2]] w λe w'=>e=.returned (.bool (decide (t=t')))∧Frm Nix w w':=by
 have K:Hid (∀W,Frm Nix w W→Calls Tryz.prog 81 #[.slice v.1 t.tags.length v.2,.slice v'.1 t'.tags.length v'.2] W λe w'=>e=.returned (.bool (decide (t.tags=t'.tags)))∧Frm Nix w w'):=λW hW=>(rtexts_any t.tags t'.tags (hv.nix hW) (hv'.nix hW) hn hn').mono λe w' q=>⟨q.1,hW.trans q.2⟩
 have HI:=h_ (itm_iff2 t t');clear hv hv' hn hn';generalize decide (t=t')=bx at *;generalize decide (t.tags=t'.tags)=bt at *;generalize t.tags.length=n1 at *;generalize t'.tags.length=n2 at *;generalize t.id=x0 at *;generalize t'.id=y0 at *;generalize t.feed=x1 at *;generalize t'.feed=y1 at *;generalize t.date=x2 at *;generalize t'.date=y2 at *;generalize t.guid=x3 at *;generalize t'.guid=y3 at *;generalize t.title=x4 at *;generalize t'.title=y4 at *;generalize t.link=x5 at *;generalize t'.link=y5 at *;generalize t.read=x6 at *;generalize t'.read=y6 at *;generalize t.star=x7 at *;generalize t'.star=y7 at *
 by_cases h0:x0=y0
 case neg=>
  go_enter Tryz.func36,Tryz.ntmps36;go_wp2;go_ret;exact⟨ret_bool (by rw[HI.out];simp[*]),((fR w).alloc _).alloc _⟩
 subst h0
 by_cases h1:x1=y1
 case neg=>
  go_enter Tryz.func36,Tryz.ntmps36;go_wp2;go_ret;exact⟨ret_bool (by rw[HI.out];simp[*]),((fR w).alloc _).alloc _⟩
 subst h1
 by_cases h2:x2=y2
 case neg=>
  go_enter Tryz.func36,Tryz.ntmps36;go_wp2;go_ret;exact⟨ret_bool (by rw[HI.out];simp[*]),((fR w).alloc _).alloc _⟩
 subst h2
 by_cases h3:x3=y3
 case neg=>
  have hq:¬x3.toList=y3.toList:=λe=>h3 (toList_inj.1 e)
  go_enter Tryz.func36,Tryz.ntmps36;go_wp2;go_ret;exact⟨ret_bool (by rw[HI.out];simp[*]),((fR w).alloc _).alloc _⟩
 subst h3
 by_cases h4:x4=y4
 case neg=>
  have hq:¬x4.toList=y4.toList:=λe=>h4 (toList_inj.1 e)
  go_enter Tryz.func36,Tryz.ntmps36;go_wp2;go_ret;exact⟨ret_bool (by rw[HI.out];simp[*]),((fR w).alloc _).alloc _⟩
 subst h4
 by_cases h5:x5=y5
 case neg=>
  have hq:¬x5.toList=y5.toList:=λe=>h5 (toList_inj.1 e)
  go_enter Tryz.func36,Tryz.ntmps36;go_wp2;go_ret;exact⟨ret_bool (by rw[HI.out];simp[*]),((fR w).alloc _).alloc _⟩
 subst h5
 by_cases h6:x6=y6
 case neg=>
  go_enter Tryz.func36,Tryz.ntmps36;go_wp2;go_ret;exact⟨ret_bool (by rw[HI.out];simp[*]),((fR w).alloc _).alloc _⟩
 subst h6
 by_cases h7:x7=y7
 case neg=>
  go_enter Tryz.func36,Tryz.ntmps36;go_wp2;go_ret;exact⟨ret_bool (by rw[HI.out];simp[*]),((fR w).alloc _).alloc _⟩
 subst h7;have K2:=h_ (K.out ((w.alloc (.cells #[.int .i64 x0,.int .i64 x1,.int .i64 x2,.string x3,.string x4,.string x5,.bool x6,.bool x7,.slice v.1 n1 v.2] 82)).alloc (.cells #[.int .i64 x0,.int .i64 x1,.int .i64 x2,.string x3,.string x4,.string x5,.bool x6,.bool x7,.slice v'.1 n2 v'.2] 82)) (((fR w).alloc _).alloc _));go_enter Tryz.func36,Tryz.ntmps36;go_wp2_with (go_at_call 81;refine K2.out.mono ?_;rintro r w2 ⟨rfl,hf2⟩;have HF2:=h_ hf2;clear hf2);go_ret;exact⟨ret_bool (by rw[HI.out];simp[*]),HF2.out⟩
theorem RS6{w wc:World}{b1 b2:Nat}{fo fe it se fo' fe' it' se':Sl}{ts ts':List (Sl×Itm)}{x y:St}{G G':Nat→Prop}(h:StIn w G fo fe it se ts x)(h':StIn w G' fo' fe' it' se' ts' y)(hs:StSmall x)(hs':StSmall y)(hl:x.fols.length=y.fols.length∧x.fees.length=y.fees.length∧x.itms.length=y.itms.length∧x.seas.length=y.seas.length)(hF:Frm Nix w wc)(hb:Blk wc b1 36 #[.int .i64 x.clock,.slice fo.1 x.fols.length fo.2,.slice fe.1 x.fees.length fe.2,.slice it.1 x.itms.length it.2,.slice se.1 x.seas.length se.2,.int .i64 x.tFol,.int .i64 x.tFee,.int .i64 x.tItm,.int .i64 x.tSea])(hb':Blk wc b2 36 #[.int .i64 y.clock,.slice fo'.1 y.fols.length fo'.2,.slice fe'.1 y.fees.length fe'.2,.slice it'.1 y.itms.length it'.2,.slice se'.1 y.seas.length se'.2,.int .i64 y.tFol,.int .i64 y.tFee,.int .i64 y.tItm,.int .i64 y.tSea])(e1:x.fols=y.fols)(e2:x.fees=y.fees)(e3:x.itms=y.itms)(e4:x.seas=y.seas){u0 u1 u4 u5 u6 u7 u8 u9 u10 u11 u12 u13 u14 u15 u16 u17 u18 u19 u20 u21 u22 u23 u24 u25 u26 u27 u28 u29 u30 u31 u32 u33 u34 u35 u36 u37 u38 u39 u40 u41 u42 u43 u44 u45 u46 u47 u48 u49 u50 u51 u52 u53 u54 u55 u56 u57 u58 u59 u60 u61 u62 u63 u64 u65 u66 u67 u68 u69 u70 u71 u72 u73 u74 u75 u76 u77 u78 u79 u80 u81 u82 u83 u84 u85 u86 u87 u88 u89 u90 u91 u92 u93 u94 u95 u96 u97 u98 u99 u100 u101 u102 u103 u104 u105 u106 u107 u108 u109 u110 u111 u112 u113 u114 u115 u116 u117 u118 u119 u120 u121 u122 u123 u124 u125 u126 u127 u128 u129 u130 u131 u132 u133 u134 u135 u136 u137 u138 u139 u140 u141 u142 u143 u144 u145 u146 u147 u148:Value}:
  Code.wp Tryz.prog (peel 6 (bodyOf Tryz.f16)) (bodyPost Tryz.prog Tryz.f16 λe w'=>e=.returned (.bool (decide (x=y)))∧Frm Nix w w') ⟨#[u0,u1,.pointer (some ⟨b1,0,none⟩),.pointer (some ⟨b2,0,none⟩),u4,u5,u6,u7,u8,u9,u10,u11,u12,u13,u14,u15,u16,u17,u18,u19,u20,u21,u22,u23,u24,u25,u26,u27,u28,u29,u30,u31,u32,u33,u34,u35,u36,u37,u38,u39,u40,u41,u42,u43,u44,u45,u46,u47,u48,u49,u50,u51,u52,u53,u54,u55,u56,u57,u58,u59,u60,u61,u62,u63,u64,u65,u66,u67,u68,u69,u70,u71,u72,u73,u74,u75,u76,u77,u78,u79,u80,u81,u82,u83,u84,u85,u86,u87,u88,u89,u90,u91,u92,u93,u94,u95,u96,u97,u98,u99,u100,u101,u102,u103,u104,u105,u106,u107,u108,u109,u110,u111,u112,u113,u114,u115,u116,u117,u118,u119,u120,u121,u122,u123,u124,u125,u126,u127,u128,u129,u130,u131,u132,u133,u134,u135,u136,u137,u138,u139,u140,u141,u142,u143,u144,u145,u146,u147,u148],[]⟩ wc:=by
 obtain⟨x0,x1,x2,x3,x4,x5,x6,x7,x8⟩:=blk9 hb;obtain⟨y0,y1,y2,y3,y4,y5,y6,y7,y8⟩:=blk9 hb'
 have HI:Hid (decide (x=y)=(decide (x.clock=y.clock)&&(decide (x.tFol=y.tFol)&&(decide (x.tFee=y.tFee)&&(decide (x.tItm=y.tItm)&&decide (x.tSea=y.tSea)))))):=by
  unfold Hid;rw[st_iff,e1,e2,e3,e4];simp
 have HF:=h_ hF;clear h h' hs hs' hl hF hb hb' e1 e2 e3 e4 x1 x2 x3 x4 y1 y2 y3 y4;generalize decide (x=y)=bx at *;generalize x.clock=i0 at *;generalize y.clock=j0 at *;generalize x.tFol=i1 at *;generalize y.tFol=j1 at *;generalize x.tFee=i2 at *;generalize y.tFee=j2 at *;generalize x.tItm=i3 at *;generalize y.tItm=j3 at *;generalize x.tSea=i4 at *;generalize y.tSea=j4 at *;simp only[peel,bodyOf,Tryz.f16]
 by_cases h0:i0=j0
 case neg=>
  go_wp2;go_ret;exact⟨ret_bool (by rw[HI.out];simp[*]),HF.out⟩
 subst h0
 by_cases h1:i1=j1
 case neg=>
  go_wp2;go_ret;exact⟨ret_bool (by rw[HI.out];simp[*]),HF.out⟩
 subst h1
 by_cases h2:i2=j2
 case neg=>
  go_wp2;go_ret;exact⟨ret_bool (by rw[HI.out];simp[*]),HF.out⟩
 subst h2
 by_cases h3:i3=j3
 case neg=>
  go_wp2;go_ret;exact⟨ret_bool (by rw[HI.out];simp[*]),HF.out⟩
 subst h3
 by_cases h4:i4=j4
 case neg=>
  go_wp2;go_ret;exact⟨ret_bool (by rw[HI.out];simp[*]),HF.out⟩
 subst h4;go_wp2;go_ret;exact⟨ret_bool (by rw[HI.out];simp),HF.out⟩
theorem RS5{w wc:World}{b1 b2:Nat}{fo fe it se fo' fe' it' se':Sl}{ts ts':List (Sl×Itm)}{x y:St}{G G':Nat→Prop}(h:StIn w G fo fe it se ts x)(h':StIn w G' fo' fe' it' se' ts' y)(hs:StSmall x)(hs':StSmall y)(hl:x.fols.length=y.fols.length∧x.fees.length=y.fees.length∧x.itms.length=y.itms.length∧x.seas.length=y.seas.length)(hF:Frm Nix w wc)(hb:Blk wc b1 36 #[.int .i64 x.clock,.slice fo.1 x.fols.length fo.2,.slice fe.1 x.fees.length fe.2,.slice it.1 x.itms.length it.2,.slice se.1 x.seas.length se.2,.int .i64 x.tFol,.int .i64 x.tFee,.int .i64 x.tItm,.int .i64 x.tSea])(hb':Blk wc b2 36 #[.int .i64 y.clock,.slice fo'.1 y.fols.length fo'.2,.slice fe'.1 y.fees.length fe'.2,.slice it'.1 y.itms.length it'.2,.slice se'.1 y.seas.length se'.2,.int .i64 y.tFol,.int .i64 y.tFee,.int .i64 y.tItm,.int .i64 y.tSea])(e1:x.fols=y.fols)(e2:x.fees=y.fees)(e3:x.itms=y.itms){u0 u1 u4 u5 u6 u7 u8 u9 u10 u11 u12 u13 u14 u15 u16 u17 u18 u19 u20 u21 u22 u23 u24 u25 u26 u27 u28 u29 u30 u31 u32 u33 u34 u35 u36 u37 u38 u39 u40 u41 u42 u43 u44 u45 u46 u47 u48 u49 u50 u51 u52 u53 u54 u55 u56 u57 u58 u59 u60 u61 u62 u63 u64 u65 u66 u67 u68 u69 u70 u71 u72 u73 u74 u75 u76 u77 u78 u79 u80 u81 u82 u83 u84 u85 u86 u87 u88 u89 u90 u91 u92 u93 u94 u95 u96 u97 u98 u99 u100 u101 u102 u103 u104 u105 u106 u107 u108 u109 u110 u111 u112 u113 u114 u115 u116 u117 u118 u119 u120 u121 u122 u123 u124 u125 u126 u127 u128 u129 u130 u131 u132 u133 u134 u135 u136 u137 u138 u139 u140 u141 u142 u143 u144 u145 u146 u147 u148:Value}:
  Code.wp Tryz.prog (peel 5 (bodyOf Tryz.f16)) (bodyPost Tryz.prog Tryz.f16 λe w'=>e=.returned (.bool (decide (x=y)))∧Frm Nix w w') ⟨#[u0,u1,.pointer (some ⟨b1,0,none⟩),.pointer (some ⟨b2,0,none⟩),u4,u5,u6,u7,u8,u9,u10,u11,u12,u13,u14,u15,u16,u17,u18,u19,u20,u21,u22,u23,u24,u25,u26,u27,u28,u29,u30,u31,u32,u33,u34,u35,u36,u37,u38,u39,u40,u41,u42,u43,u44,u45,u46,u47,u48,u49,u50,u51,u52,u53,u54,u55,u56,u57,u58,u59,u60,u61,u62,u63,u64,u65,u66,u67,u68,u69,u70,u71,u72,u73,u74,u75,u76,u77,u78,u79,u80,u81,u82,u83,u84,u85,u86,u87,u88,u89,u90,u91,u92,u93,u94,u95,u96,u97,u98,u99,u100,u101,u102,u103,u104,u105,u106,u107,u108,u109,u110,u111,u112,u113,u114,u115,u116,u117,u118,u119,u120,u121,u122,u123,u124,u125,u126,u127,u128,u129,u130,u131,u132,u133,u134,u135,u136,u137,u138,u139,u140,u141,u142,u143,u144,u145,u146,u147,u148],[]⟩ wc:=by
 obtain⟨x0,x1,x2,x3,x4,x5,x6,x7,x8⟩:=blk9 hb;obtain⟨y0,y1,y2,y3,y4,y5,y6,y7,y8⟩:=blk9 hb';have HH:=h_ (And.intro h h');have HSm:=h_ (And.intro hs hs');have HLn:=h_ hl;have HF:=h_ hF;have HB:=h_ (And.intro hb hb');have hcap:=hs.seas;have hleq:=hl.2.2.2;obtain⟨A,c⟩:=se;obtain⟨A',c'⟩:=se';dsimp only at x1 x2 x3 x4 y1 y2 y3 y4;clear h h' hs hs' hl hF hb hb';have ek:peel 5 (bodyOf Tryz.f16)=.seq (hdC (peel 5 (bodyOf Tryz.f16))) (peel 6 (bodyOf Tryz.f16)):=by kernel_rfl
 rw[ek];clear ek;refine wp_seq_k λK hK=>?_
 conv in hdC _=>whnf
 go_wp2
 go_loopw [8] (λkv wr=>∃k:Nat,k≤x.seas.length∧kv=.int .i64 k∧x.seas.take k=y.seas.take k∧Frm Nix wc wr) (λkv _=>x.seas.length - (intOf kv).toNat)
 case atStart=>exact⟨0,by omega,rfl,by simp,Frm.refl _ _⟩
 case round=>
  obtain⟨k,hk,rfl,ht,hf⟩:=hrel;have HT:=h_ ht;have HFr:=h_ hf;have hbx:=HB.out.1.frm hf id;have hby:=HB.out.2.frm hf id;have xx:=hbx.cell 4;have yy:=hby.cell 4;simp at xx yy;clear ht hf hbx hby
  by_cases hlt:k<x.seas.length
  ·have hkl':k<y.seas.length:=by rw[←hleq];exact hlt
   obtain⟨b,off,hA,-,hbl,hcell⟩:=(HH.out.1.seas.nix (HF.out.trans HFr.out)).at_ Sea.clen (by decide) (by omega);obtain⟨b',off',hA',-,hbl',hcell'⟩:=(HH.out.2.seas.nix (HF.out.trans HFr.out)).at_ Sea.clen (by decide) (by omega);dsimp only at hA hA';subst hA;subst hA';have hc1:=hcell k hlt;have hc2:=hcell' k hkl';have HNe:=h_ (take_ne hlt hkl');have HEq:=h_ (take_eq hlt hkl' HT.out);obtain⟨p,hp⟩:∃p,x.seas[k]=p:=⟨_,rfl⟩;obtain⟨q,hq⟩:∃q,y.seas[k]=q:=⟨_,rfl⟩;rw[hp] at hc1 HNe HEq;rw[hq] at hc2 HNe HEq;obtain⟨p0,p1,p2⟩:=Seacs (w:=wr) (b:=b) (off:=off+k * 3) (e:=p) hc1;obtain⟨q0,q1,q2⟩:=Seacs (w:=wr) (b:=b') (off:=off'+k * 3) (e:=q) hc2;have hq:=λW=>neqSea_run p q W
   have hg:Tryz.prog.eqGuardType Tryz.prog.depth 84=false:=by kernel_rfl
   unfold seaV at hq;clear hcell hcell' hc1 hc2 hp
   by_cases he:p=q
   ·rw[decide_eq_true he] at hq
    have HE:=h_ (HEq.out he);clear he;go_wp2;go_quiet (fail);go_wp2;go_roundw
    case rel=>exact⟨k+1,by omega,by go_num,HE.out,HFr.out.drewN _⟩
    case measure=>simp[intOf];omega
   ·rw[decide_eq_false he] at hq
    have HE:Hid (x≠y):=λe=>HNe.out he (by rw[e])
    clear he;go_wp2;go_quiet (fail);go_wp2;go_ret;exact⟨ret_bool (decide_eq_false HE.out).symm,HF.out.trans (HFr.out.drewN _)⟩
  ·obtain rfl:k=x.seas.length:=by omega
   have HE:Hid (x.seas=y.seas):=by
    have:=HT.out;rw[List.take_length,hleq,List.take_length] at this;exact this
   go_wp2;exact RS6 HH.out.1 HH.out.2 HSm.out.1 HSm.out.2 HLn.out (HF.out.trans HFr.out) (HB.out.1.frm HFr.out id) (HB.out.2.frm HFr.out id) e1 e2 e3 HE.out
theorem RS4{w wc:World}{b1 b2:Nat}{fo fe it se fo' fe' it' se':Sl}{ts ts':List (Sl×Itm)}{x y:St}{G G':Nat→Prop}(h:StIn w G fo fe it se ts x)(h':StIn w G' fo' fe' it' se' ts' y)(hs:StSmall x)(hs':StSmall y)(hl:x.fols.length=y.fols.length∧x.fees.length=y.fees.length∧x.itms.length=y.itms.length∧x.seas.length=y.seas.length)(hF:Frm Nix w wc)(hb:Blk wc b1 36 #[.int .i64 x.clock,.slice fo.1 x.fols.length fo.2,.slice fe.1 x.fees.length fe.2,.slice it.1 x.itms.length it.2,.slice se.1 x.seas.length se.2,.int .i64 x.tFol,.int .i64 x.tFee,.int .i64 x.tItm,.int .i64 x.tSea])(hb':Blk wc b2 36 #[.int .i64 y.clock,.slice fo'.1 y.fols.length fo'.2,.slice fe'.1 y.fees.length fe'.2,.slice it'.1 y.itms.length it'.2,.slice se'.1 y.seas.length se'.2,.int .i64 y.tFol,.int .i64 y.tFee,.int .i64 y.tItm,.int .i64 y.tSea])(e1:x.fols=y.fols)(e2:x.fees=y.fees){u0 u1 u4 u5 u6 u7 u8 u9 u10 u11 u12 u13 u14 u15 u16 u17 u18 u19 u20 u21 u22 u23 u24 u25 u26 u27 u28 u29 u30 u31 u32 u33 u34 u35 u36 u37 u38 u39 u40 u41 u42 u43 u44 u45 u46 u47 u48 u49 u50 u51 u52 u53 u54 u55 u56 u57 u58 u59 u60 u61 u62 u63 u64 u65 u66 u67 u68 u69 u70 u71 u72 u73 u74 u75 u76 u77 u78 u79 u80 u81 u82 u83 u84 u85 u86 u87 u88 u89 u90 u91 u92 u93 u94 u95 u96 u97 u98 u99 u100 u101 u102 u103 u104 u105 u106 u107 u108 u109 u110 u111 u112 u113 u114 u115 u116 u117 u118 u119 u120 u121 u122 u123 u124 u125 u126 u127 u128 u129 u130 u131 u132 u133 u134 u135 u136 u137 u138 u139 u140 u141 u142 u143 u144 u145 u146 u147 u148:Value}:
  Code.wp Tryz.prog (peel 4 (bodyOf Tryz.f16)) (bodyPost Tryz.prog Tryz.f16 λe w'=>e=.returned (.bool (decide (x=y)))∧Frm Nix w w') ⟨#[u0,u1,.pointer (some ⟨b1,0,none⟩),.pointer (some ⟨b2,0,none⟩),u4,u5,u6,u7,u8,u9,u10,u11,u12,u13,u14,u15,u16,u17,u18,u19,u20,u21,u22,u23,u24,u25,u26,u27,u28,u29,u30,u31,u32,u33,u34,u35,u36,u37,u38,u39,u40,u41,u42,u43,u44,u45,u46,u47,u48,u49,u50,u51,u52,u53,u54,u55,u56,u57,u58,u59,u60,u61,u62,u63,u64,u65,u66,u67,u68,u69,u70,u71,u72,u73,u74,u75,u76,u77,u78,u79,u80,u81,u82,u83,u84,u85,u86,u87,u88,u89,u90,u91,u92,u93,u94,u95,u96,u97,u98,u99,u100,u101,u102,u103,u104,u105,u106,u107,u108,u109,u110,u111,u112,u113,u114,u115,u116,u117,u118,u119,u120,u121,u122,u123,u124,u125,u126,u127,u128,u129,u130,u131,u132,u133,u134,u135,u136,u137,u138,u139,u140,u141,u142,u143,u144,u145,u146,u147,u148],[]⟩ wc:=by
 obtain⟨x0,x1,x2,x3,x4,x5,x6,x7,x8⟩:=blk9 hb;obtain⟨y0,y1,y2,y3,y4,y5,y6,y7,y8⟩:=blk9 hb';have HH:=h_ (And.intro h h');have HSm:=h_ (And.intro hs hs');have HLn:=h_ hl;have HF:=h_ hF;have HB:=h_ (And.intro hb hb');have hcap:=hs.itms;have hleq:=hl.2.2.1;obtain⟨A,c⟩:=it;obtain⟨A',c'⟩:=it';dsimp only at x1 x2 x3 x4 y1 y2 y3 y4;clear h h' hs hs' hl hF hb hb';have ek:peel 4 (bodyOf Tryz.f16)=.seq (hdC (peel 4 (bodyOf Tryz.f16))) (peel 5 (bodyOf Tryz.f16)):=by kernel_rfl
 rw[ek];clear ek;refine wp_seq_k λK hK=>?_
 conv in hdC _=>whnf
 go_wp2
 go_loopw [7] (λkv wr=>∃k:Nat,k≤x.itms.length∧kv=.int .i64 k∧(ts.take k).map (·.2)=(ts'.take k).map (·.2)∧Frm Nix wc wr) (λkv _=>x.itms.length - (intOf kv).toNat)
 case atStart=>exact⟨0,by omega,rfl,by simp,Frm.refl _ _⟩
 case round=>
  obtain⟨k,hk,rfl,ht,hf⟩:=hrel;have HT:=h_ ht;have HFr:=h_ hf;have hbx:=HB.out.1.frm hf id;have hby:=HB.out.2.frm hf id;have xx:=hbx.cell 3;have yy:=hby.cell 3;simp at xx yy;clear ht hf hbx hby;have hl1:=HH.out.1.len;have hl2:=HH.out.2.len
  by_cases hlt:k<x.itms.length
  ·have hkl:k<ts.length:=by omega
   have hkl':k<ts'.length:=by omega
   obtain⟨b,off,hA,-,hbl,hcell⟩:=(HH.out.1.itms.row.nix (HF.out.trans HFr.out)).at_ itmC_len (by decide) (by omega);obtain⟨b',off',hA',-,hbl',hcell'⟩:=(HH.out.2.itms.row.nix (HF.out.trans HFr.out)).at_ itmC_len (by decide) (by omega);dsimp only at hA hA';subst hA;subst hA';obtain⟨p,hp,hc1,ht1,hn1⟩:∃p:Sl×Itm,ts[k]'hkl=p∧(∀(j:Nat) (u:Value),(itmC p)[j]? =some u→wr.cell? ⟨b,off+k * 9+j,none⟩=some u)∧SlIn w G 1 p.1 p.2.tags.length (p.2.tags.map Value.string)∧p.2.tags.length≤1000:=⟨ts[k]'hkl,rfl,hcell k hkl,HH.out.1.itms.tags _ (List.getElem_mem hkl),HSm.out.1.tags _ (by rw[←HH.out.1.same];exact List.mem_map_of_mem (List.getElem_mem hkl))⟩;obtain⟨q,hq,hc2,ht2,hn2⟩:∃q:Sl×Itm,ts'[k]'hkl'=q∧(∀(j:Nat) (u:Value),(itmC q)[j]? =some u→wr.cell? ⟨b',off'+k * 9+j,none⟩=some u)∧SlIn w G' 1 q.1 q.2.tags.length (q.2.tags.map Value.string)∧q.2.tags.length≤1000:=⟨ts'[k]'hkl',rfl,hcell' k hkl',HH.out.2.itms.tags _ (List.getElem_mem hkl'),HSm.out.2.tags _ (by rw[←HH.out.2.same];exact List.mem_map_of_mem (List.getElem_mem hkl'))⟩;have HNe:Hid (p.2≠q.2→ts.map (·.2)≠ts'.map (·.2)):=λhne=>snd_ne hkl hkl' (by rw[hp,hq];exact hne)
   have HEq:Hid (p.2=q.2→(ts.take (k+1)).map (·.2)=(ts'.take (k+1)).map (·.2)):=λhe=>snd_eq hkl hkl' HT.out (by rw[hp,hq];exact he)
   have HMk:Hid (∀W,Frm Nix wr W→(λW=>Frm Nix wr W∧W.cell? ⟨b1,3,none⟩=some (.slice (some ⟨b,off,none⟩) x.itms.length c)∧W.cell? ⟨b2,3,none⟩=some (.slice (some ⟨b',off',none⟩) y.itms.length c')∧(W.cell? ⟨b,off+k * 9,none⟩=some (.int .i64 p.2.id)∧W.cell? ⟨b,off+k * 9+1,none⟩=some (.int .i64 p.2.feed)∧W.cell? ⟨b,off+k * 9+2,none⟩=some (.int .i64 p.2.date)∧W.cell? ⟨b,off+k * 9+3,none⟩=some (.string p.2.guid)∧W.cell? ⟨b,off+k * 9+4,none⟩=some (.string p.2.title)∧W.cell? ⟨b,off+k * 9+5,none⟩=some (.string p.2.link)∧W.cell? ⟨b,off+k * 9+6,none⟩=some (.bool p.2.read)∧W.cell? ⟨b,off+k * 9+7,none⟩=some (.bool p.2.star)∧W.cell? ⟨b,off+k * 9+8,none⟩=some (.slice p.1.1 p.2.tags.length p.1.2))∧W.cell? ⟨b',off'+k * 9,none⟩=some (.int .i64 q.2.id)∧W.cell? ⟨b',off'+k * 9+1,none⟩=some (.int .i64 q.2.feed)∧W.cell? ⟨b',off'+k * 9+2,none⟩=some (.int .i64 q.2.date)∧W.cell? ⟨b',off'+k * 9+3,none⟩=some (.string q.2.guid)∧W.cell? ⟨b',off'+k * 9+4,none⟩=some (.string q.2.title)∧W.cell? ⟨b',off'+k * 9+5,none⟩=some (.string q.2.link)∧W.cell? ⟨b',off'+k * 9+6,none⟩=some (.bool q.2.read)∧W.cell? ⟨b',off'+k * 9+7,none⟩=some (.bool q.2.star)∧W.cell? ⟨b',off'+k * 9+8,none⟩=some (.slice q.1.1 q.2.tags.length q.1.2)) W):=λW hW=>⟨hW,by rw[hW.cell (p:=⟨b1,3,none⟩) (HB.out.1.frm HFr.out id).lt id];exact xx,by rw[hW.cell (p:=⟨b2,3,none⟩) (HB.out.2.frm HFr.out id).lt id];exact yy,itmcs (λj u hu=>(hW.cell (p:=⟨b,off+k * 9+j,none⟩) hbl id).trans (hc1 j u hu)),itmcs (λj u hu=>(hW.cell (p:=⟨b',off'+k * 9+j,none⟩) hbl' id).trans (hc2 j u hu))⟩
   have K:Hid (∀W,Frm Nix wr W→Calls Tryz.prog 36 #[.agg #[.int .i64 p.2.id,.int .i64 p.2.feed,.int .i64 p.2.date,.string p.2.guid,.string p.2.title,.string p.2.link,.bool p.2.read,.bool p.2.star,.slice p.1.1 p.2.tags.length p.1.2],.agg #[.int .i64 q.2.id,.int .i64 q.2.feed,.int .i64 q.2.date,.string q.2.guid,.string q.2.title,.string q.2.link,.bool q.2.read,.bool q.2.star,.slice q.1.1 q.2.tags.length q.1.2]] W λe w'=>e=.returned (.bool (decide (p.2=q.2)))∧Frm Nix wr w'):=λW hW=>
    (rSameItem_any p.2 q.2 (ht1.nix ((HF.out.trans HFr.out).trans hW)) (ht2.nix ((HF.out.trans HFr.out).trans hW)) (by omega) (by omega)).mono λe w' r=>⟨r.1,hW.trans r.2⟩
   clear hcell hcell' hc1 hc2 ht1 ht2 hp hq
   by_cases he:p.2=q.2
   ·rw[decide_eq_true he] at K
    have HE:=h_ (HEq.out he);clear he;go_wp2
    go_region_held3 (λW=>Frm Nix wr W∧W.cell? ⟨b1,3,none⟩=some (.slice (some ⟨b,off,none⟩) x.itms.length c)∧W.cell? ⟨b2,3,none⟩=some (.slice (some ⟨b',off',none⟩) y.itms.length c')∧(W.cell? ⟨b,off+k * 9,none⟩=some (.int .i64 p.2.id)∧W.cell? ⟨b,off+k * 9+1,none⟩=some (.int .i64 p.2.feed)∧W.cell? ⟨b,off+k * 9+2,none⟩=some (.int .i64 p.2.date)∧W.cell? ⟨b,off+k * 9+3,none⟩=some (.string p.2.guid)∧W.cell? ⟨b,off+k * 9+4,none⟩=some (.string p.2.title)∧W.cell? ⟨b,off+k * 9+5,none⟩=some (.string p.2.link)∧W.cell? ⟨b,off+k * 9+6,none⟩=some (.bool p.2.read)∧W.cell? ⟨b,off+k * 9+7,none⟩=some (.bool p.2.star)∧W.cell? ⟨b,off+k * 9+8,none⟩=some (.slice p.1.1 p.2.tags.length p.1.2))∧W.cell? ⟨b',off'+k * 9,none⟩=some (.int .i64 q.2.id)∧W.cell? ⟨b',off'+k * 9+1,none⟩=some (.int .i64 q.2.feed)∧W.cell? ⟨b',off'+k * 9+2,none⟩=some (.int .i64 q.2.date)∧W.cell? ⟨b',off'+k * 9+3,none⟩=some (.string q.2.guid)∧W.cell? ⟨b',off'+k * 9+4,none⟩=some (.string q.2.title)∧W.cell? ⟨b',off'+k * 9+5,none⟩=some (.string q.2.link)∧W.cell? ⟨b',off'+k * 9+6,none⟩=some (.bool q.2.read)∧W.cell? ⟨b',off'+k * 9+7,none⟩=some (.bool q.2.star)∧W.cell? ⟨b',off'+k * 9+8,none⟩=some (.slice q.1.1 q.2.tags.length q.1.2)) ((refine HMk.out _ ?_;repeat' (first | with_reducible exact Frm.refl _ _ | with_reducible apply Frm.drew | with_reducible exact hz))) (first | (go_at_call 36;refine(K.out _ (by repeat' (first | with_reducible exact Frm.refl _ _ | with_reducible apply Frm.drew))).mono ?_;rintro r w2 ⟨rfl,hz⟩;have HZ:=h_ hz))
    all_goals
     go_wp2;go_roundw
     case rel=>exact⟨k+1,by omega,by go_num,HE.out,HFr.out.trans HZ.out⟩
     case measure=>simp[intOf];omega
   ·rw[decide_eq_false he] at K
    have HE:Hid (x≠y):=λe=>HNe.out he (by rw[HH.out.1.same,HH.out.2.same,e])
    clear he;go_wp2
    go_region_held3 (λW=>Frm Nix wr W∧W.cell? ⟨b1,3,none⟩=some (.slice (some ⟨b,off,none⟩) x.itms.length c)∧W.cell? ⟨b2,3,none⟩=some (.slice (some ⟨b',off',none⟩) y.itms.length c')∧(W.cell? ⟨b,off+k * 9,none⟩=some (.int .i64 p.2.id)∧W.cell? ⟨b,off+k * 9+1,none⟩=some (.int .i64 p.2.feed)∧W.cell? ⟨b,off+k * 9+2,none⟩=some (.int .i64 p.2.date)∧W.cell? ⟨b,off+k * 9+3,none⟩=some (.string p.2.guid)∧W.cell? ⟨b,off+k * 9+4,none⟩=some (.string p.2.title)∧W.cell? ⟨b,off+k * 9+5,none⟩=some (.string p.2.link)∧W.cell? ⟨b,off+k * 9+6,none⟩=some (.bool p.2.read)∧W.cell? ⟨b,off+k * 9+7,none⟩=some (.bool p.2.star)∧W.cell? ⟨b,off+k * 9+8,none⟩=some (.slice p.1.1 p.2.tags.length p.1.2))∧W.cell? ⟨b',off'+k * 9,none⟩=some (.int .i64 q.2.id)∧W.cell? ⟨b',off'+k * 9+1,none⟩=some (.int .i64 q.2.feed)∧W.cell? ⟨b',off'+k * 9+2,none⟩=some (.int .i64 q.2.date)∧W.cell? ⟨b',off'+k * 9+3,none⟩=some (.string q.2.guid)∧W.cell? ⟨b',off'+k * 9+4,none⟩=some (.string q.2.title)∧W.cell? ⟨b',off'+k * 9+5,none⟩=some (.string q.2.link)∧W.cell? ⟨b',off'+k * 9+6,none⟩=some (.bool q.2.read)∧W.cell? ⟨b',off'+k * 9+7,none⟩=some (.bool q.2.star)∧W.cell? ⟨b',off'+k * 9+8,none⟩=some (.slice q.1.1 q.2.tags.length q.1.2)) ((refine HMk.out _ ?_;repeat' (first | with_reducible exact Frm.refl _ _ | with_reducible apply Frm.drew | with_reducible exact hz))) (first | (go_at_call 36;refine(K.out _ (by repeat' (first | with_reducible exact Frm.refl _ _ | with_reducible apply Frm.drew))).mono ?_;rintro r w2 ⟨rfl,hz⟩;have HZ:=h_ hz))
    all_goals
     go_wp2;go_ret;exact⟨ret_bool (decide_eq_false HE.out).symm,HF.out.trans (HFr.out.trans HZ.out)⟩
  ·obtain rfl:k=x.itms.length:=by omega
   have HE:Hid (x.itms=y.itms):=by
    have:=HT.out;rw[List.take_of_length_le (by omega),List.take_of_length_le (by omega),HH.out.1.same,HH.out.2.same] at this;exact this
   go_wp2;exact RS5 HH.out.1 HH.out.2 HSm.out.1 HSm.out.2 HLn.out (HF.out.trans HFr.out) (HB.out.1.frm HFr.out id) (HB.out.2.frm HFr.out id) e1 e2 HE.out
theorem RS3{w wc:World}{b1 b2:Nat}{fo fe it se fo' fe' it' se':Sl}{ts ts':List (Sl×Itm)}{x y:St}{G G':Nat→Prop}(h:StIn w G fo fe it se ts x)(h':StIn w G' fo' fe' it' se' ts' y)(hs:StSmall x)(hs':StSmall y)(hl:x.fols.length=y.fols.length∧x.fees.length=y.fees.length∧x.itms.length=y.itms.length∧x.seas.length=y.seas.length)(hF:Frm Nix w wc)(hb:Blk wc b1 36 #[.int .i64 x.clock,.slice fo.1 x.fols.length fo.2,.slice fe.1 x.fees.length fe.2,.slice it.1 x.itms.length it.2,.slice se.1 x.seas.length se.2,.int .i64 x.tFol,.int .i64 x.tFee,.int .i64 x.tItm,.int .i64 x.tSea])(hb':Blk wc b2 36 #[.int .i64 y.clock,.slice fo'.1 y.fols.length fo'.2,.slice fe'.1 y.fees.length fe'.2,.slice it'.1 y.itms.length it'.2,.slice se'.1 y.seas.length se'.2,.int .i64 y.tFol,.int .i64 y.tFee,.int .i64 y.tItm,.int .i64 y.tSea])(e1:x.fols=y.fols){u0 u1 u4 u5 u6 u7 u8 u9 u10 u11 u12 u13 u14 u15 u16 u17 u18 u19 u20 u21 u22 u23 u24 u25 u26 u27 u28 u29 u30 u31 u32 u33 u34 u35 u36 u37 u38 u39 u40 u41 u42 u43 u44 u45 u46 u47 u48 u49 u50 u51 u52 u53 u54 u55 u56 u57 u58 u59 u60 u61 u62 u63 u64 u65 u66 u67 u68 u69 u70 u71 u72 u73 u74 u75 u76 u77 u78 u79 u80 u81 u82 u83 u84 u85 u86 u87 u88 u89 u90 u91 u92 u93 u94 u95 u96 u97 u98 u99 u100 u101 u102 u103 u104 u105 u106 u107 u108 u109 u110 u111 u112 u113 u114 u115 u116 u117 u118 u119 u120 u121 u122 u123 u124 u125 u126 u127 u128 u129 u130 u131 u132 u133 u134 u135 u136 u137 u138 u139 u140 u141 u142 u143 u144 u145 u146 u147 u148:Value}:
  Code.wp Tryz.prog (peel 3 (bodyOf Tryz.f16)) (bodyPost Tryz.prog Tryz.f16 λe w'=>e=.returned (.bool (decide (x=y)))∧Frm Nix w w') ⟨#[u0,u1,.pointer (some ⟨b1,0,none⟩),.pointer (some ⟨b2,0,none⟩),u4,u5,u6,u7,u8,u9,u10,u11,u12,u13,u14,u15,u16,u17,u18,u19,u20,u21,u22,u23,u24,u25,u26,u27,u28,u29,u30,u31,u32,u33,u34,u35,u36,u37,u38,u39,u40,u41,u42,u43,u44,u45,u46,u47,u48,u49,u50,u51,u52,u53,u54,u55,u56,u57,u58,u59,u60,u61,u62,u63,u64,u65,u66,u67,u68,u69,u70,u71,u72,u73,u74,u75,u76,u77,u78,u79,u80,u81,u82,u83,u84,u85,u86,u87,u88,u89,u90,u91,u92,u93,u94,u95,u96,u97,u98,u99,u100,u101,u102,u103,u104,u105,u106,u107,u108,u109,u110,u111,u112,u113,u114,u115,u116,u117,u118,u119,u120,u121,u122,u123,u124,u125,u126,u127,u128,u129,u130,u131,u132,u133,u134,u135,u136,u137,u138,u139,u140,u141,u142,u143,u144,u145,u146,u147,u148],[]⟩ wc:=by
 obtain⟨x0,x1,x2,x3,x4,x5,x6,x7,x8⟩:=blk9 hb;obtain⟨y0,y1,y2,y3,y4,y5,y6,y7,y8⟩:=blk9 hb';have HH:=h_ (And.intro h h');have HSm:=h_ (And.intro hs hs');have HLn:=h_ hl;have HF:=h_ hF;have HB:=h_ (And.intro hb hb');have hcap:=hs.fees;have hleq:=hl.2.1;obtain⟨A,c⟩:=fe;obtain⟨A',c'⟩:=fe';dsimp only at x1 x2 x3 x4 y1 y2 y3 y4;clear h h' hs hs' hl hF hb hb';have ek:peel 3 (bodyOf Tryz.f16)=.seq (hdC (peel 3 (bodyOf Tryz.f16))) (peel 4 (bodyOf Tryz.f16)):=by kernel_rfl
 rw[ek];clear ek;refine wp_seq_k λK hK=>?_
 conv in hdC _=>whnf
 go_wp2
 go_loopw [6] (λkv wr=>∃k:Nat,k≤x.fees.length∧kv=.int .i64 k∧x.fees.take k=y.fees.take k∧Frm Nix wc wr) (λkv _=>x.fees.length - (intOf kv).toNat)
 case atStart=>exact⟨0,by omega,rfl,by simp,Frm.refl _ _⟩
 case round=>
  obtain⟨k,hk,rfl,ht,hf⟩:=hrel;have HT:=h_ ht;have HFr:=h_ hf;have hbx:=HB.out.1.frm hf id;have hby:=HB.out.2.frm hf id;have xx:=hbx.cell 2;have yy:=hby.cell 2;simp at xx yy;clear ht hf hbx hby
  by_cases hlt:k<x.fees.length
  ·have hkl':k<y.fees.length:=by rw[←hleq];exact hlt
   obtain⟨b,off,hA,-,hbl,hcell⟩:=(HH.out.1.fees.nix (HF.out.trans HFr.out)).at_ Fee.clen (by decide) (by omega);obtain⟨b',off',hA',-,hbl',hcell'⟩:=(HH.out.2.fees.nix (HF.out.trans HFr.out)).at_ Fee.clen (by decide) (by omega);dsimp only at hA hA';subst hA;subst hA';have hc1:=hcell k hlt;have hc2:=hcell' k hkl';have HNe:=h_ (take_ne hlt hkl');have HEq:=h_ (take_eq hlt hkl' HT.out);obtain⟨p,hp⟩:∃p,x.fees[k]=p:=⟨_,rfl⟩;obtain⟨q,hq⟩:∃q,y.fees[k]=q:=⟨_,rfl⟩;rw[hp] at hc1 HNe HEq;rw[hq] at hc2 HNe HEq;obtain⟨p0,p1,p2,p3⟩:=Feecs (w:=wr) (b:=b) (off:=off+k * 4) (e:=p) hc1;obtain⟨q0,q1,q2,q3⟩:=Feecs (w:=wr) (b:=b') (off:=off'+k * 4) (e:=q) hc2;have hq:=λW=>neqFee_run p q W
   have hg:Tryz.prog.eqGuardType Tryz.prog.depth 64=false:=by kernel_rfl
   unfold feeV at hq;clear hcell hcell' hc1 hc2 hp
   by_cases he:p=q
   ·rw[decide_eq_true he] at hq
    have HE:=h_ (HEq.out he);clear he;go_wp2;go_quiet (fail);go_wp2;go_roundw
    case rel=>exact⟨k+1,by omega,by go_num,HE.out,HFr.out.drewN _⟩
    case measure=>simp[intOf];omega
   ·rw[decide_eq_false he] at hq
    have HE:Hid (x≠y):=λe=>HNe.out he (by rw[e])
    clear he;go_wp2;go_quiet (fail);go_wp2;go_ret;exact⟨ret_bool (decide_eq_false HE.out).symm,HF.out.trans (HFr.out.drewN _)⟩
  ·obtain rfl:k=x.fees.length:=by omega
   have HE:Hid (x.fees=y.fees):=by
    have:=HT.out;rw[List.take_length,hleq,List.take_length] at this;exact this
   go_wp2;exact RS4 HH.out.1 HH.out.2 HSm.out.1 HSm.out.2 HLn.out (HF.out.trans HFr.out) (HB.out.1.frm HFr.out id) (HB.out.2.frm HFr.out id) e1 HE.out
theorem RS2{w wc:World}{b1 b2:Nat}{fo fe it se fo' fe' it' se':Sl}{ts ts':List (Sl×Itm)}{x y:St}{G G':Nat→Prop}(h:StIn w G fo fe it se ts x)(h':StIn w G' fo' fe' it' se' ts' y)(hs:StSmall x)(hs':StSmall y)(hl:x.fols.length=y.fols.length∧x.fees.length=y.fees.length∧x.itms.length=y.itms.length∧x.seas.length=y.seas.length)(hF:Frm Nix w wc)(hb:Blk wc b1 36 #[.int .i64 x.clock,.slice fo.1 x.fols.length fo.2,.slice fe.1 x.fees.length fe.2,.slice it.1 x.itms.length it.2,.slice se.1 x.seas.length se.2,.int .i64 x.tFol,.int .i64 x.tFee,.int .i64 x.tItm,.int .i64 x.tSea])(hb':Blk wc b2 36 #[.int .i64 y.clock,.slice fo'.1 y.fols.length fo'.2,.slice fe'.1 y.fees.length fe'.2,.slice it'.1 y.itms.length it'.2,.slice se'.1 y.seas.length se'.2,.int .i64 y.tFol,.int .i64 y.tFee,.int .i64 y.tItm,.int .i64 y.tSea]){u0 u1 u4 u5 u6 u7 u8 u9 u10 u11 u12 u13 u14 u15 u16 u17 u18 u19 u20 u21 u22 u23 u24 u25 u26 u27 u28 u29 u30 u31 u32 u33 u34 u35 u36 u37 u38 u39 u40 u41 u42 u43 u44 u45 u46 u47 u48 u49 u50 u51 u52 u53 u54 u55 u56 u57 u58 u59 u60 u61 u62 u63 u64 u65 u66 u67 u68 u69 u70 u71 u72 u73 u74 u75 u76 u77 u78 u79 u80 u81 u82 u83 u84 u85 u86 u87 u88 u89 u90 u91 u92 u93 u94 u95 u96 u97 u98 u99 u100 u101 u102 u103 u104 u105 u106 u107 u108 u109 u110 u111 u112 u113 u114 u115 u116 u117 u118 u119 u120 u121 u122 u123 u124 u125 u126 u127 u128 u129 u130 u131 u132 u133 u134 u135 u136 u137 u138 u139 u140 u141 u142 u143 u144 u145 u146 u147 u148:Value}:
  Code.wp Tryz.prog (peel 2 (bodyOf Tryz.f16)) (bodyPost Tryz.prog Tryz.f16 λe w'=>e=.returned (.bool (decide (x=y)))∧Frm Nix w w') ⟨#[u0,u1,.pointer (some ⟨b1,0,none⟩),.pointer (some ⟨b2,0,none⟩),u4,u5,u6,u7,u8,u9,u10,u11,u12,u13,u14,u15,u16,u17,u18,u19,u20,u21,u22,u23,u24,u25,u26,u27,u28,u29,u30,u31,u32,u33,u34,u35,u36,u37,u38,u39,u40,u41,u42,u43,u44,u45,u46,u47,u48,u49,u50,u51,u52,u53,u54,u55,u56,u57,u58,u59,u60,u61,u62,u63,u64,u65,u66,u67,u68,u69,u70,u71,u72,u73,u74,u75,u76,u77,u78,u79,u80,u81,u82,u83,u84,u85,u86,u87,u88,u89,u90,u91,u92,u93,u94,u95,u96,u97,u98,u99,u100,u101,u102,u103,u104,u105,u106,u107,u108,u109,u110,u111,u112,u113,u114,u115,u116,u117,u118,u119,u120,u121,u122,u123,u124,u125,u126,u127,u128,u129,u130,u131,u132,u133,u134,u135,u136,u137,u138,u139,u140,u141,u142,u143,u144,u145,u146,u147,u148],[]⟩ wc:=by
 obtain⟨x0,x1,x2,x3,x4,x5,x6,x7,x8⟩:=blk9 hb;obtain⟨y0,y1,y2,y3,y4,y5,y6,y7,y8⟩:=blk9 hb';have HH:=h_ (And.intro h h');have HSm:=h_ (And.intro hs hs');have HLn:=h_ hl;have HF:=h_ hF;have HB:=h_ (And.intro hb hb');have hcap:=hs.fols;have hleq:=hl.1;obtain⟨A,c⟩:=fo;obtain⟨A',c'⟩:=fo';dsimp only at x1 x2 x3 x4 y1 y2 y3 y4;clear h h' hs hs' hl hF hb hb';have ek:peel 2 (bodyOf Tryz.f16)=.seq (hdC (peel 2 (bodyOf Tryz.f16))) (peel 3 (bodyOf Tryz.f16)):=by kernel_rfl
 rw[ek];clear ek;refine wp_seq_k λK hK=>?_
 conv in hdC _=>whnf
 go_wp2
 go_loopw [5] (λkv wr=>∃k:Nat,k≤x.fols.length∧kv=.int .i64 k∧x.fols.take k=y.fols.take k∧Frm Nix wc wr) (λkv _=>x.fols.length - (intOf kv).toNat)
 case atStart=>exact⟨0,by omega,rfl,by simp,Frm.refl _ _⟩
 case round=>
  obtain⟨k,hk,rfl,ht,hf⟩:=hrel;have HT:=h_ ht;have HFr:=h_ hf;have hbx:=HB.out.1.frm hf id;have hby:=HB.out.2.frm hf id;have xx:=hbx.cell 1;have yy:=hby.cell 1;simp at xx yy;clear ht hf hbx hby
  by_cases hlt:k<x.fols.length
  ·have hkl':k<y.fols.length:=by rw[←hleq];exact hlt
   obtain⟨b,off,hA,-,hbl,hcell⟩:=(HH.out.1.fols.nix (HF.out.trans HFr.out)).at_ Fol.clen (by decide) (by omega);obtain⟨b',off',hA',-,hbl',hcell'⟩:=(HH.out.2.fols.nix (HF.out.trans HFr.out)).at_ Fol.clen (by decide) (by omega);dsimp only at hA hA';subst hA;subst hA';have hc1:=hcell k hlt;have hc2:=hcell' k hkl';have HNe:=h_ (take_ne hlt hkl');have HEq:=h_ (take_eq hlt hkl' HT.out);obtain⟨p,hp⟩:∃p,x.fols[k]=p:=⟨_,rfl⟩;obtain⟨q,hq⟩:∃q,y.fols[k]=q:=⟨_,rfl⟩;rw[hp] at hc1 HNe HEq;rw[hq] at hc2 HNe HEq;obtain⟨p0,p1,p2⟩:=Folcs (w:=wr) (b:=b) (off:=off+k * 3) (e:=p) hc1;obtain⟨q0,q1,q2⟩:=Folcs (w:=wr) (b:=b') (off:=off'+k * 3) (e:=q) hc2;have hq:=λW=>neqFol_run p q W
   have hg:Tryz.prog.eqGuardType Tryz.prog.depth 79=false:=by kernel_rfl
   unfold folV at hq;clear hcell hcell' hc1 hc2 hp
   by_cases he:p=q
   ·rw[decide_eq_true he] at hq
    have HE:=h_ (HEq.out he);clear he;go_wp2;go_quiet (fail);go_wp2;go_roundw
    case rel=>exact⟨k+1,by omega,by go_num,HE.out,HFr.out.drewN _⟩
    case measure=>simp[intOf];omega
   ·rw[decide_eq_false he] at hq
    have HE:Hid (x≠y):=λe=>HNe.out he (by rw[e])
    clear he;go_wp2;go_quiet (fail);go_wp2;go_ret;exact⟨ret_bool (decide_eq_false HE.out).symm,HF.out.trans (HFr.out.drewN _)⟩
  ·obtain rfl:k=x.fols.length:=by omega
   have HE:Hid (x.fols=y.fols):=by
    have:=HT.out;rw[List.take_length,hleq,List.take_length] at this;exact this
   go_wp2;exact RS3 HH.out.1 HH.out.2 HSm.out.1 HSm.out.2 HLn.out (HF.out.trans HFr.out) (HB.out.1.frm HFr.out id) (HB.out.2.frm HFr.out id) HE.out
theorem rStSame_any{w:World}{fo fe it se fo' fe' it' se':Sl}{ts ts':List (Sl×Itm)}{x y:St}{G G':Nat→Prop}(h:StIn w G fo fe it se ts x)(h':StIn w G' fo' fe' it' se' ts' y)(hs:StSmall x)(hs':StSmall y):
  Calls Tryz.prog 16 #[stV fo fe it se x,stV fo' fe' it' se' y] w λe w'=>e=.returned (.bool (decide (x=y)))∧Frm Nix w w':=by
 obtain⟨w0,hw0⟩:∃w0,w0=(w.alloc (.cells #[.int .i64 x.clock,.slice fo.1 x.fols.length fo.2,.slice fe.1 x.fees.length fe.2,.slice it.1 x.itms.length it.2,.slice se.1 x.seas.length se.2,.int .i64 x.tFol,.int .i64 x.tFee,.int .i64 x.tItm,.int .i64 x.tSea] 36)).alloc (.cells #[.int .i64 y.clock,.slice fo'.1 y.fols.length fo'.2,.slice fe'.1 y.fees.length fe'.2,.slice it'.1 y.itms.length it'.2,.slice se'.1 y.seas.length se'.2,.int .i64 y.tFol,.int .i64 y.tFee,.int .i64 y.tItm,.int .i64 y.tSea] 36):=⟨_,rfl⟩;have hf0:Frm Nix w w0:=by rw[hw0];exact((fR w).alloc _).alloc _
 have hb:Blk w0 w.heap.size 36 #[.int .i64 x.clock,.slice fo.1 x.fols.length fo.2,.slice fe.1 x.fees.length fe.2,.slice it.1 x.itms.length it.2,.slice se.1 x.seas.length se.2,.int .i64 x.tFol,.int .i64 x.tFee,.int .i64 x.tItm,.int .i64 x.tSea]:=by rw[hw0];exact(Blk.new w _ _).alloc _
 have hb':Blk w0 (w.heap.size+1) 36 #[.int .i64 y.clock,.slice fo'.1 y.fols.length fo'.2,.slice fe'.1 y.fees.length fe'.2,.slice it'.1 y.itms.length it'.2,.slice se'.1 y.seas.length se'.2,.int .i64 y.tFol,.int .i64 y.tFee,.int .i64 y.tItm,.int .i64 y.tSea]:=by
  have:=Blk.new (w.alloc (.cells #[.int .i64 x.clock,.slice fo.1 x.fols.length fo.2,.slice fe.1 x.fees.length fe.2,.slice it.1 x.itms.length it.2,.slice se.1 x.seas.length se.2,.int .i64 x.tFol,.int .i64 x.tFee,.int .i64 x.tItm,.int .i64 x.tSea] 36)) 36 #[.int .i64 y.clock,.slice fo'.1 y.fols.length fo'.2,.slice fe'.1 y.fees.length fe'.2,.slice it'.1 y.itms.length it'.2,.slice se'.1 y.seas.length se'.2,.int .i64 y.tFol,.int .i64 y.tFee,.int .i64 y.tItm,.int .i64 y.tSea];rw[show (w.alloc (.cells #[.int .i64 x.clock,.slice fo.1 x.fols.length fo.2,.slice fe.1 x.fees.length fe.2,.slice it.1 x.itms.length it.2,.slice se.1 x.seas.length se.2,.int .i64 x.tFol,.int .i64 x.tFee,.int .i64 x.tItm,.int .i64 x.tSea] 36)).heap.size=w.heap.size+1 by simp] at this;rw[hw0];exact this
 obtain⟨x0,x1,x2,x3,x4,x5,x6,x7,x8⟩:=blk9 hb;obtain⟨y0,y1,y2,y3,y4,y5,y6,y7,y8⟩:=blk9 hb';have HH:=h_ (And.intro h h');have HSm:=h_ (And.intro hs hs');have HF:=h_ hf0;have HB:=h_ (And.intro hb hb');have HW:=h_ hw0;have HS1:=h_ hs;clear h h' hs hs' hf0 hb hb' hw0;unfold stV;have HRS:Hid (∀hl:x.fols.length=y.fols.length∧x.fees.length=y.fees.length∧x.itms.length=y.itms.length∧x.seas.length=y.seas.length,True):=λ_=>trivial
 have HNo:Hid (¬(x.fols.length=y.fols.length∧x.fees.length=y.fees.length∧x.itms.length=y.itms.length∧x.seas.length=y.seas.length)→x≠y):=λhn e=>hn (by rw[e];exact⟨rfl,rfl,rfl,rfl⟩)
 by_cases hfols:x.fols.length=y.fols.length
 case neg=>
  have hn:¬((x.fols.length:Int)=(y.fols.length:Int)):=by omega
  have HE:=h_ (HNo.out (λq=>hfols (by first | exact q.1 | exact q.2.1 | exact q.2.2.1 | exact q.2.2.2)));go_enter Tryz.func16,Tryz.ntmps16;go_wp2;go_ret;exact⟨ret_bool (decide_eq_false HE.out).symm,((fR w).alloc _).alloc _⟩
 have ifols:(x.fols.length:Int)=(y.fols.length:Int):=by omega
 by_cases hfees:x.fees.length=y.fees.length
 case neg=>
  have hn:¬((x.fees.length:Int)=(y.fees.length:Int)):=by omega
  have HE:=h_ (HNo.out (λq=>hfees (by first | exact q.1 | exact q.2.1 | exact q.2.2.1 | exact q.2.2.2)));go_enter Tryz.func16,Tryz.ntmps16;go_wp2;go_ret;exact⟨ret_bool (decide_eq_false HE.out).symm,((fR w).alloc _).alloc _⟩
 have ifees:(x.fees.length:Int)=(y.fees.length:Int):=by omega
 by_cases hitms:x.itms.length=y.itms.length
 case neg=>
  have hn:¬((x.itms.length:Int)=(y.itms.length:Int)):=by omega
  have HE:=h_ (HNo.out (λq=>hitms (by first | exact q.1 | exact q.2.1 | exact q.2.2.1 | exact q.2.2.2)));go_enter Tryz.func16,Tryz.ntmps16;go_wp2;go_ret;exact⟨ret_bool (decide_eq_false HE.out).symm,((fR w).alloc _).alloc _⟩
 have iitms:(x.itms.length:Int)=(y.itms.length:Int):=by omega
 by_cases hseas:x.seas.length=y.seas.length
 case neg=>
  have hn:¬((x.seas.length:Int)=(y.seas.length:Int)):=by omega
  have HE:=h_ (HNo.out (λq=>hseas (by first | exact q.1 | exact q.2.1 | exact q.2.2.1 | exact q.2.2.2)));go_enter Tryz.func16,Tryz.ntmps16;go_wp2;go_ret;exact⟨ret_bool (decide_eq_false HE.out).symm,((fR w).alloc _).alloc _⟩
 have iseas:(x.seas.length:Int)=(y.seas.length:Int):=by omega
 have HLn:=h_ (And.intro hfols (And.intro hfees (And.intro hitms hseas)));clear hfols hfees hitms hseas;have HIn:=h_ (And.intro ifols (And.intro ifees (And.intro iitms iseas)));clear ifols ifees iitms iseas;go_enter Tryz.func16,Tryz.ntmps16;show Code.wp Tryz.prog (peel 0 (bodyOf Tryz.f16)) _ _ _
 have ek:peel 0 (bodyOf Tryz.f16)=.seq (hdC (peel 0 (bodyOf Tryz.f16))) (peel 1 (bodyOf Tryz.f16)):=by kernel_rfl
 rw[ek];clear ek;refine wp_seq_k λK hK=>?_
 conv in hdC _=>whnf
 go_wp2;rw[←HW.out];have ek:peel 1 (bodyOf Tryz.f16)=.seq (hdC (peel 1 (bodyOf Tryz.f16))) (peel 2 (bodyOf Tryz.f16)):=by kernel_rfl
 rw[ek];clear ek;refine wp_seq_k λK hK=>?_
 conv in hdC _=>whnf
 obtain⟨ifols,ifees,iitms,iseas⟩:=HIn.out;go_wp2;exact RS2 HH.out.1 HH.out.2 HSm.out.1 HSm.out.2 HLn.out HF.out HB.out.1 HB.out.2
end Go.Proofs.YtaecjmiobllhmaaGreat
