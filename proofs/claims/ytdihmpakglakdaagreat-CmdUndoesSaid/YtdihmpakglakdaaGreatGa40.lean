/-
  Contracts: cmd: ofTag, ofItem.
-/
import Derived.Test.YtdihmpakglakdaaGreatGa39
import Derived.Deep.RegionHeld3
set_option linter.unusedVariables false
set_option linter.unusedSimpArgs false
set_option maxRecDepth 100000
set_option maxHeartbeats 16000000
namespace Go.Proofs.YtdihmpakglakdaaGreat
open Go.RowKit Go.Lib
def tagP(x:St)(a n:Int)(s:ByteArray):List Ev×Int:=
 if tagS s=eS then ([],1) else if isI Itm.id a x.itms=false then ([],4) else if fits x ⟨10,a,0,n,tagS s,eS,eS⟩=false then ([],2) else one1 ⟨10,a,0,n,tagS s,eS,eS⟩ (!decide (((itmAt x a).tags.any fun y=>decide (y=tagS s))=decide (n=1)))
theorem itmAt_id{x:St}(h:StP x)(a:Int):(itmAt x a).id=if isI Itm.id a x.itms=true then a else 0:=by
 unfold itmAt;rw[← atI_isI]
 cases hq:atI Itm.id a x.itms with
 | none=>rfl
 | some t=>exact(atI_mem hq).2
theorem itm_pos{x:St}(h:StP x){a:Int}(hi:isI Itm.id a x.itms=true):¬a=0:=by
 obtain⟨t,ht,rfl⟩:=isI_iff.1 hi;have:=(h.iId ht).1;omega
theorem itmAt_at{x:St}{a:Int}{q:Itm}(h:atI Itm.id a x.itms=some q):itmAt x a=q:=by unfold itmAt;rw[h];rfl
theorem plan9(x:St)(a b n:Int)(s t:ByteArray)(hn:n=0∨n=1):planP shortS tagS x ⟨9,a,b,n,s,t⟩=tagP x a n s:=by
 unfold tagP;have h1:¬¬(n=0∨n=1):=fun h=>h hn
 cases hq:atI Itm.id a x.itms with
 | none=>
   have hi:=isI_no hq
   simp[planP,hn,hq,hi]
 | some q=>
   have hi:=isI_at hq;have:=itmAt_at hq;simp[planP,hn,hq,hi,this]
theorem plan78(x:St)(k a b n:Int)(s t:ByteArray)(hk:k=7∨k=8)(hn:n=0∨n=1):planP shortS tagS x ⟨k,a,b,n,s,t⟩=if isI Itm.id a x.itms=false then ([],4) else if k=7 then one1 ⟨8,a,0,n,eS,eS,eS⟩ (!decide ((itmAt x a).read=decide (n=1))) else one1 ⟨9,a,0,n,eS,eS,eS⟩ (!decide ((itmAt x a).star=decide (n=1))):=by
 cases hq:atI Itm.id a x.itms with
 | none=>
   have hi:=isI_no hq
   rcases hk with rfl | rfl<;>simp[planP,hn,hq,hi]
 | some q=>
   have hi:=isI_at hq;have:=itmAt_at hq;rcases hk with rfl | rfl<;>simp[planP,hn,hq,hi,this]
theorem planN(x:St)(k a b n:Int)(s t:ByteArray)(hk:k=7∨k=8∨k=9)(hn:¬(n=0∨n=1)):planP shortS tagS x ⟨k,a,b,n,s,t⟩=([],1):=by
 rcases hk with rfl | rfl | rfl<;>simp[planP,hn]
theorem str_single(l:List ByteArray):l.map Value.string=l.flatMap fun i=>[Value.string i]:=by
 induction l with
 | nil=>rfl
 | cons a l ih=>rw[List.map_cons,ih,List.flatMap_cons];rfl
theorem ContainsS_any{W:World}{G:Nat→Prop}{v:Sl}{l:List ByteArray}(h:SlIn W G 1 v l.length (l.map Value.string))(hn:l.length≤100000)(x:ByteArray):
  Calls Tryz.prog 162 #[.slice v.1 l.length v.2,.string x] W fun e w'=>e=.returned (.bool (l.any fun y=>decide (y=x)))∧w'=W:=by
 have hc:Lib.containsS l x=l.any fun y=>decide (y=x):=by
  rw[Bool.eq_iff_iff,Lib.containsS_iff];simp
 rcases Nat.eq_zero_or_pos l.length with h0 | h0
 ·have:l=[]:=List.eq_nil_of_length_eq_zero h0
  subst this;exact Tryz.slices_Contains_string_empty v.1 v.2 x W
 ·rw[str_single] at h
  obtain⟨b,off,e,-,-,hq⟩:=h.at_ (f:=fun i=>[Value.string i]) (fun _=>rfl) (by decide) h0;rw[e]
  have:=Tryz.slices_Contains_string b off l.length v.2 l x W (Nat.le_refl _) (by omega) (fun j hj=>by
   have:=hq j hj 0 _ rfl;rw[Nat.mul_one,Nat.add_zero] at this;rw[this,List.getD_eq_getElem?_getD,List.getElem?_eq_getElem hj];rfl)
  rw[List.take_length,hc] at this;exact this
theorem ofTag_any{w:World}{g:Nat}{M:Ms}{x:St}(h:StAt w g M x)(k a b n:Int)(s t:ByteArray)(hc:CmIs ⟨k,a,b,n,s,t⟩)(hn:n=0∨n=1){v:Sl}{G:Nat→Prop}(hv:SlIn w G 1 v (itmAt x a).tags.length ((itmAt x a).tags.map Value.string)):
  Calls Tryz.prog 108 #[.pointer (some ⟨g,0,none⟩),.agg #[.int .i64 k,.int .i64 a,.int .i64 b,.int .i64 n,.string s,.string t],.agg #[.int .i64 (itmAt x a).id,.int .i64 (itmAt x a).feed,.int .i64 (itmAt x a).date,.string (itmAt x a).guid,.string (itmAt x a).title,.string (itmAt x a).link,.bool (itmAt x a).read,.bool (itmAt x a).star,.slice v.1 (itmAt x a).tags.length v.2]] w (PlOut w (tagP x a n s)):=by
 obtain⟨r,hr⟩:∃ r,tagP x a n s=r:=⟨_,rfl⟩;have HM:Hid ((if tagS s=eS then (([],1):List Ev×Int) else if isI Itm.id a x.itms=false then ([],4) else if fits x ⟨10,a,0,n,tagS s,eS,eS⟩=false then ([],2) else one1 ⟨10,a,0,n,tagS s,eS,eS⟩ (!decide (((itmAt x a).tags.any fun y=>decide (y=tagS s))=decide (n=1))))=r):=hr;have hid:=itmAt_id h.ok a;have hpos:=fun hi:isI Itm.id a x.itms=true=>itm_pos h.ok hi
 have htl:(itmAt x a).tags.length≤100000:=by have:=(itmAt_ok h.ok a).2;omega
 have KW:Hid (∀ W,Calls Tryz.prog 160 #[.string s] W (StrsOut W (wordsB s))):=fun W=>Words_any s W (by have:=hc.s;dsimp only at this;omega)
 have hts:tagS s=match wordsB s with | []=>eS | w::_=>if tagOk w=true then w else eS:=rfl
 generalize hq:itmAt x a=q at *;have HBc:Hid (∀ W,Frm Nix ((w.alloc (.cells #[.int .i64 k,.int .i64 a,.int .i64 b,.int .i64 n,.string s,.string t] 50)).alloc (.cells #[.int .i64 q.id,.int .i64 q.feed,.int .i64 q.date,.string q.guid,.string q.title,.string q.link,.bool q.read,.bool q.star,.slice v.1 q.tags.length v.2] 91)) W→Blk W w.heap.size 50 #[.int .i64 k,.int .i64 a,.int .i64 b,.int .i64 n,.string s,.string t]):=fun W hW=>((Blk.new w 50 #[.int .i64 k,.int .i64 a,.int .i64 b,.int .i64 n,.string s,.string t]).alloc _).frm hW id
 have HBt:Hid (∀ W,Frm Nix ((w.alloc (.cells #[.int .i64 k,.int .i64 a,.int .i64 b,.int .i64 n,.string s,.string t] 50)).alloc (.cells #[.int .i64 q.id,.int .i64 q.feed,.int .i64 q.date,.string q.guid,.string q.title,.string q.link,.bool q.read,.bool q.star,.slice v.1 q.tags.length v.2] 91)) W→Blk W (w.heap.size+1) 91 #[.int .i64 q.id,.int .i64 q.feed,.int .i64 q.date,.string q.guid,.string q.title,.string q.link,.bool q.read,.bool q.star,.slice v.1 q.tags.length v.2]):=fun W hW=>by
  have:=(Blk.new (w.alloc (.cells #[.int .i64 k,.int .i64 a,.int .i64 b,.int .i64 n,.string s,.string t] 50)) 91 #[.int .i64 q.id,.int .i64 q.feed,.int .i64 q.date,.string q.guid,.string q.title,.string q.link,.bool q.read,.bool q.star,.slice v.1 q.tags.length v.2]).frm hW id
  simpa using this
 have HFb:Hid (Frm Nix w ((w.alloc (.cells #[.int .i64 k,.int .i64 a,.int .i64 b,.int .i64 n,.string s,.string t] 50)).alloc (.cells #[.int .i64 q.id,.int .i64 q.feed,.int .i64 q.date,.string q.guid,.string q.title,.string q.link,.bool q.read,.bool q.star,.slice v.1 q.tags.length v.2] 91))):=((fR w).alloc _).alloc _;have HV:=h_ hv;have HS:=h_ h;have HTL:=h_ htl;have hca:I64 a:=hc.a;rw[hr];clear h hc hr hv htl
 cases hwb:wordsB s with
 | nil=>
   have HR:Hid (r=([],1)):=by unfold Hid;rw[← HM.out,if_pos (by rw[hts,hwb])]
   rw[hwb] at KW;clear hts hwb HM hid hpos hq;go_enter Tryz.func108,Tryz.ntmps108;go_wp2_with (first | (go_at_call 51;refine(refused_any _ _).mono ?_;rintro e w9 ⟨rfl,rfl⟩) | (go_at_call 160;refine(KW.out _).mono ?_;rintro e w2 ⟨A,c,rfl,hrow⟩;have Y2:Hid (Frm Nix ((w.alloc (.cells #[.int .i64 k,.int .i64 a,.int .i64 b,.int .i64 n,.string s,.string t] 50)).alloc (.cells #[.int .i64 q.id,.int .i64 q.feed,.int .i64 q.date,.string q.guid,.string q.title,.string q.link,.bool q.read,.bool q.star,.slice v.1 q.tags.length v.2] 91)) w2):=hrow.frm;obtain⟨y0,y1,y2,y3,y4,y5⟩:=blk6 (HBc.out _ Y2.out);clear hrow))
   go_ret2
   rw[HR.out]
   exact PlOut.none_ (HFb.out.trans Y2.out)
 | cons x0 ws=>
   rw[hwb] at KW hts;have hl:(0:Int)<((ws.length:Int)+1):=by omega
   have hl2:¬((ws.length:Int)+1=0):=by omega
   have KG:Hid (∀ W,Calls Tryz.prog 161 #[.string x0] W fun e w'=>e=.returned (.bool (tagOk x0))∧Frm Nix W w'):=fun W=>eTag_any x0 W
   cases hto:tagOk x0 with
   | false=>
     have HR:Hid (r=([],1)):=by unfold Hid;rw[← HM.out,if_pos (by rw[hts];show (if tagOk x0=true then x0 else eS)=eS;rw[hto];rfl)]
     rw[hto] at KG;clear hts hwb HM hid hpos hq hto;go_enter Tryz.func108,Tryz.ntmps108;go_wp2_with (first | (go_at_call 51;refine(refused_any _ _).mono ?_;rintro e w9 ⟨rfl,rfl⟩) | (go_at_call 161;have _q:=Y2;refine(KG.out _).mono ?_;rintro e w3 ⟨rfl,hf⟩;have Y3:Hid (Frm Nix ((w.alloc (.cells #[.int .i64 k,.int .i64 a,.int .i64 b,.int .i64 n,.string s,.string t] 50)).alloc (.cells #[.int .i64 q.id,.int .i64 q.feed,.int .i64 q.date,.string q.guid,.string q.title,.string q.link,.bool q.read,.bool q.star,.slice v.1 q.tags.length v.2] 91)) w3):=Y2.out.trans hf;have cb:=(hf.cell HLa.out id).trans HA.out;obtain⟨y0,y1,y2,y3,y4,y5⟩:=blk6 (HBc.out _ Y3.out);obtain⟨z0,z1,z2,z3,z4,z5,z6,z7,z8⟩:=blk9 (HBt.out _ Y3.out);have HCb:=h_ cb;clear hf) | (go_at_call 160;refine(KW.out _).mono ?_;rintro e w2 ⟨A,c,rfl,hrow⟩;obtain⟨ad,u,rfl,-,had,hu,cx⟩:=hrow.rd.at_ (k:=0) (by simp);simp at hu;subst hu;have ca:w2.cell? ad=some (.string x0):=cx;have HA:=h_ ca;have HLa:=h_ had;clear cx;have Y2:Hid (Frm Nix ((w.alloc (.cells #[.int .i64 k,.int .i64 a,.int .i64 b,.int .i64 n,.string s,.string t] 50)).alloc (.cells #[.int .i64 q.id,.int .i64 q.feed,.int .i64 q.date,.string q.guid,.string q.title,.string q.link,.bool q.read,.bool q.star,.slice v.1 q.tags.length v.2] 91)) w2):=hrow.frm;obtain⟨y0,y1,y2,y3,y4,y5⟩:=blk6 (HBc.out _ Y2.out);clear hrow))
     go_ret2
     rw[HR.out]
     exact PlOut.none_ (HFb.out.trans Y3.out)
   | true=>
     rw[hto] at KG;have hts2:tagS s=x0:=by rw[hts];show (if tagOk x0=true then x0 else eS)=x0;rw[hto,if_pos rfl]
     have hne:=tagOk_ne hto;rw[hts2,if_neg hne] at HM;clear hts hts2 hwb hne hto
     cases hi:isI Itm.id a x.itms with
     | false=>
       have HR:Hid (r=([],4)):=by unfold Hid;rw[← HM.out,if_pos hi]
       rw[hi] at hid;have hid0:(q.id==0)=true:=beq_iff_eq.2 hid;clear HM hid hpos hq hi;go_enter Tryz.func108,Tryz.ntmps108;go_wp2_with (first | (go_at_call 51;refine(refused_any _ _).mono ?_;rintro e w9 ⟨rfl,rfl⟩) | (go_at_call 161;have _q:=Y2;refine(KG.out _).mono ?_;rintro e w3 ⟨rfl,hf⟩;have Y3:Hid (Frm Nix ((w.alloc (.cells #[.int .i64 k,.int .i64 a,.int .i64 b,.int .i64 n,.string s,.string t] 50)).alloc (.cells #[.int .i64 q.id,.int .i64 q.feed,.int .i64 q.date,.string q.guid,.string q.title,.string q.link,.bool q.read,.bool q.star,.slice v.1 q.tags.length v.2] 91)) w3):=Y2.out.trans hf;have cb:=(hf.cell HLa.out id).trans HA.out;obtain⟨y0,y1,y2,y3,y4,y5⟩:=blk6 (HBc.out _ Y3.out);obtain⟨z0,z1,z2,z3,z4,z5,z6,z7,z8⟩:=blk9 (HBt.out _ Y3.out);have HCb:=h_ cb;clear hf) | (go_at_call 160;refine(KW.out _).mono ?_;rintro e w2 ⟨A,c,rfl,hrow⟩;obtain⟨ad,u,rfl,-,had,hu,cx⟩:=hrow.rd.at_ (k:=0) (by simp);simp at hu;subst hu;have ca:w2.cell? ad=some (.string x0):=cx;have HA:=h_ ca;have HLa:=h_ had;clear cx;have Y2:Hid (Frm Nix ((w.alloc (.cells #[.int .i64 k,.int .i64 a,.int .i64 b,.int .i64 n,.string s,.string t] 50)).alloc (.cells #[.int .i64 q.id,.int .i64 q.feed,.int .i64 q.date,.string q.guid,.string q.title,.string q.link,.bool q.read,.bool q.star,.slice v.1 q.tags.length v.2] 91)) w2):=hrow.frm;obtain⟨y0,y1,y2,y3,y4,y5⟩:=blk6 (HBc.out _ Y2.out);clear hrow) | fail);have HC:Hid (∀ W,Frm Nix w3 W→W.cell? ⟨w.heap.size,1,none⟩=some (.int .i64 a)∧W.cell? ⟨w.heap.size,3,none⟩=some (.int .i64 n)∧W.cell? ad=some (.string x0)):=fun W hW=>⟨(HBc.out _ (Y3.out.trans hW)).cell 1,(HBc.out _ (Y3.out.trans hW)).cell 3,(hW.cell (World.block_lt_of_cell? w3 _ HCb.out) id).trans HCb.out⟩
       go_region_held3 (fun W=>W.cell? ⟨w.heap.size,1,none⟩=some (.int .i64 a)∧W.cell? ⟨w.heap.size,3,none⟩=some (.int .i64 n)∧W.cell? ad=some (.string x0)) ((refine HC.out _ ?_;repeat' (first | with_reducible exact Frm.refl _ _ | with_reducible apply Frm.drew | with_reducible apply Frm.alloc))) (fail)
       obtain⟨w4,hw4⟩:∃ w4,w4=(w3.alloc (.cells #[.int .i64 10,.int .i64 a,.int .i64 0,.int .i64 n,.string x0,.string ⟨#[]⟩,.string ⟨#[]⟩] 43)).drew:=⟨_,rfl⟩;rw[← hw4];have hf4:Frm Nix w3 w4:=by rw[hw4];exact((fR w3).alloc _).drew
       have HB4:Hid (∀ W,Frm Nix w4 W→Blk W w.heap.size 50 #[.int .i64 k,.int .i64 a,.int .i64 b,.int .i64 n,.string s,.string t]∧Blk W (w.heap.size+1) 91 #[.int .i64 q.id,.int .i64 q.feed,.int .i64 q.date,.string q.guid,.string q.title,.string q.link,.bool q.read,.bool q.star,.slice v.1 q.tags.length v.2]∧Blk W w3.heap.size 43 #[.int .i64 10,.int .i64 a,.int .i64 0,.int .i64 n,.string x0,.string ⟨#[]⟩,.string ⟨#[]⟩]):=fun W hW=>⟨HBc.out _ ((Y3.out.trans hf4).trans hW),HBt.out _ ((Y3.out.trans hf4).trans hW),by(have q:=Blk.new w3 43 #[.int .i64 10,.int .i64 a,.int .i64 0,.int .i64 n,.string x0,.string ⟨#[]⟩,.string ⟨#[]⟩];have q2:=q.drew;rw[← hw4] at q2;exact q2.frm hW id)⟩
       have Z4:Hid (Frm Nix w w4):=HFb.out.trans (Y3.out.trans hf4);obtain⟨b1,b2,b3⟩:=HB4.out w4 (fR w4);obtain⟨y0,y1,y2,y3,y4,y5⟩:=blk6 b1;obtain⟨z0,z1,z2,z3,z4,z5,z6,z7,z8⟩:=blk9 b2;obtain⟨e0,e1,e2,e3,e4,e5,e6⟩:=blk7 b3;clear hw4 hf4 b1 b2 b3 HC;go_wp2_with (first | (go_at_call 51;refine(refused_any _ _).mono ?_;rintro e w9 ⟨rfl,rfl⟩) | fail)
       go_ret2
       rw[HR.out]
       exact PlOut.none_ Z4.out
     | true=>
       have hne0:=hpos hi;rw[hi,if_pos rfl] at hid;have hid0:(q.id==0)=false:=beq_eq_false_iff_ne.2 (by rw[hid];exact hne0);rw[hi,if_neg (by decide)] at HM;have KFi:Hid (∀ W,Frm Nix w W→Calls Tryz.prog 59 #[.pointer (some ⟨g,0,none⟩),.agg #[.int .i64 10,.int .i64 a,.int .i64 0,.int .i64 n,.string x0,.string ⟨#[]⟩,.string ⟨#[]⟩]] W fun r w'=>r=.returned (.bool (fits x ⟨10,a,0,n,x0,⟨#[]⟩,⟨#[]⟩⟩))∧Frm Nix W w'):=fun W hW=>FitsV (HS.out.nix hW) _ _ _ _ _ _ _ hca i64_0
       cases hft:fits x ⟨10,a,0,n,x0,⟨#[]⟩,⟨#[]⟩⟩ with
       | false=>
         have HR:Hid (r=([],2)):=HM.out.symm.trans (if_pos hft);rw[hft] at KFi;clear HM hid hpos hq hi hft hne0;go_enter Tryz.func108,Tryz.ntmps108;go_wp2_with (first | (go_at_call 51;refine(refused_any _ _).mono ?_;rintro e w9 ⟨rfl,rfl⟩) | (go_at_call 161;have _q:=Y2;refine(KG.out _).mono ?_;rintro e w3 ⟨rfl,hf⟩;have Y3:Hid (Frm Nix ((w.alloc (.cells #[.int .i64 k,.int .i64 a,.int .i64 b,.int .i64 n,.string s,.string t] 50)).alloc (.cells #[.int .i64 q.id,.int .i64 q.feed,.int .i64 q.date,.string q.guid,.string q.title,.string q.link,.bool q.read,.bool q.star,.slice v.1 q.tags.length v.2] 91)) w3):=Y2.out.trans hf;have cb:=(hf.cell HLa.out id).trans HA.out;obtain⟨y0,y1,y2,y3,y4,y5⟩:=blk6 (HBc.out _ Y3.out);obtain⟨z0,z1,z2,z3,z4,z5,z6,z7,z8⟩:=blk9 (HBt.out _ Y3.out);have HCb:=h_ cb;clear hf) | (go_at_call 160;refine(KW.out _).mono ?_;rintro e w2 ⟨A,c,rfl,hrow⟩;obtain⟨ad,u,rfl,-,had,hu,cx⟩:=hrow.rd.at_ (k:=0) (by simp);simp at hu;subst hu;have ca:w2.cell? ad=some (.string x0):=cx;have HA:=h_ ca;have HLa:=h_ had;clear cx;have Y2:Hid (Frm Nix ((w.alloc (.cells #[.int .i64 k,.int .i64 a,.int .i64 b,.int .i64 n,.string s,.string t] 50)).alloc (.cells #[.int .i64 q.id,.int .i64 q.feed,.int .i64 q.date,.string q.guid,.string q.title,.string q.link,.bool q.read,.bool q.star,.slice v.1 q.tags.length v.2] 91)) w2):=hrow.frm;obtain⟨y0,y1,y2,y3,y4,y5⟩:=blk6 (HBc.out _ Y2.out);clear hrow) | fail);have HC:Hid (∀ W,Frm Nix w3 W→W.cell? ⟨w.heap.size,1,none⟩=some (.int .i64 a)∧W.cell? ⟨w.heap.size,3,none⟩=some (.int .i64 n)∧W.cell? ad=some (.string x0)):=fun W hW=>⟨(HBc.out _ (Y3.out.trans hW)).cell 1,(HBc.out _ (Y3.out.trans hW)).cell 3,(hW.cell (World.block_lt_of_cell? w3 _ HCb.out) id).trans HCb.out⟩
         go_region_held3 (fun W=>W.cell? ⟨w.heap.size,1,none⟩=some (.int .i64 a)∧W.cell? ⟨w.heap.size,3,none⟩=some (.int .i64 n)∧W.cell? ad=some (.string x0)) ((refine HC.out _ ?_;repeat' (first | with_reducible exact Frm.refl _ _ | with_reducible apply Frm.drew | with_reducible apply Frm.alloc))) (fail)
         obtain⟨w4,hw4⟩:∃ w4,w4=(w3.alloc (.cells #[.int .i64 10,.int .i64 a,.int .i64 0,.int .i64 n,.string x0,.string ⟨#[]⟩,.string ⟨#[]⟩] 43)).drew:=⟨_,rfl⟩;rw[← hw4];have hf4:Frm Nix w3 w4:=by rw[hw4];exact((fR w3).alloc _).drew
         have HB4:Hid (∀ W,Frm Nix w4 W→Blk W w.heap.size 50 #[.int .i64 k,.int .i64 a,.int .i64 b,.int .i64 n,.string s,.string t]∧Blk W (w.heap.size+1) 91 #[.int .i64 q.id,.int .i64 q.feed,.int .i64 q.date,.string q.guid,.string q.title,.string q.link,.bool q.read,.bool q.star,.slice v.1 q.tags.length v.2]∧Blk W w3.heap.size 43 #[.int .i64 10,.int .i64 a,.int .i64 0,.int .i64 n,.string x0,.string ⟨#[]⟩,.string ⟨#[]⟩]):=fun W hW=>⟨HBc.out _ ((Y3.out.trans hf4).trans hW),HBt.out _ ((Y3.out.trans hf4).trans hW),by(have q:=Blk.new w3 43 #[.int .i64 10,.int .i64 a,.int .i64 0,.int .i64 n,.string x0,.string ⟨#[]⟩,.string ⟨#[]⟩];have q2:=q.drew;rw[← hw4] at q2;exact q2.frm hW id)⟩
         have Z4:Hid (Frm Nix w w4):=HFb.out.trans (Y3.out.trans hf4);obtain⟨b1,b2,b3⟩:=HB4.out w4 (fR w4);obtain⟨y0,y1,y2,y3,y4,y5⟩:=blk6 b1;obtain⟨z0,z1,z2,z3,z4,z5,z6,z7,z8⟩:=blk9 b2;obtain⟨e0,e1,e2,e3,e4,e5,e6⟩:=blk7 b3;clear hw4 hf4 b1 b2 b3 HC;go_wp2_with (first | (go_at_call 51;refine(refused_any _ _).mono ?_;rintro e w9 ⟨rfl,rfl⟩) | (go_at_call 59;refine(KFi.out _ Z4.out).mono ?_;rintro e w5 ⟨rfl,hf⟩;have Y5:=h_ hf;have Z5:Hid (Frm Nix w w5):=Z4.out.trans hf;clear hf) | fail)
         go_ret2
         rw[HR.out]
         exact PlOut.none_ Z5.out
       | true=>
         have HR:Hid (r=one1 ⟨10,a,0,n,x0,⟨#[]⟩,⟨#[]⟩⟩ (!decide ((q.tags.any fun y=>decide (y=x0))=decide (n=1)))):=by unfold Hid;rw[← HM.out];rw[show fits x ⟨10,a,0,n,x0,eS,eS⟩=true from hft,if_neg (by decide)];rfl
         rw[hft] at KFi;have KC:Hid (∀ W,Frm Nix w W→Calls Tryz.prog 162 #[.slice v.1 q.tags.length v.2,.string x0] W fun e w'=>e=.returned (.bool (q.tags.any fun y=>decide (y=x0)))∧w'=W):=fun W hW=>ContainsS_any (HV.out.nix hW) HTL.out x0
         clear HM hid hpos hq hi hft hne0;generalize (q.tags.any fun y=>decide (y=x0))=cc at *
         have HCond:Hid ((cc !=(n==1))=(!decide (cc=decide (n=1)))):=by
          unfold Hid;rw[show (n==1)=decide (n=1) from rfl]
          cases cc<;>cases decide (n=1)<;>rfl
         go_enter Tryz.func108,Tryz.ntmps108;go_wp2_with (first | (go_at_call 51;refine(refused_any _ _).mono ?_;rintro e w9 ⟨rfl,rfl⟩) | (go_at_call 161;have _q:=Y2;refine(KG.out _).mono ?_;rintro e w3 ⟨rfl,hf⟩;have Y3:Hid (Frm Nix ((w.alloc (.cells #[.int .i64 k,.int .i64 a,.int .i64 b,.int .i64 n,.string s,.string t] 50)).alloc (.cells #[.int .i64 q.id,.int .i64 q.feed,.int .i64 q.date,.string q.guid,.string q.title,.string q.link,.bool q.read,.bool q.star,.slice v.1 q.tags.length v.2] 91)) w3):=Y2.out.trans hf;have cb:=(hf.cell HLa.out id).trans HA.out;obtain⟨y0,y1,y2,y3,y4,y5⟩:=blk6 (HBc.out _ Y3.out);obtain⟨z0,z1,z2,z3,z4,z5,z6,z7,z8⟩:=blk9 (HBt.out _ Y3.out);have HCb:=h_ cb;clear hf) | (go_at_call 160;refine(KW.out _).mono ?_;rintro e w2 ⟨A,c,rfl,hrow⟩;obtain⟨ad,u,rfl,-,had,hu,cx⟩:=hrow.rd.at_ (k:=0) (by simp);simp at hu;subst hu;have ca:w2.cell? ad=some (.string x0):=cx;have HA:=h_ ca;have HLa:=h_ had;clear cx;have Y2:Hid (Frm Nix ((w.alloc (.cells #[.int .i64 k,.int .i64 a,.int .i64 b,.int .i64 n,.string s,.string t] 50)).alloc (.cells #[.int .i64 q.id,.int .i64 q.feed,.int .i64 q.date,.string q.guid,.string q.title,.string q.link,.bool q.read,.bool q.star,.slice v.1 q.tags.length v.2] 91)) w2):=hrow.frm;obtain⟨y0,y1,y2,y3,y4,y5⟩:=blk6 (HBc.out _ Y2.out);clear hrow) | fail);have HC:Hid (∀ W,Frm Nix w3 W→W.cell? ⟨w.heap.size,1,none⟩=some (.int .i64 a)∧W.cell? ⟨w.heap.size,3,none⟩=some (.int .i64 n)∧W.cell? ad=some (.string x0)):=fun W hW=>⟨(HBc.out _ (Y3.out.trans hW)).cell 1,(HBc.out _ (Y3.out.trans hW)).cell 3,(hW.cell (World.block_lt_of_cell? w3 _ HCb.out) id).trans HCb.out⟩
         go_region_held3 (fun W=>W.cell? ⟨w.heap.size,1,none⟩=some (.int .i64 a)∧W.cell? ⟨w.heap.size,3,none⟩=some (.int .i64 n)∧W.cell? ad=some (.string x0)) ((refine HC.out _ ?_;repeat' (first | with_reducible exact Frm.refl _ _ | with_reducible apply Frm.drew | with_reducible apply Frm.alloc))) (fail)
         obtain⟨w4,hw4⟩:∃ w4,w4=(w3.alloc (.cells #[.int .i64 10,.int .i64 a,.int .i64 0,.int .i64 n,.string x0,.string ⟨#[]⟩,.string ⟨#[]⟩] 43)).drew:=⟨_,rfl⟩;rw[← hw4];have hf4:Frm Nix w3 w4:=by rw[hw4];exact((fR w3).alloc _).drew
         have HB4:Hid (∀ W,Frm Nix w4 W→Blk W w.heap.size 50 #[.int .i64 k,.int .i64 a,.int .i64 b,.int .i64 n,.string s,.string t]∧Blk W (w.heap.size+1) 91 #[.int .i64 q.id,.int .i64 q.feed,.int .i64 q.date,.string q.guid,.string q.title,.string q.link,.bool q.read,.bool q.star,.slice v.1 q.tags.length v.2]∧Blk W w3.heap.size 43 #[.int .i64 10,.int .i64 a,.int .i64 0,.int .i64 n,.string x0,.string ⟨#[]⟩,.string ⟨#[]⟩]):=fun W hW=>⟨HBc.out _ ((Y3.out.trans hf4).trans hW),HBt.out _ ((Y3.out.trans hf4).trans hW),by(have q:=Blk.new w3 43 #[.int .i64 10,.int .i64 a,.int .i64 0,.int .i64 n,.string x0,.string ⟨#[]⟩,.string ⟨#[]⟩];have q2:=q.drew;rw[← hw4] at q2;exact q2.frm hW id)⟩
         have Z4:Hid (Frm Nix w w4):=HFb.out.trans (Y3.out.trans hf4);obtain⟨b1,b2,b3⟩:=HB4.out w4 (fR w4);obtain⟨y0,y1,y2,y3,y4,y5⟩:=blk6 b1;obtain⟨z0,z1,z2,z3,z4,z5,z6,z7,z8⟩:=blk9 b2;obtain⟨e0,e1,e2,e3,e4,e5,e6⟩:=blk7 b3;clear hw4 hf4 b1 b2 b3 HC;go_wp2_with (first | (go_at_call 59;refine(KFi.out _ Z4.out).mono ?_;rintro e w5 ⟨rfl,hf⟩;have Y5:=h_ hf;have Z5:Hid (Frm Nix w w5):=Z4.out.trans hf;clear hf) | fail)
         have HC5:Hid (∀ W,Frm Nix w5 W→(W.cell? ⟨w3.heap.size,0,none⟩=some (.int .i64 10)∧W.cell? ⟨w3.heap.size,1,none⟩=some (.int .i64 a)∧W.cell? ⟨w3.heap.size,2,none⟩=some (.int .i64 0)∧W.cell? ⟨w3.heap.size,3,none⟩=some (.int .i64 n)∧W.cell? ⟨w3.heap.size,4,none⟩=some (.string x0)∧W.cell? ⟨w3.heap.size,5,none⟩=some (.string ⟨#[]⟩)∧W.cell? ⟨w3.heap.size,6,none⟩=some (.string ⟨#[]⟩))∧W.cell? ⟨w.heap.size+1,8,none⟩=some (.slice v.1 q.tags.length v.2)∧W.cell? ⟨w.heap.size,3,none⟩=some (.int .i64 n)):=fun W hW=>by
          obtain⟨b1,b2,b3⟩:=HB4.out W (Y5.out.trans hW);obtain⟨e0,e1,e2,e3,e4,e5,e6⟩:=blk7 b3;exact⟨⟨e0,e1,e2,e3,e4,e5,e6⟩,b2.cell 8,b1.cell 3⟩
         go_region_held3 (fun W=>(W.cell? ⟨w3.heap.size,0,none⟩=some (.int .i64 10)∧W.cell? ⟨w3.heap.size,1,none⟩=some (.int .i64 a)∧W.cell? ⟨w3.heap.size,2,none⟩=some (.int .i64 0)∧W.cell? ⟨w3.heap.size,3,none⟩=some (.int .i64 n)∧W.cell? ⟨w3.heap.size,4,none⟩=some (.string x0)∧W.cell? ⟨w3.heap.size,5,none⟩=some (.string ⟨#[]⟩)∧W.cell? ⟨w3.heap.size,6,none⟩=some (.string ⟨#[]⟩))∧W.cell? ⟨w.heap.size+1,8,none⟩=some (.slice v.1 q.tags.length v.2)∧W.cell? ⟨w.heap.size,3,none⟩=some (.int .i64 n)) ((refine HC5.out _ ?_;repeat' (first | with_reducible exact Frm.refl _ _ | with_reducible exact Y7.out | with_reducible apply Frm.drew)))
          (first
           | (go_at_call 60;refine(oneV _ _ _ _ _ _ _ _ _).mono ?_;rintro e w7 ⟨v7,rfl,hsl,hf⟩;have Y7:Hid (Frm Nix w5 w7):=(fR _).drew.trans hf;have HSL:=h_ (hsl.mono (G':=fun k=>w.heap.size≤k) fun k hk=>by(have h2:=Z5.out.size;have hk2:w5.heap.size≤k:=hk;omega));clear hsl hf)
           | (go_at_call 162;refine(KC.out _ (Z5.out.trans (fR _).drew)).mono ?_;rintro e w6 ⟨rfl,rfl⟩))
         all_goals
          go_wp2
          go_ret2
          rw[HR.out,← HCond.out];exact⟨v7,rfl,HSL.out,Z5.out.trans Y7.out⟩
theorem ofItem_any{w:World}{g:Nat}{M:Ms}{x:St}(h:StAt w g M x)(k a b n:Int)(s t:ByteArray)(hc:CmIs ⟨k,a,b,n,s,t⟩)(hk:k=7∨k=8∨k=9):
  Calls Tryz.prog 54 #[.pointer (some ⟨g,0,none⟩),.agg #[.int .i64 k,.int .i64 a,.int .i64 b,.int .i64 n,.string s,.string t]] w (PlOut w (planP shortS tagS x ⟨k,a,b,n,s,t⟩)):=by
 obtain⟨r,hr⟩:∃ r,planP shortS tagS x ⟨k,a,b,n,s,t⟩=r:=⟨_,rfl⟩;have HBc:Hid (∀ W,Frm Nix (w.alloc (.cells #[.int .i64 k,.int .i64 a,.int .i64 b,.int .i64 n,.string s,.string t] 50)) W→Blk W w.heap.size 50 #[.int .i64 k,.int .i64 a,.int .i64 b,.int .i64 n,.string s,.string t]):=fun W hW=>(Blk.new w 50 #[.int .i64 k,.int .i64 a,.int .i64 b,.int .i64 n,.string s,.string t]).frm hW id
 have HFb:Hid (Frm Nix w (w.alloc (.cells #[.int .i64 k,.int .i64 a,.int .i64 b,.int .i64 n,.string s,.string t] 50))):=(fR w).alloc _;rw[hr]
 by_cases hn:n=0∨n=1
 ·have KI:Hid (∀ W,Frm Nix w W→Calls Tryz.prog 107 #[.pointer (some ⟨g,0,none⟩),.int .i64 a] W fun e w'=>∃ v':Sl,e=.returned (.tuple #[.agg #[.int .i64 (itmAt x a).id,.int .i64 (itmAt x a).feed,.int .i64 (itmAt x a).date,.string (itmAt x a).guid,.string (itmAt x a).title,.string (itmAt x a).link,.bool (itmAt x a).read,.bool (itmAt x a).star,.slice v'.1 (itmAt x a).tags.length v'.2],.bool (isI Itm.id a x.itms)])∧SlIn w' (fun k=>W.heap.size≤k) 1 v' (itmAt x a).tags.length ((itmAt x a).tags.map Value.string)∧Frm Nix W w'):=fun W hW=>Item_any (h.nix hW) hc.a
  by_cases h9:k=9
  ·subst h9
   have e9:=(plan9 x a b n s t hn).symm.trans hr
   have KG:Hid (∀ W G v,Frm Nix w W→SlIn W G 1 v (itmAt x a).tags.length ((itmAt x a).tags.map Value.string)→Calls Tryz.prog 108 #[.pointer (some ⟨g,0,none⟩),.agg #[.int .i64 9,.int .i64 a,.int .i64 b,.int .i64 n,.string s,.string t],.agg #[.int .i64 (itmAt x a).id,.int .i64 (itmAt x a).feed,.int .i64 (itmAt x a).date,.string (itmAt x a).guid,.string (itmAt x a).title,.string (itmAt x a).link,.bool (itmAt x a).read,.bool (itmAt x a).star,.slice v.1 (itmAt x a).tags.length v.2]] W (PlOut W r)):=fun W G v hW hv=>by
    rw[← e9];exact ofTag_any (h.nix hW) 9 a b n s t hc hn hv
   generalize itmAt x a=q at *;generalize isI Itm.id a x.itms=i1 at *;clear h hc hr e9 hk;rcases hn with rfl | rfl
   all_goals
    go_enter Tryz.func54,Tryz.ntmps54;go_wp2_with (first | (go_at_call 108;refine(KG.out _ _ tv (Z2.out.alloc _) (HV.out.nix ((fR _).alloc _))).mono ?_;rintro e w4 ⟨v,rfl,hsl,hf⟩;have Z4:Hid (Frm Nix w w4):=(Z2.out.alloc _).trans hf;have HSL:=h_ (hsl.mono (G':=fun k=>w.heap.size≤k) fun k hk=>by(have h2:=(Z2.out.alloc (.cells #[.int .i64 q.id,.int .i64 q.feed,.int .i64 q.date,.string q.guid,.string q.title,.string q.link,.bool q.read,.bool q.star,.slice tv.1 q.tags.length tv.2] 91)).size;have hk2:=hk;simp at hk2 h2;omega));clear hsl hf) | (go_at_call 107;refine(KI.out _ HFb.out).mono ?_;rintro e w2 ⟨tv,rfl,hsl,hf⟩;have HV:=h_ hsl;have Y2:=h_ hf;have Z2:Hid (Frm Nix w w2):=HFb.out.trans hf;obtain⟨y0,y1,y2,y3,y4,y5⟩:=blk6 (HBc.out _ hf);have yl:=(HBc.out _ hf).lt;clear hsl hf) | fail)
    go_ret2
    exact⟨v,rfl,HSL.out,Z4.out⟩
  ·have e78:=(plan78 x k a b n s t (by omega) hn).symm.trans hr
   have HM:=h_ e78;generalize itmAt x a=q at *
   cases hi:isI Itm.id a x.itms with
   | false=>
     rw[hi] at KI;have HR:Hid (r=([],4)):=HM.out.symm.trans (if_pos hi);have h9':(k==9)=false:=beq_eq_false_iff_ne.2 h9;clear h hc hr e78 HM hi hk h9;rcases hn with rfl | rfl
     all_goals
      go_enter Tryz.func54,Tryz.ntmps54;go_wp2_with (first | (go_at_call 51;refine(refused_any _ _).mono ?_;rintro e w9 ⟨rfl,rfl⟩) | (go_at_call 107;refine(KI.out _ HFb.out).mono ?_;rintro e w2 ⟨tv,rfl,hsl,hf⟩;have HV:=h_ hsl;have Y2:=h_ hf;have Z2:Hid (Frm Nix w w2):=HFb.out.trans hf;obtain⟨y0,y1,y2,y3,y4,y5⟩:=blk6 (HBc.out _ hf);have yl:=(HBc.out _ hf).lt;clear hsl hf) | fail)
      go_ret2
      rw[HR.out]
      exact PlOut.none_ (Z2.out.alloc _)
   | true=>
     rw[hi] at KI;have HR:Hid (r=if k=7 then one1 ⟨8,a,0,n,⟨#[]⟩,⟨#[]⟩,⟨#[]⟩⟩ (!decide (q.read=decide (n=1))) else one1 ⟨9,a,0,n,⟨#[]⟩,⟨#[]⟩,⟨#[]⟩⟩ (!decide (q.star=decide (n=1)))):=HM.out.symm.trans (if_neg (by rw[hi];decide));clear h hc hr e78 HM hi;have h78:k=7∨k=8:=by omega
     clear hk h9;have HX0:∀ b:Bool,(!decide (b=decide ((0:Int)=1)))=b:=fun b=>by cases b<;>rfl
     have HX1:∀ b:Bool,(!decide (b=decide ((1:Int)=1)))=!b:=fun b=>by cases b<;>rfl
     rcases h78 with rfl | rfl<;>rcases hn with rfl | rfl
     all_goals
      rw[HR.out]
      first | rw[if_pos rfl] | rw[if_neg (by decide)]
      first | rw[HX0] | rw[HX1]
      clear HX0 HX1;go_enter Tryz.func54,Tryz.ntmps54;go_wp2_with (first | (go_at_call 60;refine(oneV _ _ _ _ _ _ _ _ _).mono ?_;rintro e w4 ⟨v,rfl,hsl,hf⟩;have Z4:Hid (Frm Nix w w4):=(Z2.out.alloc _).trans hf;have HSL:=h_ (hsl.mono (G':=fun k=>w.heap.size≤k) fun k hk=>by(have h2:=(Z2.out.alloc (.cells #[.int .i64 q.id,.int .i64 q.feed,.int .i64 q.date,.string q.guid,.string q.title,.string q.link,.bool q.read,.bool q.star,.slice tv.1 q.tags.length tv.2] 91)).size;have hk2:=hk;simp at hk2 h2;omega));clear hsl hf) | (go_at_call 107;refine(KI.out _ HFb.out).mono ?_;rintro e w2 ⟨tv,rfl,hsl,hf⟩;have HV:=h_ hsl;have Y2:=h_ hf;have Z2:Hid (Frm Nix w w2):=HFb.out.trans hf;obtain⟨y0,y1,y2,y3,y4,y5⟩:=blk6 (HBc.out _ hf);have yl:=(HBc.out _ hf).lt;clear hsl hf) | fail)
      go_ret2
      exact⟨v,rfl,HSL.out,Z4.out⟩
 ·have HR:Hid (r=([],1)):=hr.symm.trans (planN x k a b n s t hk hn)
  have n0:(n !=0)=true:=bne_iff_ne.2 fun e=>hn (.inl e)
  have n1:(n !=1)=true:=bne_iff_ne.2 fun e=>hn (.inr e)
  clear h hc hr hn hk;go_enter Tryz.func54,Tryz.ntmps54;go_wp2_with (first | (go_at_call 51;refine(refused_any _ _).mono ?_;rintro e w9 ⟨rfl,rfl⟩) | fail)
  go_ret2
  rw[HR.out];exact PlOut.none_ HFb.out
end Go.Proofs.YtdihmpakglakdaaGreat
