/- Words. -/
import Derived.Test.YtaecjmiobllhmaaGreatGq23
import Derived.Test.YtaecjmiobllhmaaGreatGq15
set_option linter.unusedVariables false
set_option linter.unusedSimpArgs false
set_option maxRecDepth 100000
set_option maxHeartbeats 16000000
namespace Go.Proofs.YtaecjmiobllhmaaGreat
open Go.Value renaming int→I,string→V,slice→U,pointer→O
open Go.IntKind renaming i64→J
open Tryz renaming prog→pQ
open Go.RowKit Go.Lib
variable {w:World}{x:St}{g:Nat}{M:Ms}{v:Sl}{G G':Nat→Prop}{v':Sl}{wc:World}{b1 b2:Nat}{fo fe it se fo' fe' it' se':Sl}{ts ts':List (Sl×aJ)}{y:St}{u0 u1 u4 u5 u6 u7 u8 u9 u10 u11 u12 u13 u14 u15 u16 eG eH eI eJ eK eM u23 u24 eO u26 eW u28 eX eY eZ u32 u33 fh fj u36 fk u38 fw fx fy fG fH u44 u45 fJ fK gC gD gw gy gj gl gm gp fM fO fP fQ fU fV fW fX u64 fY fZ gc gg gF gO gP gQ gR gS gT gU gV gW gX gY gZ g9 hZ ie ig ii ij il im io ip iw ix iy iz iJ iK iM iO cJ cK cL cM cN cO cP cQ bH bI bJ bK bM bN bO bP bQ bR bS bT bU bV bW bX bY bZ cd cg cj cn cq ct cz cA cC cD cE cF u138 cG cR cS cT cU dz dA dB dC dD:Value}
theorem Bz{b off:Nat}{e:Ev}(h:∀(j:Nat) (u:Value),e.cells[j]? =some u→w.cell? ⟨b,off+j,none⟩=some u):
  w.cell? ⟨b,off,none⟩=some (I J e.kind)∧w.cell? ⟨b,off+1,none⟩=some (I J e.a)∧w.cell? ⟨b,off+2,none⟩=some (I J e.b)∧w.cell? ⟨b,off+3,none⟩=some (I J e.n)∧w.cell? ⟨b,off+4,none⟩=some (V e.s)∧w.cell? ⟨b,off+5,none⟩=some (V e.t)∧w.cell? ⟨b,off+6,none⟩=some (V e.u):=
 ⟨h 0 _ rfl,h 1 _ rfl,h 2 _ rfl,h 3 _ rfl,h 4 _ rfl,h 5 _ rfl,h 6 _ rfl⟩
theorem qj{l:List Ev}{k:Nat}(h:k<l.length):cZ x (l.take (k+1))=(bB (cZ x (l.take k)) l[k]).1:=by
 unfold cZ;rw[List.take_succ_eq_append_getElem h,List.foldl_append];rfl
theorem vn{w wr w2:World}(h:aa ac w wr)(hf:aa (SF g M) wr w2)(hn:∀k,SF g M k→w.heap.size≤k):aa ac w w2:=h.next hf λk hk=>.inr (hn k hk)
theorem IP(l:List Ev)(hv:aN w G 7 v l.length (l.flatMap Ev.cells))(hI:∀e∈l,bj e.a∧bj e.b)(hn:l.length≤1000000):
  Calls pQ 19 #[U v.1 l.length v.2] w λe w'=>∃g M,e=.returned (O (some ⟨g,0,none⟩))∧aw w' g M (cZ m9 l)∧aa ac w w'∧∀k,SF g M k→w.heap.size≤k:=by
 obtain⟨Av,cv⟩:=v;dsimp only;obtain⟨n,lG⟩:∃n,l.length=n:=⟨_,rfl⟩;have HL:=h_ lG;have HV:=h_ hv;have HI:=h_ hI;have KN:=h_ (EX w);rw[lG] at hn ⊢;clear hv lG hI;go_enter Tryz.func19,Tryz.ntmps19;go_wp2_with (go_at_call 38;refine KN.out.mono ?_;rintro e w1 ⟨g,M,rfl,hs,hf,hg⟩;have HS:=h_ hs;have HF:=h_ hf;have HG:=h_ hg;clear hs hf hg)
 go_loopw [9] (λkv wr=>∃k:Nat,k≤n∧kv=I J k∧aw wr g M (cZ m9 (l.take k))∧aa ac w wr) (λkv _=>n-(intOf kv).toNat)
 case atStart=>exact⟨0,by omega,rfl,HS.out,HF.out⟩
 case round=>
  obtain⟨k,hk,rfl,hs,hf⟩:=hrel;have J3:=h_ hs;have qx:=h_ hf;clear hs hf
  by_cases hlt:k<n
  ·have dX:k<l.length:=by rw[HL.out];exact hlt
   obtain⟨b,off,hA,-,hbl,hcell⟩:=(HV.out.nix qx.out).at_ Ev.clen (by decide) (by omega);dsimp only at hA;subst hA;have h7:=Bz (w:=wr) (b:=b) (off:=off+k * 7) (e:=l[k]) (hcell k dX);have Gj:=HI.out l[k] (List.getElem_mem dX);have E7:=h_ (qj (x:=m9) dX);obtain⟨ev,hev⟩:∃ev,l[k]=ev:=⟨_,rfl⟩;rw[hev] at h7 Gj E7;obtain⟨x0,x1,x2,x3,x4,x5,x6⟩:=h7
   have KA:Hid (Calls pQ 42 #[O (some ⟨g,0,none⟩),.agg #[I J ev.kind,I J ev.a,I J ev.b,I J ev.n,V ev.s,V ev.t,V ev.u]] (wr.alloc (.cells #[I J ev.kind,I J ev.a,I J ev.b,I J ev.n,V ev.s,V ev.t,V ev.u] 42)) λr w'=>r=.returned (.bool (bB (cZ m9 (l.take k)) ev).2)∧aw w' g M (cZ m9 (l.take (k+1)))∧aa ac w w'):=
    (ym (J3.out.nix ((fR wr).alloc _)) ev Gj.1 Gj.2).mono λr w' ⟨h1,h2,h3⟩=>⟨h1,by rw[E7.out];exact h2,vn (qx.out.alloc _) h3 HG.out⟩
   clear hcell hev Gj;generalize (bB (cZ m9 (l.take k)) ev).2=bb at *;go_wp2_with (go_at_call 42;refine KA.out.mono ?_;rintro r w2 ⟨rfl,hs2,hf2⟩;have Sv:=h_ hs2;have Sw:=h_ hf2;clear hs2 hf2);go_roundw
   case rel=>exact⟨k+1,by omega,by go_num,Sv.out,Sw.out⟩
   case measure=>simp[intOf];omega
  ·obtain rfl:k=n:=by omega
   have xg:Hid (l.take k=l):=List.take_of_length_le (by rw[HL.out];exact Nat.le_refl _);have hs:=J3.out;rw[xg.out] at hs;have Sx:=h_ hs;clear hs;go_wp2;go_ret;exact⟨g,M,rfl,Sx.out,qx.out,HG.out⟩
theorem Gr(h:aw w g M x)(s:ByteArray)(hs:s.size≤maxLen):
  Calls pQ 94 #[O (some ⟨g,0,none⟩),V s] w λe w'=>e=.returned (.tuple #[I J (cH x s),.bool (!(cH x s==0))])∧w=w':=by
 obtain⟨c0,c1,c2,c3,c4,c5,c6,c7,c8,-⟩:=h.cells;have hl:=h.placeLook hs true;simp only[if_true] at hl;clear h;go_enter Tryz.func94,Tryz.ntmps94;go_wp2
 go_ret2
 exact⟨rfl,rfl⟩
theorem IQ{W:World}{tmps:Array Value}{a0 a1 a2 a3 a4 a5 a6 a7 a8 b:Value}(hb:ai W g 82 #[a0,a1,a2,a3,a4,a5,a6,a7,a8])(h2:tmps.getD 4 undef=O (some ⟨g,0,none⟩))(h3:tmps.getD 5 undef=b):
  (results Tryz.f95 tmps).run pQ W=.ok (.tuple #[.agg #[a0,a1,a2,a3,a4,a5,a6,a7,a8],b]) W:=by
 obtain⟨c0,c1,c2,c3,c4,c5,c6,c7,c8⟩:=F5 hb;have h2':tmps[4]?.getD undef=O (some ⟨g,0,none⟩):=by simpa using h2
 have IR:tmps[5]?.getD undef=b:=by simpa using h3
 simp[results,Tryz.results95,h2',IR,go_sem,c0,c1,c2,c3,c4,c5,c6,c7,c8]
theorem IU(h:aw w g M x){i:Int}(hi:bj i):
  Calls pQ 95 #[O (some ⟨g,0,none⟩),I J i] w λe w'=>∃v':Sl,e=.returned (.tuple #[.agg #[I J (ag x i).id,I J (ag x i).feed,I J (ag x i).date,V (ag x i).guid,V (ag x i).title,V (ag x i).link,.bool (ag x i).read,.bool (ag x i).star,U v'.1 (ag x i).tags.length v'.2],.bool (aS aJ.id i x.itms)])∧aN w' (λk=>w.heap.size≤k) 1 v' (ag x i).tags.length ((ag x i).tags.map Value.string)∧aa ac w w':=by
 obtain⟨w0,hw0⟩:∃w0,w0=w.alloc (.cells #[I J 0,I J 0,I J 0,V ⟨#[]⟩,V ⟨#[]⟩,V ⟨#[]⟩,.bool false,.bool false,U none 0 0] 82):=⟨_,rfl⟩;have f0:aa ac w w0:=by rw[hw0];exact(fR w).alloc _
 have hz0:ai w0 w.heap.size 82 #[I J 0,I J 0,I J 0,V ⟨#[]⟩,V ⟨#[]⟩,V ⟨#[]⟩,.bool false,.bool false,U none 0 0]:=by rw[hw0];exact ai.new w _ _
 have h0:=h.nix f0;obtain⟨c0,c1,c2,c3,c4,c5,c6,c7,c8,-⟩:=h0.cells;obtain⟨v,hv,hl⟩:=h0.itmLook hi;have h8:=(sS h.ok i).2;have hl2:(Instr.lookup 108 (.map (some M.it)) (I J i) true).run pQ w0=.ok (.tuple #[.agg #[I J (ag x i).id,I J (ag x i).feed,I J (ag x i).date,V (ag x i).guid,V (ag x i).title,V (ag x i).link,.bool (ag x i).read,.bool (ag x i).star,U v.1 (ag x i).tags.length v.2],.bool (aS aJ.id i x.itms)]) w0:=hl true;generalize ag x i=t at *;generalize aS aJ.id i x.itms=bb at *;obtain⟨w1,hw1⟩:∃w1,w1=w0.alloc (.cells #[I J t.id,I J t.feed,I J t.date,V t.guid,V t.title,V t.link,.bool t.read,.bool t.star,U v.1 t.tags.length v.2] 82):=⟨_,rfl⟩;have f1:aa ac w0 w1:=by rw[hw1];exact(fR w0).alloc _
 have hz1:=hz0.frm f1 id;have hb1:ai w1 w0.heap.size 82 #[I J t.id,I J t.feed,I J t.date,V t.guid,V t.title,V t.link,.bool t.read,.bool t.star,U v.1 t.tags.length v.2]:=by rw[hw1];exact ai.new w0 _ _
 obtain⟨q0,q1,q2,q3,q4,q5,q6,q7,q8⟩:=F5 hb1;have K:=h_ (Bg t (hv.frm f1 λ_ _=>id) (by omega));have yi:=h_ hw0;have OU:=h_ hw1;have HZ:=h_ hz1;have HF:=h_ (f0.trans f1);clear h h0 hv hl h8 f0 f1 hz0 hz1 hb1 hw1;rw[hw0] at c0 c1 c2 c3 c4 c5 c6 c7 c8 hl2;clear hw0;go_enter Tryz.func95,Tryz.ntmps95;go_wp2_with (go_at_call 60;rw[←yi.out,←OU.out];refine K.out.mono ?_;rintro r w2 ⟨v',rfl,dL,hf2⟩;have Dz:=h_ dL;have qx:=h_ hf2;have z2:=HZ.out.frm hf2 id;obtain⟨p0,p1,p2,p3,p4,p5,p6,p7,p8⟩:=F5 z2;have g0:=z2.frozen 0;have g1:=z2.frozen 1;have g2:=z2.frozen 2;have g3:=z2.frozen 3;have g4:=z2.frozen 4;have g5:=z2.frozen 5;have g6:=z2.frozen 6;have g7:=z2.frozen 7;have g8:=z2.frozen 8;have Rl:=h_ z2;clear z2 dL hf2);obtain⟨w4,hw4⟩:∃w4,w4=w2.setCells w.heap.size 0 [I J t.id,I J t.feed,I J t.date,V t.guid,V t.title,V t.link,.bool t.read,.bool t.star,U v'.1 t.tags.length v'.2]:=⟨_,rfl⟩;have hb5:ai w4 w.heap.size 82 #[I J t.id,I J t.feed,I J t.date,V t.guid,V t.title,V t.link,.bool t.read,.bool t.star,U v'.1 t.tags.length v'.2]:=by rw[hw4,←i7 (I J 0) (I J 0) (I J 0) (V ⟨#[]⟩) (V ⟨#[]⟩) (V ⟨#[]⟩) (.bool false) (.bool false) (U none 0 0)];exact ai.putL [I J t.id,I J t.feed,I J t.date,V t.guid,V t.title,V t.link,.bool t.read,.bool t.star,U v'.1 t.tags.length v'.2] 0 Rl.out
 have F4:aa (λk=>k=w.heap.size) w2 w4:=by rw[hw4];exact aa.setCells [I J t.id,I J t.feed,I J t.date,V t.guid,V t.title,V t.link,.bool t.read,.bool t.star,U v'.1 t.tags.length v'.2] 0 (aa.refl _ _) (.inl rfl)
 have hF:aa ac w w4:=(HF.out.trans qx.out).next F4 λk hk=>.inr (by omega)
 have YX:=HZ.out.lt;have hS:=(Dz.out.frm F4 λk hk e=>by omega).mono λk hk=>(show w.heap.size≤k by omega)
 simp only[World.setCells] at hw4;rw[←hw4];refine bodyPost_ret (IQ hb5 rfl rfl) rfl ?_;exact⟨v',rfl,hS,hF⟩
theorem sV(l:List ByteArray):l.map Value.string=l.flatMap λi=>[Value.string i]:=by
 induction l with
 | nil=>rfl
 | cons a l ih=>rw[List.map_cons,ih,List.flatMap_cons];rfl
theorem DC(l l':List ByteArray)(hv0:aN w G 1 v l.length (l.map Value.string))(PN:aN w G' 1 v' l'.length (l'.map Value.string))(hn:l.length≤1000000)(hn':l'.length≤1000000):
  Calls pQ 81 #[U v.1 l.length v.2,U v'.1 l'.length v'.2] w λe w'=>e=.returned (.bool (decide (l=l')))∧aa ac w w':=by
 have hv:=hv0;have hv':=PN;rw[sV] at hv hv';clear hv0 PN;obtain⟨A,c⟩:=v;obtain⟨A',c'⟩:=v';dsimp only
 by_cases Cw:l.length=l'.length
 ·rw[←Cw]
  obtain⟨n,lG⟩:∃n,l.length=n:=⟨_,rfl⟩;have HL:=h_ lG;have U9:=h_ Cw;have HV:=h_ hv;have Sy:=h_ hv';rw[lG] at hn ⊢;clear hv hv' Cw lG hn';go_enter Tryz.func81,Tryz.ntmps81;go_wp2
  go_loopw [5] (λkv wr=>∃k:Nat,k≤n∧kv=I J k∧l.take k=l'.take k∧aa ac w wr) (λkv _=>n-(intOf kv).toNat)
  case atStart=>exact⟨0,by omega,rfl,by simp,aa.refl _ _⟩
  case round=>
   obtain⟨k,hk,rfl,ht,hf⟩:=hrel;have HT:=h_ ht;have HF:=h_ hf;clear ht hf
   by_cases hlt:k<n
   ·have dX:k<l.length:=by rw[HL.out];exact hlt
    have mP:k<l'.length:=by rw[←U9.out];exact dX
    obtain⟨b,off,hA,-,hbl,hcell⟩:=(HV.out.nix HF.out).at_ (f:=λi=>[Value.string i]) (λ_=>rfl) (by decide) (by omega);obtain⟨b',off',hA',-,DD,iQ⟩:=(Sy.out.nix HF.out).at_ (f:=λi=>[Value.string i]) (λ_=>rfl) (by decide) (by omega);dsimp only at hA hA';subst hA;subst hA';have x0:=hcell k dX 0 _ rfl;have y0:=iQ k mP 0 _ rfl;rw[Nat.mul_one,Nat.add_zero] at x0 y0;have vd:=h_ (vg dX mP);have HEq:=h_ (vh dX mP HT.out);clear hcell iQ;generalize l[k]=p at *;generalize l'[k]=q at *
    by_cases he:p=q
    ·subst he
     have HE:=h_ (HEq.out rfl);go_wp2;go_quiet (fail);go_wp2;go_roundw
     case rel=>exact⟨k+1,by omega,by go_num,HE.out,HF.out.drewN _⟩
     case measure=>simp[intOf];omega
    ·have hq:¬p.toList=q.toList:=λe=>he (gv.1 e)
     have nk:(p.toList==q.toList)=false:=by simp[hq]
     have HE:=h_ (vd.out he);clear he;go_wp2;go_quiet (fail);go_wp2;go_ret;exact⟨af (decide_eq_false HE.out).symm,HF.out.drewN _⟩
   ·obtain rfl:k=n:=by omega
    have HE:Hid (l=l'):=by
     have:=HT.out;rw[List.take_of_length_le (by rw[HL.out];exact Nat.le_refl _),List.take_of_length_le (by rw[←U9.out,HL.out];exact Nat.le_refl _)] at this;exact this
    go_wp2;go_ret;exact⟨af (decide_eq_true HE.out).symm,HF.out⟩
 ·have HE:Hid (l≠l'):=λe=>Cw (by rw[e])
  clear hv hv';have hne:¬((l.length:Int)=(l'.length:Int)):=by omega
  generalize xh:l.length=n1 at *;generalize nk:l'.length=n2 at *;clear xh nk;go_enter Tryz.func81,Tryz.ntmps81;go_wp2;go_ret;exact⟨af (decide_eq_false HE.out).symm,aa.refl _ _⟩
theorem IV(t t':aJ):decide (t=t')=(decide (t.id=t'.id)&&(decide (t.feed=t'.feed)&&(decide (t.date=t'.date)&&(decide (t.guid=t'.guid)&&(decide (t.title=t'.title)&&(decide (t.link=t'.link)&&(decide (t.read=t'.read)&&(decide (t.star=t'.star)&&decide (t.tags=t'.tags))))))))):=by
 rw[Bool.eq_iff_iff];simp only[Bool.and_eq_true,decide_eq_true_eq];constructor
 ·rintro rfl;simp
 ·rintro⟨h1,h2,h3,h4,h5,h6,h7,h8,h9⟩
  cases t
  cases t'
  simp_all
theorem xz(t t':aJ)(hv:aN w G 1 v t.tags.length (t.tags.map Value.string))(hv':aN w G' 1 v' t'.tags.length (t'.tags.map Value.string))(hn:t.tags.length≤1000000)(hn':t'.tags.length≤1000000):
  Calls pQ 36 #[.agg #[I J t.id,I J t.feed,I J t.date,V t.guid,V t.title,V t.link,.bool t.read,.bool t.star,U v.1 t.tags.length v.2],.agg #[I J t'.id,I J t'.feed,I J t'.date,V t'.guid,V t'.title,V t'.link,.bool t'.read,.bool t'.star,U v'.1 t'.tags.length v'.2]] w λe w'=>e=.returned (.bool (decide (t=t')))∧aa ac w w':=by
 have K:Hid (∀W,aa ac w W→Calls pQ 81 #[U v.1 t.tags.length v.2,U v'.1 t'.tags.length v'.2] W λe w'=>e=.returned (.bool (decide (t.tags=t'.tags)))∧aa ac w w'):=λW hW=>(DC t.tags t'.tags (hv.nix hW) (hv'.nix hW) hn hn').mono λe w' q=>⟨q.1,hW.trans q.2⟩
 have HI:=h_ (IV t t');clear hv hv' hn hn';generalize decide (t=t')=bx at *;generalize decide (t.tags=t'.tags)=bt at *;generalize t.tags.length=n1 at *;generalize t'.tags.length=n2 at *;generalize t.id=x0 at *;generalize t'.id=y0 at *;generalize t.feed=x1 at *;generalize t'.feed=y1 at *;generalize t.date=x2 at *;generalize t'.date=y2 at *;generalize t.guid=x3 at *;generalize t'.guid=y3 at *;generalize t.title=x4 at *;generalize t'.title=y4 at *;generalize t.link=x5 at *;generalize t'.link=y5 at *;generalize t.read=x6 at *;generalize t'.read=y6 at *;generalize t.star=x7 at *;generalize t'.star=y7 at *
 by_cases h0:x0=y0
 case neg=>
  go_enter Tryz.func36,Tryz.ntmps36;go_wp2;go_ret;exact⟨af (by rw[HI.out];simp[*]),((fR w).alloc _).alloc _⟩
 subst h0
 by_cases h1:x1=y1
 case neg=>
  go_enter Tryz.func36,Tryz.ntmps36;go_wp2;go_ret;exact⟨af (by rw[HI.out];simp[*]),((fR w).alloc _).alloc _⟩
 subst h1
 by_cases h2:x2=y2
 case neg=>
  go_enter Tryz.func36,Tryz.ntmps36;go_wp2;go_ret;exact⟨af (by rw[HI.out];simp[*]),((fR w).alloc _).alloc _⟩
 subst h2
 by_cases h3:x3=y3
 case neg=>
  have hq:¬x3.toList=y3.toList:=λe=>h3 (gv.1 e)
  go_enter Tryz.func36,Tryz.ntmps36;go_wp2;go_ret;exact⟨af (by rw[HI.out];simp[*]),((fR w).alloc _).alloc _⟩
 subst h3
 by_cases h4:x4=y4
 case neg=>
  have hq:¬x4.toList=y4.toList:=λe=>h4 (gv.1 e)
  go_enter Tryz.func36,Tryz.ntmps36;go_wp2;go_ret;exact⟨af (by rw[HI.out];simp[*]),((fR w).alloc _).alloc _⟩
 subst h4
 by_cases h5:x5=y5
 case neg=>
  have hq:¬x5.toList=y5.toList:=λe=>h5 (gv.1 e)
  go_enter Tryz.func36,Tryz.ntmps36;go_wp2;go_ret;exact⟨af (by rw[HI.out];simp[*]),((fR w).alloc _).alloc _⟩
 subst h5
 by_cases h6:x6=y6
 case neg=>
  go_enter Tryz.func36,Tryz.ntmps36;go_wp2;go_ret;exact⟨af (by rw[HI.out];simp[*]),((fR w).alloc _).alloc _⟩
 subst h6
 by_cases h7:x7=y7
 case neg=>
  go_enter Tryz.func36,Tryz.ntmps36;go_wp2;go_ret;exact⟨af (by rw[HI.out];simp[*]),((fR w).alloc _).alloc _⟩
 subst h7;have K2:=h_ (K.out ((w.alloc (.cells #[I J x0,I J x1,I J x2,V x3,V x4,V x5,.bool x6,.bool x7,U v.1 n1 v.2] 82)).alloc (.cells #[I J x0,I J x1,I J x2,V x3,V x4,V x5,.bool x6,.bool x7,U v'.1 n2 v'.2] 82)) (((fR w).alloc _).alloc _));go_enter Tryz.func36,Tryz.ntmps36;go_wp2_with (go_at_call 81;refine K2.out.mono ?_;rintro r w2 ⟨rfl,hf2⟩;have qx:=h_ hf2;clear hf2);go_ret;exact⟨af (by rw[HI.out];simp[*]),qx.out⟩
theorem WR(h:aM w G fo fe it se ts x)(h':aM w G' fo' fe' it' se' ts' y)(hs:aH x)(hs':aH y)(hl:x.fols.length=y.fols.length∧x.fees.length=y.fees.length∧x.itms.length=y.itms.length∧x.seas.length=y.seas.length)(hF:aa ac w wc)(hb:ai wc b1 36 #[I J x.clock,U fo.1 x.fols.length fo.2,U fe.1 x.fees.length fe.2,U it.1 x.itms.length it.2,U se.1 x.seas.length se.2,I J x.tFol,I J x.tFee,I J x.tItm,I J x.tSea])(hb':ai wc b2 36 #[I J y.clock,U fo'.1 y.fols.length fo'.2,U fe'.1 y.fees.length fe'.2,U it'.1 y.itms.length it'.2,U se'.1 y.seas.length se'.2,I J y.tFol,I J y.tFee,I J y.tItm,I J y.tSea])(e1:x.fols=y.fols)(e2:x.fees=y.fees)(e3:x.itms=y.itms)(e4:x.seas=y.seas):
  Code.wp pQ (aj 6 (ae Tryz.f16)) (bodyPost pQ Tryz.f16 λe w'=>e=.returned (.bool (decide (x=y)))∧aa ac w w') ⟨#[u0,u1,O (some ⟨b1,0,none⟩),O (some ⟨b2,0,none⟩),u4,u5,u6,u7,u8,u9,u10,u11,u12,u13,u14,u15,u16,eG,eH,eI,eJ,eK,eM,u23,u24,eO,u26,eW,u28,eX,eY,eZ,u32,u33,fh,fj,u36,fk,u38,fw,fx,fy,fG,fH,u44,u45,fJ,fK,gC,gD,gw,gy,gj,gl,gm,gp,fM,fO,fP,fQ,fU,fV,fW,fX,u64,fY,fZ,gc,gg,gF,gO,gP,gQ,gR,gS,gT,gU,gV,gW,gX,gY,gZ,g9,hZ,ie,ig,ii,ij,il,im,io,ip,iw,ix,iy,iz,iJ,iK,iM,iO,cJ,cK,cL,cM,cN,cO,cP,cQ,bH,bI,bJ,bK,bM,bN,bO,bP,bQ,bR,bS,bT,bU,bV,bW,bX,bY,bZ,cd,cg,cj,cn,cq,ct,cz,cA,cC,cD,cE,cF,u138,cG,cR,cS,cT,cU,dz,dA,dB,dC,dD],[]⟩ wc:=by
 obtain⟨x0,x1,x2,x3,x4,x5,x6,x7,x8⟩:=ak hb;obtain⟨y0,y1,y2,y3,y4,y5,y6,y7,y8⟩:=ak hb'
 have HI:Hid (decide (x=y)=(decide (x.clock=y.clock)&&(decide (x.tFol=y.tFol)&&(decide (x.tFee=y.tFee)&&(decide (x.tItm=y.tItm)&&decide (x.tSea=y.tSea)))))):=by
  unfold Hid;rw[Nh,e1,e2,e3,e4];simp
 have HF:=h_ hF;clear h h' hs hs' hl hF hb hb' e1 e2 e3 e4 x1 x2 x3 x4 y1 y2 y3 y4;generalize decide (x=y)=bx at *;generalize x.clock=i0 at *;generalize y.clock=j0 at *;generalize x.tFol=i1 at *;generalize y.tFol=j1 at *;generalize x.tFee=i2 at *;generalize y.tFee=j2 at *;generalize x.tItm=i3 at *;generalize y.tItm=j3 at *;generalize x.tSea=i4 at *;generalize y.tSea=j4 at *;simp only[aj,ae,Tryz.f16]
 by_cases h0:i0=j0
 case neg=>
  go_wp2;go_ret;exact⟨af (by rw[HI.out];simp[*]),HF.out⟩
 subst h0
 by_cases h1:i1=j1
 case neg=>
  go_wp2;go_ret;exact⟨af (by rw[HI.out];simp[*]),HF.out⟩
 subst h1
 by_cases h2:i2=j2
 case neg=>
  go_wp2;go_ret;exact⟨af (by rw[HI.out];simp[*]),HF.out⟩
 subst h2
 by_cases h3:i3=j3
 case neg=>
  go_wp2;go_ret;exact⟨af (by rw[HI.out];simp[*]),HF.out⟩
 subst h3
 by_cases h4:i4=j4
 case neg=>
  go_wp2;go_ret;exact⟨af (by rw[HI.out];simp[*]),HF.out⟩
 subst h4;go_wp2;go_ret;exact⟨af (by rw[HI.out];simp),HF.out⟩
theorem WS(h:aM w G fo fe it se ts x)(h':aM w G' fo' fe' it' se' ts' y)(hs:aH x)(hs':aH y)(hl:x.fols.length=y.fols.length∧x.fees.length=y.fees.length∧x.itms.length=y.itms.length∧x.seas.length=y.seas.length)(hF:aa ac w wc)(hb:ai wc b1 36 #[I J x.clock,U fo.1 x.fols.length fo.2,U fe.1 x.fees.length fe.2,U it.1 x.itms.length it.2,U se.1 x.seas.length se.2,I J x.tFol,I J x.tFee,I J x.tItm,I J x.tSea])(hb':ai wc b2 36 #[I J y.clock,U fo'.1 y.fols.length fo'.2,U fe'.1 y.fees.length fe'.2,U it'.1 y.itms.length it'.2,U se'.1 y.seas.length se'.2,I J y.tFol,I J y.tFee,I J y.tItm,I J y.tSea])(e1:x.fols=y.fols)(e2:x.fees=y.fees)(e3:x.itms=y.itms):
  Code.wp pQ (aj 5 (ae Tryz.f16)) (bodyPost pQ Tryz.f16 λe w'=>e=.returned (.bool (decide (x=y)))∧aa ac w w') ⟨#[u0,u1,O (some ⟨b1,0,none⟩),O (some ⟨b2,0,none⟩),u4,u5,u6,u7,u8,u9,u10,u11,u12,u13,u14,u15,u16,eG,eH,eI,eJ,eK,eM,u23,u24,eO,u26,eW,u28,eX,eY,eZ,u32,u33,fh,fj,u36,fk,u38,fw,fx,fy,fG,fH,u44,u45,fJ,fK,gC,gD,gw,gy,gj,gl,gm,gp,fM,fO,fP,fQ,fU,fV,fW,fX,u64,fY,fZ,gc,gg,gF,gO,gP,gQ,gR,gS,gT,gU,gV,gW,gX,gY,gZ,g9,hZ,ie,ig,ii,ij,il,im,io,ip,iw,ix,iy,iz,iJ,iK,iM,iO,cJ,cK,cL,cM,cN,cO,cP,cQ,bH,bI,bJ,bK,bM,bN,bO,bP,bQ,bR,bS,bT,bU,bV,bW,bX,bY,bZ,cd,cg,cj,cn,cq,ct,cz,cA,cC,cD,cE,cF,u138,cG,cR,cS,cT,cU,dz,dA,dB,dC,dD],[]⟩ wc:=by
 obtain⟨x0,x1,x2,x3,x4,x5,x6,x7,x8⟩:=ak hb;obtain⟨y0,y1,y2,y3,y4,y5,y6,y7,y8⟩:=ak hb';have HH:=h_ (And.intro h h');have nP:=h_ (And.intro hs hs');have Fr:=h_ hl;have HF:=h_ hF;have HB:=h_ (And.intro hb hb');have ew:=hs.seas;have zo:=hl.2.2.2;obtain⟨A,c⟩:=se;obtain⟨A',c'⟩:=se';dsimp only at x1 x2 x3 x4 y1 y2 y3 y4;clear h h' hs hs' hl hF hb hb';have ek:aj 5 (ae Tryz.f16)=.seq (bz (aj 5 (ae Tryz.f16))) (aj 6 (ae Tryz.f16)):=by kernel_rfl
 rw[ek];clear ek;refine wp_seq_k λK hK=>?_
 conv in bz _=>whnf
 go_wp2
 go_loopw [8] (λkv wr=>∃k:Nat,k≤x.seas.length∧kv=I J k∧x.seas.take k=y.seas.take k∧aa ac wc wr) (λkv _=>x.seas.length-(intOf kv).toNat)
 case atStart=>exact⟨0,by omega,rfl,by simp,aa.refl _ _⟩
 case round=>
  obtain⟨k,hk,rfl,ht,hf⟩:=hrel;have HT:=h_ ht;have mK:=h_ hf;have mf:=HB.out.1.frm hf id;have hby:=HB.out.2.frm hf id;have xx:=mf.cell 4;have yy:=hby.cell 4;simp at xx yy;clear ht hf mf hby
  by_cases hlt:k<x.seas.length
  ·have mP:k<y.seas.length:=by rw[←zo];exact hlt
   obtain⟨b,off,hA,-,hbl,hcell⟩:=(HH.out.1.seas.nix (HF.out.trans mK.out)).at_ dE.clen (by decide) (by omega);obtain⟨b',off',hA',-,DD,iQ⟩:=(HH.out.2.seas.nix (HF.out.trans mK.out)).at_ dE.clen (by decide) (by omega);dsimp only at hA hA';subst hA;subst hA';have hc1:=hcell k hlt;have hc2:=iQ k mP;have vd:=h_ (vg hlt mP);have HEq:=h_ (vh hlt mP HT.out);obtain⟨p,hp⟩:∃p,x.seas[k]=p:=⟨_,rfl⟩;obtain⟨q,hq⟩:∃q,y.seas[k]=q:=⟨_,rfl⟩;rw[hp] at hc1 vd HEq;rw[hq] at hc2 vd HEq;obtain⟨p0,p1,p2⟩:=Iz (w:=wr) (b:=b) (off:=off+k * 3) (e:=p) hc1;obtain⟨q0,q1,q2⟩:=Iz (w:=wr) (b:=b') (off:=off'+k * 3) (e:=q) hc2;have hq:=λW=>Ds p q W
   have hg:pQ.eqGuardType pQ.depth 84=false:=by kernel_rfl
   unfold om at hq;clear hcell iQ hc1 hc2 hp
   by_cases he:p=q
   ·rw[decide_eq_true he] at hq
    have HE:=h_ (HEq.out he);clear he;go_wp2;go_quiet (fail);go_wp2;go_roundw
    case rel=>exact⟨k+1,by omega,by go_num,HE.out,mK.out.drewN _⟩
    case measure=>simp[intOf];omega
   ·rw[decide_eq_false he] at hq
    have HE:Hid (x≠y):=λe=>vd.out he (by rw[e])
    clear he;go_wp2;go_quiet (fail);go_wp2;go_ret;exact⟨af (decide_eq_false HE.out).symm,HF.out.trans (mK.out.drewN _)⟩
  ·obtain rfl:k=x.seas.length:=by omega
   have HE:Hid (x.seas=y.seas):=by
    have:=HT.out;rw[List.take_length,zo,List.take_length] at this;exact this
   go_wp2;exact WR HH.out.1 HH.out.2 nP.out.1 nP.out.2 Fr.out (HF.out.trans mK.out) (HB.out.1.frm mK.out id) (HB.out.2.frm mK.out id) e1 e2 e3 HE.out
theorem WT(h:aM w G fo fe it se ts x)(h':aM w G' fo' fe' it' se' ts' y)(hs:aH x)(hs':aH y)(hl:x.fols.length=y.fols.length∧x.fees.length=y.fees.length∧x.itms.length=y.itms.length∧x.seas.length=y.seas.length)(hF:aa ac w wc)(hb:ai wc b1 36 #[I J x.clock,U fo.1 x.fols.length fo.2,U fe.1 x.fees.length fe.2,U it.1 x.itms.length it.2,U se.1 x.seas.length se.2,I J x.tFol,I J x.tFee,I J x.tItm,I J x.tSea])(hb':ai wc b2 36 #[I J y.clock,U fo'.1 y.fols.length fo'.2,U fe'.1 y.fees.length fe'.2,U it'.1 y.itms.length it'.2,U se'.1 y.seas.length se'.2,I J y.tFol,I J y.tFee,I J y.tItm,I J y.tSea])(e1:x.fols=y.fols)(e2:x.fees=y.fees):
  Code.wp pQ (aj 4 (ae Tryz.f16)) (bodyPost pQ Tryz.f16 λe w'=>e=.returned (.bool (decide (x=y)))∧aa ac w w') ⟨#[u0,u1,O (some ⟨b1,0,none⟩),O (some ⟨b2,0,none⟩),u4,u5,u6,u7,u8,u9,u10,u11,u12,u13,u14,u15,u16,eG,eH,eI,eJ,eK,eM,u23,u24,eO,u26,eW,u28,eX,eY,eZ,u32,u33,fh,fj,u36,fk,u38,fw,fx,fy,fG,fH,u44,u45,fJ,fK,gC,gD,gw,gy,gj,gl,gm,gp,fM,fO,fP,fQ,fU,fV,fW,fX,u64,fY,fZ,gc,gg,gF,gO,gP,gQ,gR,gS,gT,gU,gV,gW,gX,gY,gZ,g9,hZ,ie,ig,ii,ij,il,im,io,ip,iw,ix,iy,iz,iJ,iK,iM,iO,cJ,cK,cL,cM,cN,cO,cP,cQ,bH,bI,bJ,bK,bM,bN,bO,bP,bQ,bR,bS,bT,bU,bV,bW,bX,bY,bZ,cd,cg,cj,cn,cq,ct,cz,cA,cC,cD,cE,cF,u138,cG,cR,cS,cT,cU,dz,dA,dB,dC,dD],[]⟩ wc:=by
 obtain⟨x0,x1,x2,x3,x4,x5,x6,x7,x8⟩:=ak hb;obtain⟨y0,y1,y2,y3,y4,y5,y6,y7,y8⟩:=ak hb';have HH:=h_ (And.intro h h');have nP:=h_ (And.intro hs hs');have Fr:=h_ hl;have HF:=h_ hF;have HB:=h_ (And.intro hb hb');have ew:=hs.itms;have zo:=hl.2.2.1;obtain⟨A,c⟩:=it;obtain⟨A',c'⟩:=it';dsimp only at x1 x2 x3 x4 y1 y2 y3 y4;clear h h' hs hs' hl hF hb hb';have ek:aj 4 (ae Tryz.f16)=.seq (bz (aj 4 (ae Tryz.f16))) (aj 5 (ae Tryz.f16)):=by kernel_rfl
 rw[ek];clear ek;refine wp_seq_k λK hK=>?_
 conv in bz _=>whnf
 go_wp2
 go_loopw [7] (λkv wr=>∃k:Nat,k≤x.itms.length∧kv=I J k∧(ts.take k).map (·.2)=(ts'.take k).map (·.2)∧aa ac wc wr) (λkv _=>x.itms.length-(intOf kv).toNat)
 case atStart=>exact⟨0,by omega,rfl,by simp,aa.refl _ _⟩
 case round=>
  obtain⟨k,hk,rfl,ht,hf⟩:=hrel;have HT:=h_ ht;have mK:=h_ hf;have mf:=HB.out.1.frm hf id;have hby:=HB.out.2.frm hf id;have xx:=mf.cell 3;have yy:=hby.cell 3;simp at xx yy;clear ht hf mf hby;have JZ:=HH.out.1.len;have hl2:=HH.out.2.len
  by_cases hlt:k<x.itms.length
  ·have dX:k<ts.length:=by omega
   have mP:k<ts'.length:=by omega
   obtain⟨b,off,hA,-,hbl,hcell⟩:=(HH.out.1.itms.row.nix (HF.out.trans mK.out)).at_ dp (by decide) (by omega);obtain⟨b',off',hA',-,DD,iQ⟩:=(HH.out.2.itms.row.nix (HF.out.trans mK.out)).at_ dp (by decide) (by omega);dsimp only at hA hA';subst hA;subst hA';obtain⟨p,hp,hc1,Va,Sz⟩:∃p:Sl×aJ,ts[k]'dX=p∧(∀(j:Nat) (u:Value),(iY p)[j]? =some u→wr.cell? ⟨b,off+k * 9+j,none⟩=some u)∧aN w G 1 p.1 p.2.tags.length (p.2.tags.map Value.string)∧p.2.tags.length≤1000:=⟨ts[k]'dX,rfl,hcell k dX,HH.out.1.itms.tags _ (List.getElem_mem dX),nP.out.1.tags _ (by rw[←HH.out.1.same];exact List.mem_map_of_mem (List.getElem_mem dX))⟩;obtain⟨q,hq,hc2,IW,PO⟩:∃q:Sl×aJ,ts'[k]'mP=q∧(∀(j:Nat) (u:Value),(iY q)[j]? =some u→wr.cell? ⟨b',off'+k * 9+j,none⟩=some u)∧aN w G' 1 q.1 q.2.tags.length (q.2.tags.map Value.string)∧q.2.tags.length≤1000:=⟨ts'[k]'mP,rfl,iQ k mP,HH.out.2.itms.tags _ (List.getElem_mem mP),nP.out.2.tags _ (by rw[←HH.out.2.same];exact List.mem_map_of_mem (List.getElem_mem mP))⟩;have vd:Hid (p.2≠q.2→ts.map (·.2)≠ts'.map (·.2)):=λhne=>Nf dX mP (by rw[hp,hq];exact hne)
   have HEq:Hid (p.2=q.2→(ts.take (k+1)).map (·.2)=(ts'.take (k+1)).map (·.2)):=λhe=>Ng dX mP HT.out (by rw[hp,hq];exact he)
   have dH:Hid (∀W,aa ac wr W→(λW=>aa ac wr W∧W.cell? ⟨b1,3,none⟩=some (U (some ⟨b,off,none⟩) x.itms.length c)∧W.cell? ⟨b2,3,none⟩=some (U (some ⟨b',off',none⟩) y.itms.length c')∧(W.cell? ⟨b,off+k * 9,none⟩=some (I J p.2.id)∧W.cell? ⟨b,off+k * 9+1,none⟩=some (I J p.2.feed)∧W.cell? ⟨b,off+k * 9+2,none⟩=some (I J p.2.date)∧W.cell? ⟨b,off+k * 9+3,none⟩=some (V p.2.guid)∧W.cell? ⟨b,off+k * 9+4,none⟩=some (V p.2.title)∧W.cell? ⟨b,off+k * 9+5,none⟩=some (V p.2.link)∧W.cell? ⟨b,off+k * 9+6,none⟩=some (.bool p.2.read)∧W.cell? ⟨b,off+k * 9+7,none⟩=some (.bool p.2.star)∧W.cell? ⟨b,off+k * 9+8,none⟩=some (U p.1.1 p.2.tags.length p.1.2))∧W.cell? ⟨b',off'+k * 9,none⟩=some (I J q.2.id)∧W.cell? ⟨b',off'+k * 9+1,none⟩=some (I J q.2.feed)∧W.cell? ⟨b',off'+k * 9+2,none⟩=some (I J q.2.date)∧W.cell? ⟨b',off'+k * 9+3,none⟩=some (V q.2.guid)∧W.cell? ⟨b',off'+k * 9+4,none⟩=some (V q.2.title)∧W.cell? ⟨b',off'+k * 9+5,none⟩=some (V q.2.link)∧W.cell? ⟨b',off'+k * 9+6,none⟩=some (.bool q.2.read)∧W.cell? ⟨b',off'+k * 9+7,none⟩=some (.bool q.2.star)∧W.cell? ⟨b',off'+k * 9+8,none⟩=some (U q.1.1 q.2.tags.length q.1.2)) W):=λW hW=>⟨hW,by rw[hW.cell (p:=⟨b1,3,none⟩) (HB.out.1.frm mK.out id).lt id];exact xx,by rw[hW.cell (p:=⟨b2,3,none⟩) (HB.out.2.frm mK.out id).lt id];exact yy,wn (λj u hu=>(hW.cell (p:=⟨b,off+k * 9+j,none⟩) hbl id).trans (hc1 j u hu)),wn (λj u hu=>(hW.cell (p:=⟨b',off'+k * 9+j,none⟩) DD id).trans (hc2 j u hu))⟩
   have K:Hid (∀W,aa ac wr W→Calls pQ 36 #[.agg #[I J p.2.id,I J p.2.feed,I J p.2.date,V p.2.guid,V p.2.title,V p.2.link,.bool p.2.read,.bool p.2.star,U p.1.1 p.2.tags.length p.1.2],.agg #[I J q.2.id,I J q.2.feed,I J q.2.date,V q.2.guid,V q.2.title,V q.2.link,.bool q.2.read,.bool q.2.star,U q.1.1 q.2.tags.length q.1.2]] W λe w'=>e=.returned (.bool (decide (p.2=q.2)))∧aa ac wr w'):=λW hW=>
    (xz p.2 q.2 (Va.nix ((HF.out.trans mK.out).trans hW)) (IW.nix ((HF.out.trans mK.out).trans hW)) (by omega) (by omega)).mono λe w' r=>⟨r.1,hW.trans r.2⟩
   clear hcell iQ hc1 hc2 Va IW hp hq
   by_cases he:p.2=q.2
   ·rw[decide_eq_true he] at K
    have HE:=h_ (HEq.out he);clear he;go_wp2
    go_region_held3 (λW=>aa ac wr W∧W.cell? ⟨b1,3,none⟩=some (U (some ⟨b,off,none⟩) x.itms.length c)∧W.cell? ⟨b2,3,none⟩=some (U (some ⟨b',off',none⟩) y.itms.length c')∧(W.cell? ⟨b,off+k * 9,none⟩=some (I J p.2.id)∧W.cell? ⟨b,off+k * 9+1,none⟩=some (I J p.2.feed)∧W.cell? ⟨b,off+k * 9+2,none⟩=some (I J p.2.date)∧W.cell? ⟨b,off+k * 9+3,none⟩=some (V p.2.guid)∧W.cell? ⟨b,off+k * 9+4,none⟩=some (V p.2.title)∧W.cell? ⟨b,off+k * 9+5,none⟩=some (V p.2.link)∧W.cell? ⟨b,off+k * 9+6,none⟩=some (.bool p.2.read)∧W.cell? ⟨b,off+k * 9+7,none⟩=some (.bool p.2.star)∧W.cell? ⟨b,off+k * 9+8,none⟩=some (U p.1.1 p.2.tags.length p.1.2))∧W.cell? ⟨b',off'+k * 9,none⟩=some (I J q.2.id)∧W.cell? ⟨b',off'+k * 9+1,none⟩=some (I J q.2.feed)∧W.cell? ⟨b',off'+k * 9+2,none⟩=some (I J q.2.date)∧W.cell? ⟨b',off'+k * 9+3,none⟩=some (V q.2.guid)∧W.cell? ⟨b',off'+k * 9+4,none⟩=some (V q.2.title)∧W.cell? ⟨b',off'+k * 9+5,none⟩=some (V q.2.link)∧W.cell? ⟨b',off'+k * 9+6,none⟩=some (.bool q.2.read)∧W.cell? ⟨b',off'+k * 9+7,none⟩=some (.bool q.2.star)∧W.cell? ⟨b',off'+k * 9+8,none⟩=some (U q.1.1 q.2.tags.length q.1.2)) ((refine dH.out _ ?_;repeat' (first|with_reducible exact aa.refl _ _|with_reducible apply aa.drew|with_reducible exact hz))) (first|(go_at_call 36;refine(K.out _ (by repeat' (first|with_reducible exact aa.refl _ _|with_reducible apply aa.drew))).mono ?_;rintro r w2 ⟨rfl,hz⟩;have HZ:=h_ hz))
    all_goals
     go_wp2;go_roundw
     case rel=>exact⟨k+1,by omega,by go_num,HE.out,mK.out.trans HZ.out⟩
     case measure=>simp[intOf];omega
   ·rw[decide_eq_false he] at K
    have HE:Hid (x≠y):=λe=>vd.out he (by rw[HH.out.1.same,HH.out.2.same,e])
    clear he;go_wp2
    go_region_held3 (λW=>aa ac wr W∧W.cell? ⟨b1,3,none⟩=some (U (some ⟨b,off,none⟩) x.itms.length c)∧W.cell? ⟨b2,3,none⟩=some (U (some ⟨b',off',none⟩) y.itms.length c')∧(W.cell? ⟨b,off+k * 9,none⟩=some (I J p.2.id)∧W.cell? ⟨b,off+k * 9+1,none⟩=some (I J p.2.feed)∧W.cell? ⟨b,off+k * 9+2,none⟩=some (I J p.2.date)∧W.cell? ⟨b,off+k * 9+3,none⟩=some (V p.2.guid)∧W.cell? ⟨b,off+k * 9+4,none⟩=some (V p.2.title)∧W.cell? ⟨b,off+k * 9+5,none⟩=some (V p.2.link)∧W.cell? ⟨b,off+k * 9+6,none⟩=some (.bool p.2.read)∧W.cell? ⟨b,off+k * 9+7,none⟩=some (.bool p.2.star)∧W.cell? ⟨b,off+k * 9+8,none⟩=some (U p.1.1 p.2.tags.length p.1.2))∧W.cell? ⟨b',off'+k * 9,none⟩=some (I J q.2.id)∧W.cell? ⟨b',off'+k * 9+1,none⟩=some (I J q.2.feed)∧W.cell? ⟨b',off'+k * 9+2,none⟩=some (I J q.2.date)∧W.cell? ⟨b',off'+k * 9+3,none⟩=some (V q.2.guid)∧W.cell? ⟨b',off'+k * 9+4,none⟩=some (V q.2.title)∧W.cell? ⟨b',off'+k * 9+5,none⟩=some (V q.2.link)∧W.cell? ⟨b',off'+k * 9+6,none⟩=some (.bool q.2.read)∧W.cell? ⟨b',off'+k * 9+7,none⟩=some (.bool q.2.star)∧W.cell? ⟨b',off'+k * 9+8,none⟩=some (U q.1.1 q.2.tags.length q.1.2)) ((refine dH.out _ ?_;repeat' (first|with_reducible exact aa.refl _ _|with_reducible apply aa.drew|with_reducible exact hz))) (first|(go_at_call 36;refine(K.out _ (by repeat' (first|with_reducible exact aa.refl _ _|with_reducible apply aa.drew))).mono ?_;rintro r w2 ⟨rfl,hz⟩;have HZ:=h_ hz))
    all_goals
     go_wp2;go_ret;exact⟨af (decide_eq_false HE.out).symm,HF.out.trans (mK.out.trans HZ.out)⟩
  ·obtain rfl:k=x.itms.length:=by omega
   have HE:Hid (x.itms=y.itms):=by
    have:=HT.out;rw[List.take_of_length_le (by omega),List.take_of_length_le (by omega),HH.out.1.same,HH.out.2.same] at this;exact this
   go_wp2;exact WS HH.out.1 HH.out.2 nP.out.1 nP.out.2 Fr.out (HF.out.trans mK.out) (HB.out.1.frm mK.out id) (HB.out.2.frm mK.out id) e1 e2 HE.out
theorem WU(h:aM w G fo fe it se ts x)(h':aM w G' fo' fe' it' se' ts' y)(hs:aH x)(hs':aH y)(hl:x.fols.length=y.fols.length∧x.fees.length=y.fees.length∧x.itms.length=y.itms.length∧x.seas.length=y.seas.length)(hF:aa ac w wc)(hb:ai wc b1 36 #[I J x.clock,U fo.1 x.fols.length fo.2,U fe.1 x.fees.length fe.2,U it.1 x.itms.length it.2,U se.1 x.seas.length se.2,I J x.tFol,I J x.tFee,I J x.tItm,I J x.tSea])(hb':ai wc b2 36 #[I J y.clock,U fo'.1 y.fols.length fo'.2,U fe'.1 y.fees.length fe'.2,U it'.1 y.itms.length it'.2,U se'.1 y.seas.length se'.2,I J y.tFol,I J y.tFee,I J y.tItm,I J y.tSea])(e1:x.fols=y.fols):
  Code.wp pQ (aj 3 (ae Tryz.f16)) (bodyPost pQ Tryz.f16 λe w'=>e=.returned (.bool (decide (x=y)))∧aa ac w w') ⟨#[u0,u1,O (some ⟨b1,0,none⟩),O (some ⟨b2,0,none⟩),u4,u5,u6,u7,u8,u9,u10,u11,u12,u13,u14,u15,u16,eG,eH,eI,eJ,eK,eM,u23,u24,eO,u26,eW,u28,eX,eY,eZ,u32,u33,fh,fj,u36,fk,u38,fw,fx,fy,fG,fH,u44,u45,fJ,fK,gC,gD,gw,gy,gj,gl,gm,gp,fM,fO,fP,fQ,fU,fV,fW,fX,u64,fY,fZ,gc,gg,gF,gO,gP,gQ,gR,gS,gT,gU,gV,gW,gX,gY,gZ,g9,hZ,ie,ig,ii,ij,il,im,io,ip,iw,ix,iy,iz,iJ,iK,iM,iO,cJ,cK,cL,cM,cN,cO,cP,cQ,bH,bI,bJ,bK,bM,bN,bO,bP,bQ,bR,bS,bT,bU,bV,bW,bX,bY,bZ,cd,cg,cj,cn,cq,ct,cz,cA,cC,cD,cE,cF,u138,cG,cR,cS,cT,cU,dz,dA,dB,dC,dD],[]⟩ wc:=by
 obtain⟨x0,x1,x2,x3,x4,x5,x6,x7,x8⟩:=ak hb;obtain⟨y0,y1,y2,y3,y4,y5,y6,y7,y8⟩:=ak hb';have HH:=h_ (And.intro h h');have nP:=h_ (And.intro hs hs');have Fr:=h_ hl;have HF:=h_ hF;have HB:=h_ (And.intro hb hb');have ew:=hs.fees;have zo:=hl.2.1;obtain⟨A,c⟩:=fe;obtain⟨A',c'⟩:=fe';dsimp only at x1 x2 x3 x4 y1 y2 y3 y4;clear h h' hs hs' hl hF hb hb';have ek:aj 3 (ae Tryz.f16)=.seq (bz (aj 3 (ae Tryz.f16))) (aj 4 (ae Tryz.f16)):=by kernel_rfl
 rw[ek];clear ek;refine wp_seq_k λK hK=>?_
 conv in bz _=>whnf
 go_wp2
 go_loopw [6] (λkv wr=>∃k:Nat,k≤x.fees.length∧kv=I J k∧x.fees.take k=y.fees.take k∧aa ac wc wr) (λkv _=>x.fees.length-(intOf kv).toNat)
 case atStart=>exact⟨0,by omega,rfl,by simp,aa.refl _ _⟩
 case round=>
  obtain⟨k,hk,rfl,ht,hf⟩:=hrel;have HT:=h_ ht;have mK:=h_ hf;have mf:=HB.out.1.frm hf id;have hby:=HB.out.2.frm hf id;have xx:=mf.cell 2;have yy:=hby.cell 2;simp at xx yy;clear ht hf mf hby
  by_cases hlt:k<x.fees.length
  ·have mP:k<y.fees.length:=by rw[←zo];exact hlt
   obtain⟨b,off,hA,-,hbl,hcell⟩:=(HH.out.1.fees.nix (HF.out.trans mK.out)).at_ aP.clen (by decide) (by omega);obtain⟨b',off',hA',-,DD,iQ⟩:=(HH.out.2.fees.nix (HF.out.trans mK.out)).at_ aP.clen (by decide) (by omega);dsimp only at hA hA';subst hA;subst hA';have hc1:=hcell k hlt;have hc2:=iQ k mP;have vd:=h_ (vg hlt mP);have HEq:=h_ (vh hlt mP HT.out);obtain⟨p,hp⟩:∃p,x.fees[k]=p:=⟨_,rfl⟩;obtain⟨q,hq⟩:∃q,y.fees[k]=q:=⟨_,rfl⟩;rw[hp] at hc1 vd HEq;rw[hq] at hc2 vd HEq;obtain⟨p0,p1,p2,p3⟩:=Bi (w:=wr) (b:=b) (off:=off+k * 4) (e:=p) hc1;obtain⟨q0,q1,q2,q3⟩:=Bi (w:=wr) (b:=b') (off:=off'+k * 4) (e:=q) hc2;have hq:=λW=>Dr p q W
   have hg:pQ.eqGuardType pQ.depth 64=false:=by kernel_rfl
   unfold lp at hq;clear hcell iQ hc1 hc2 hp
   by_cases he:p=q
   ·rw[decide_eq_true he] at hq
    have HE:=h_ (HEq.out he);clear he;go_wp2;go_quiet (fail);go_wp2;go_roundw
    case rel=>exact⟨k+1,by omega,by go_num,HE.out,mK.out.drewN _⟩
    case measure=>simp[intOf];omega
   ·rw[decide_eq_false he] at hq
    have HE:Hid (x≠y):=λe=>vd.out he (by rw[e])
    clear he;go_wp2;go_quiet (fail);go_wp2;go_ret;exact⟨af (decide_eq_false HE.out).symm,HF.out.trans (mK.out.drewN _)⟩
  ·obtain rfl:k=x.fees.length:=by omega
   have HE:Hid (x.fees=y.fees):=by
    have:=HT.out;rw[List.take_length,zo,List.take_length] at this;exact this
   go_wp2;exact WT HH.out.1 HH.out.2 nP.out.1 nP.out.2 Fr.out (HF.out.trans mK.out) (HB.out.1.frm mK.out id) (HB.out.2.frm mK.out id) e1 HE.out
theorem WV(h:aM w G fo fe it se ts x)(h':aM w G' fo' fe' it' se' ts' y)(hs:aH x)(hs':aH y)(hl:x.fols.length=y.fols.length∧x.fees.length=y.fees.length∧x.itms.length=y.itms.length∧x.seas.length=y.seas.length)(hF:aa ac w wc)(hb:ai wc b1 36 #[I J x.clock,U fo.1 x.fols.length fo.2,U fe.1 x.fees.length fe.2,U it.1 x.itms.length it.2,U se.1 x.seas.length se.2,I J x.tFol,I J x.tFee,I J x.tItm,I J x.tSea])(hb':ai wc b2 36 #[I J y.clock,U fo'.1 y.fols.length fo'.2,U fe'.1 y.fees.length fe'.2,U it'.1 y.itms.length it'.2,U se'.1 y.seas.length se'.2,I J y.tFol,I J y.tFee,I J y.tItm,I J y.tSea]):
  Code.wp pQ (aj 2 (ae Tryz.f16)) (bodyPost pQ Tryz.f16 λe w'=>e=.returned (.bool (decide (x=y)))∧aa ac w w') ⟨#[u0,u1,O (some ⟨b1,0,none⟩),O (some ⟨b2,0,none⟩),u4,u5,u6,u7,u8,u9,u10,u11,u12,u13,u14,u15,u16,eG,eH,eI,eJ,eK,eM,u23,u24,eO,u26,eW,u28,eX,eY,eZ,u32,u33,fh,fj,u36,fk,u38,fw,fx,fy,fG,fH,u44,u45,fJ,fK,gC,gD,gw,gy,gj,gl,gm,gp,fM,fO,fP,fQ,fU,fV,fW,fX,u64,fY,fZ,gc,gg,gF,gO,gP,gQ,gR,gS,gT,gU,gV,gW,gX,gY,gZ,g9,hZ,ie,ig,ii,ij,il,im,io,ip,iw,ix,iy,iz,iJ,iK,iM,iO,cJ,cK,cL,cM,cN,cO,cP,cQ,bH,bI,bJ,bK,bM,bN,bO,bP,bQ,bR,bS,bT,bU,bV,bW,bX,bY,bZ,cd,cg,cj,cn,cq,ct,cz,cA,cC,cD,cE,cF,u138,cG,cR,cS,cT,cU,dz,dA,dB,dC,dD],[]⟩ wc:=by
 obtain⟨x0,x1,x2,x3,x4,x5,x6,x7,x8⟩:=ak hb;obtain⟨y0,y1,y2,y3,y4,y5,y6,y7,y8⟩:=ak hb';have HH:=h_ (And.intro h h');have nP:=h_ (And.intro hs hs');have Fr:=h_ hl;have HF:=h_ hF;have HB:=h_ (And.intro hb hb');have ew:=hs.fols;have zo:=hl.1;obtain⟨A,c⟩:=fo;obtain⟨A',c'⟩:=fo';dsimp only at x1 x2 x3 x4 y1 y2 y3 y4;clear h h' hs hs' hl hF hb hb';have ek:aj 2 (ae Tryz.f16)=.seq (bz (aj 2 (ae Tryz.f16))) (aj 3 (ae Tryz.f16)):=by kernel_rfl
 rw[ek];clear ek;refine wp_seq_k λK hK=>?_
 conv in bz _=>whnf
 go_wp2
 go_loopw [5] (λkv wr=>∃k:Nat,k≤x.fols.length∧kv=I J k∧x.fols.take k=y.fols.take k∧aa ac wc wr) (λkv _=>x.fols.length-(intOf kv).toNat)
 case atStart=>exact⟨0,by omega,rfl,by simp,aa.refl _ _⟩
 case round=>
  obtain⟨k,hk,rfl,ht,hf⟩:=hrel;have HT:=h_ ht;have mK:=h_ hf;have mf:=HB.out.1.frm hf id;have hby:=HB.out.2.frm hf id;have xx:=mf.cell 1;have yy:=hby.cell 1;simp at xx yy;clear ht hf mf hby
  by_cases hlt:k<x.fols.length
  ·have mP:k<y.fols.length:=by rw[←zo];exact hlt
   obtain⟨b,off,hA,-,hbl,hcell⟩:=(HH.out.1.fols.nix (HF.out.trans mK.out)).at_ bg.clen (by decide) (by omega);obtain⟨b',off',hA',-,DD,iQ⟩:=(HH.out.2.fols.nix (HF.out.trans mK.out)).at_ bg.clen (by decide) (by omega);dsimp only at hA hA';subst hA;subst hA';have hc1:=hcell k hlt;have hc2:=iQ k mP;have vd:=h_ (vg hlt mP);have HEq:=h_ (vh hlt mP HT.out);obtain⟨p,hp⟩:∃p,x.fols[k]=p:=⟨_,rfl⟩;obtain⟨q,hq⟩:∃q,y.fols[k]=q:=⟨_,rfl⟩;rw[hp] at hc1 vd HEq;rw[hq] at hc2 vd HEq;obtain⟨p0,p1,p2⟩:=Bh (w:=wr) (b:=b) (off:=off+k * 3) (e:=p) hc1;obtain⟨q0,q1,q2⟩:=Bh (w:=wr) (b:=b') (off:=off'+k * 3) (e:=q) hc2;have hq:=λW=>Dq p q W
   have hg:pQ.eqGuardType pQ.depth 79=false:=by kernel_rfl
   unfold oh at hq;clear hcell iQ hc1 hc2 hp
   by_cases he:p=q
   ·rw[decide_eq_true he] at hq
    have HE:=h_ (HEq.out he);clear he;go_wp2;go_quiet (fail);go_wp2;go_roundw
    case rel=>exact⟨k+1,by omega,by go_num,HE.out,mK.out.drewN _⟩
    case measure=>simp[intOf];omega
   ·rw[decide_eq_false he] at hq
    have HE:Hid (x≠y):=λe=>vd.out he (by rw[e])
    clear he;go_wp2;go_quiet (fail);go_wp2;go_ret;exact⟨af (decide_eq_false HE.out).symm,HF.out.trans (mK.out.drewN _)⟩
  ·obtain rfl:k=x.fols.length:=by omega
   have HE:Hid (x.fols=y.fols):=by
    have:=HT.out;rw[List.take_length,zo,List.take_length] at this;exact this
   go_wp2;exact WU HH.out.1 HH.out.2 nP.out.1 nP.out.2 Fr.out (HF.out.trans mK.out) (HB.out.1.frm mK.out id) (HB.out.2.frm mK.out id) HE.out
theorem qO(h:aM w G fo fe it se ts x)(h':aM w G' fo' fe' it' se' ts' y)(hs:aH x)(hs':aH y):
  Calls pQ 16 #[bE fo fe it se x,bE fo' fe' it' se' y] w λe w'=>e=.returned (.bool (decide (x=y)))∧aa ac w w':=by
 obtain⟨w0,hw0⟩:∃w0,w0=(w.alloc (.cells #[I J x.clock,U fo.1 x.fols.length fo.2,U fe.1 x.fees.length fe.2,U it.1 x.itms.length it.2,U se.1 x.seas.length se.2,I J x.tFol,I J x.tFee,I J x.tItm,I J x.tSea] 36)).alloc (.cells #[I J y.clock,U fo'.1 y.fols.length fo'.2,U fe'.1 y.fees.length fe'.2,U it'.1 y.itms.length it'.2,U se'.1 y.seas.length se'.2,I J y.tFol,I J y.tFee,I J y.tItm,I J y.tSea] 36):=⟨_,rfl⟩;have hf0:aa ac w w0:=by rw[hw0];exact((fR w).alloc _).alloc _
 have hb:ai w0 w.heap.size 36 #[I J x.clock,U fo.1 x.fols.length fo.2,U fe.1 x.fees.length fe.2,U it.1 x.itms.length it.2,U se.1 x.seas.length se.2,I J x.tFol,I J x.tFee,I J x.tItm,I J x.tSea]:=by rw[hw0];exact(ai.new w _ _).alloc _
 have hb':ai w0 (w.heap.size+1) 36 #[I J y.clock,U fo'.1 y.fols.length fo'.2,U fe'.1 y.fees.length fe'.2,U it'.1 y.itms.length it'.2,U se'.1 y.seas.length se'.2,I J y.tFol,I J y.tFee,I J y.tItm,I J y.tSea]:=by
  have:=ai.new (w.alloc (.cells #[I J x.clock,U fo.1 x.fols.length fo.2,U fe.1 x.fees.length fe.2,U it.1 x.itms.length it.2,U se.1 x.seas.length se.2,I J x.tFol,I J x.tFee,I J x.tItm,I J x.tSea] 36)) 36 #[I J y.clock,U fo'.1 y.fols.length fo'.2,U fe'.1 y.fees.length fe'.2,U it'.1 y.itms.length it'.2,U se'.1 y.seas.length se'.2,I J y.tFol,I J y.tFee,I J y.tItm,I J y.tSea];rw[show (w.alloc (.cells #[I J x.clock,U fo.1 x.fols.length fo.2,U fe.1 x.fees.length fe.2,U it.1 x.itms.length it.2,U se.1 x.seas.length se.2,I J x.tFol,I J x.tFee,I J x.tItm,I J x.tSea] 36)).heap.size=w.heap.size+1 by simp] at this;rw[hw0];exact this
 obtain⟨x0,x1,x2,x3,x4,x5,x6,x7,x8⟩:=ak hb;obtain⟨y0,y1,y2,y3,y4,y5,y6,y7,y8⟩:=ak hb';have HH:=h_ (And.intro h h');have nP:=h_ (And.intro hs hs');have HF:=h_ hf0;have HB:=h_ (And.intro hb hb');have HW:=h_ hw0;have Hj:=h_ hs;clear h h' hs hs' hf0 hb hb' hw0;unfold bE;have YY:Hid (∀hl:x.fols.length=y.fols.length∧x.fees.length=y.fees.length∧x.itms.length=y.itms.length∧x.seas.length=y.seas.length,True):=λ_=>trivial
 have Cz:Hid (¬(x.fols.length=y.fols.length∧x.fees.length=y.fees.length∧x.itms.length=y.itms.length∧x.seas.length=y.seas.length)→x≠y):=λhn e=>hn (by rw[e];exact⟨rfl,rfl,rfl,rfl⟩)
 by_cases IX:x.fols.length=y.fols.length
 case neg=>
  have hn:¬((x.fols.length:Int)=(y.fols.length:Int)):=by omega
  have HE:=h_ (Cz.out (λq=>IX (by first|exact q.1|exact q.2.1|exact q.2.2.1|exact q.2.2.2)));go_enter Tryz.func16,Tryz.ntmps16;go_wp2;go_ret;exact⟨af (decide_eq_false HE.out).symm,((fR w).alloc _).alloc _⟩
 have ifols:(x.fols.length:Int)=(y.fols.length:Int):=by omega
 by_cases IY:x.fees.length=y.fees.length
 case neg=>
  have hn:¬((x.fees.length:Int)=(y.fees.length:Int)):=by omega
  have HE:=h_ (Cz.out (λq=>IY (by first|exact q.1|exact q.2.1|exact q.2.2.1|exact q.2.2.2)));go_enter Tryz.func16,Tryz.ntmps16;go_wp2;go_ret;exact⟨af (decide_eq_false HE.out).symm,((fR w).alloc _).alloc _⟩
 have ifees:(x.fees.length:Int)=(y.fees.length:Int):=by omega
 by_cases IZ:x.itms.length=y.itms.length
 case neg=>
  have hn:¬((x.itms.length:Int)=(y.itms.length:Int)):=by omega
  have HE:=h_ (Cz.out (λq=>IZ (by first|exact q.1|exact q.2.1|exact q.2.2.1|exact q.2.2.2)));go_enter Tryz.func16,Tryz.ntmps16;go_wp2;go_ret;exact⟨af (decide_eq_false HE.out).symm,((fR w).alloc _).alloc _⟩
 have iitms:(x.itms.length:Int)=(y.itms.length:Int):=by omega
 by_cases I0:x.seas.length=y.seas.length
 case neg=>
  have hn:¬((x.seas.length:Int)=(y.seas.length:Int)):=by omega
  have HE:=h_ (Cz.out (λq=>I0 (by first|exact q.1|exact q.2.1|exact q.2.2.1|exact q.2.2.2)));go_enter Tryz.func16,Tryz.ntmps16;go_wp2;go_ret;exact⟨af (decide_eq_false HE.out).symm,((fR w).alloc _).alloc _⟩
 have iseas:(x.seas.length:Int)=(y.seas.length:Int):=by omega
 have Fr:=h_ (And.intro IX (And.intro IY (And.intro IZ I0)));clear IX IY IZ I0;have SA:=h_ (And.intro ifols (And.intro ifees (And.intro iitms iseas)));clear ifols ifees iitms iseas;go_enter Tryz.func16,Tryz.ntmps16;show Code.wp pQ (aj 0 (ae Tryz.f16)) _ _ _
 have ek:aj 0 (ae Tryz.f16)=.seq (bz (aj 0 (ae Tryz.f16))) (aj 1 (ae Tryz.f16)):=by kernel_rfl
 rw[ek];clear ek;refine wp_seq_k λK hK=>?_
 conv in bz _=>whnf
 go_wp2;rw[←HW.out];have ek:aj 1 (ae Tryz.f16)=.seq (bz (aj 1 (ae Tryz.f16))) (aj 2 (ae Tryz.f16)):=by kernel_rfl
 rw[ek];clear ek;refine wp_seq_k λK hK=>?_
 conv in bz _=>whnf
 obtain⟨ifols,ifees,iitms,iseas⟩:=SA.out;go_wp2;exact WV HH.out.1 HH.out.2 nP.out.1 nP.out.2 Fr.out HF.out HB.out.1 HB.out.2
end Go.Proofs.YtaecjmiobllhmaaGreat
