/- TopOne, part 31. -/
import Derived.Test.YteiignfflbmafaaGreatQ30
import Derived.Lib.AppendZerosOnto
set_option linter.unusedVariables false
set_option linter.unusedSimpArgs false
set_option maxRecDepth 100000
set_option maxHeartbeats 8000000
namespace Go.Proofs.YteiignfflbmafaaGreat.Tp
open Go.Proofs.Tryz
open Go.RowKit Go.Proofs.YteiignfflbmafaaGreat.Tok
theorem KY(w:World)(n:Nat)(hn:0<n)(hm:n<=1000):Calls prog 257 #[.slice none 0 0,n] w λev w'=>∃G,ev=.returned (.slice (some ⟨w.heap.size,0,none⟩) 0 G)/\Own w' 3 1 dB (.slice (some ⟨w.heap.size,0,none⟩) 0 G) []/\Below w.heap.size w w':=by
 obtain⟨i0,hi0,hz0,hs0,hb0⟩:=info_parts fH;have h2:wrap64 ((n:Int)-wrap64 ((0:Int)-0))=(n:Int):=by rw[show wrap64 ((0:Int)-0)=0 from rQ 0 U0];exact(rQ _ U2).trans U2
 have h20:wrap64 (n:Int)=(n:Int):=rQ _ U2;have h1:¬((n:Int)<0):=by omega
 have h4:(n:Int)>0:=by omega
 have h5:(0:Int)<(n:Int):=by omega
 have hold:(Builtin.firstCells i0.size 0 (.slice none 0 0)).run prog w.drew=.ok ([]:List Value).toArray w.drew:=run_firstCells_none w.drew i0.size 0 0 0;have hrz:∀ty,(Builtin.append_ #[25,3] ty #[.slice none 0 0,.int .i64 (n:Int)]).run prog w=
   .ok (.slice (some ⟨w.heap.size,0,none⟩) n (grownCap w n 0 3)) (w.drew.alloc (.cells (([]:List Value).toArray++Builtin.zeroCells (Value.int .i64 0).cells n++Builtin.zeroCells (Value.int .i64 0).cells (grownCap w n 0 3 -n)) 3)):=λty=>by
  have h:=Lib.run_append_grow_zeros w 25 3 ty 3 i0 (.int .i64 0) .i64 .i64 underlying25 underlying3 hi0 hz0 none 0 0 [] hold n U2 (by rw[hs0];decide) U2 U2 (by rw[hb0];omega) (by rw[hb0,Nat.zero_add];exact growslice_fits U2 U2);rw[Nat.zero_add]at h
  exact h
 have hG:=grownCap_ge w n 0 3;have hG2:=grownCap_le_maxLen w n 0 3 U71;generalize grownCap w n 0 3 =G at*;have hOwn:∀Z:Array Value,Z.size=G->Own (w.alloc (.cells Z 3)).drew 3 1 dB (.slice (some ⟨w.heap.size,0,none⟩) 0 G) []:=
  λZ hZ=>⟨rfl,.inr ⟨w.heap.size,G,Z,rfl,n0 _,(af.new w Z _ _ rfl).drew,n0 _,hG2,by omega,rfl⟩⟩
 have HO:=Hd hOwn;have g0:(0:Int)<=(G:Int):=by omega
 have HG:=Hd hG;clear hOwn hold hG hG2;go_enter func257,ntmps257
 go_wp2_with (at_builtin;refine Lib.wpList_append_run _ rfl _ _ _ _ rfl _ _ rfl rfl _ _ (hrz _) ?_)
 go_ret
 refine⟨G,rfl,HO.o _ (by rw[Array.size_append,size_zeroCells,size_zeroCells];have:=HG.o;simp;omega),(Ba _).drew⟩
theorem Own.src{w:World}{A:Option Addr}{n c:Nat}{l:List Int}(h:Own w 3 1 dB (.slice A n c) l):Src w (.slice A n c) l.length 1 (l.map (Value.int .i64)):=by
 have hn:n=l.length:=by obtain⟨A',c',e⟩:=h.len;cases e;rfl
 subst hn;refine⟨A,c,rfl,by simp,?_⟩;have H:=h;obtain⟨_,⟨h2,h3⟩|⟨g,cap,cur,e1,_⟩⟩:=h
 ·injection h2 with a b e
  exact Or.inl ⟨a,h3,e⟩
 ·cases e1
  exact Or.inr ⟨⟨g,0,none⟩,rfl,λj u hj=>nR H j u (by rw[eD];exact hj)⟩
def oh(l1 l2:List Int)(k:Nat):List Int:=if k=0 then[]else if k=1 then l1 else l1++l2
theorem zL(l1 l2:List Int):oh l1 l2 0=[]:=rfl
theorem oP(l1 l2:List Int):oh l1 l2 1=l1:=rfl
theorem oQ(l1 l2:List Int):oh l1 l2 2=l1++l2:=rfl
theorem tL(w:World)(qq:Nat)(A1 A2:Option Addr)(c1 c2:Nat)(l1 l2:List Int)(x0:w.cell? ⟨qq,0,none⟩=some (.slice A1 l1.length c1))(x1:w.cell? ⟨qq,1,none⟩=some (.slice A2 l2.length c2))(h1:Own w 3 1 dB (.slice A1 l1.length c1) l1)(h2:Own w 3 1 dB (.slice A2 l2.length c2) l2)(hp:0<l1.length)(hl1:l1.length<=50)(hl2:l2.length<=50):
  Calls prog 195 #[.slice (some ⟨qq,0,none⟩) 2 2] w λev w'=>∃A c,ev=.returned (.slice A (l1++l2).length c)/\Own w' 3 1 dB (.slice A (l1++l2).length c) (l1++l2)/\Below w.heap.size w w'/\∀b,(Value.slice A (l1++l2).length c).ownBlock=some b->w.heap.size<=b:=by
 obtain⟨i0,hi,hz0,hz1,hz2⟩:=info_parts fH;have cG:=Hd (KY w (l1.length+l2.length) U2 U2);have s0:wrap64 ((0:Int)+l1.length)=((l1.length:Nat):Int):=(rQ _ U2).trans U2;have s1:wrap64 ((l1.length:Int)+l2.length)=((l1.length+l2.length:Nat):Int):=(rQ _ U2).trans U2;have s2:wrap64 (l1.length:Int)=(l1.length:Int):=rQ _ U2;have n1:¬((l1.length:Int)<0):=by omega
 have n2:¬(((l1.length+l2.length:Nat):Int)<0):=by omega
 have LA:=Hd (lim (show l1.length<=1000 by omega) 8 U0);have M1:0+l1.length<=maxLen/\(0+l1.length)*8<=140737488355328:=by unfold maxLen;omega
 have M2:l1.length+l2.length<=maxLen/\(l1.length+l2.length)*8<=140737488355328:=by unfold maxLen;omega
 have HM1:=Hd M1;have HM2:=Hd M2;have H1:=Hd h1;have H2:=Hd h2;clear h1 h2 hp hl1 hl2 M1 M2;go_enter func195,ntmps195;go_wp2_with fail
 go_loopw [3,11] (λs i wr=>∃k:Nat,k<=2/\i=.int .i64 k/\s=.int .i64 (oh l1 l2 k).length/\wr=w) (λ_ i _=>2-(intOf i).toNat)
 case atStart=>exact⟨0,by decide,rfl,rfl,rfl⟩
 case round=>
  obtain⟨k,hk,rfl,rfl,rfl⟩:=hrel
  match k,hk with
  |0,_=>
   rw[zL];go_wp2_with fail
   go_roundw
   case rel=>exact⟨1,by decide,rfl,by rw[oP];simp[s2],trivial⟩
   case measure=>decide
  |1,_=>
   rw[oP];go_wp2_with fail
   go_roundw
   case rel=>exact⟨2,by decide,rfl,by rw[oQ];simp[s1],trivial⟩
   case measure=>decide
  |2,_=>
   rw[oQ];have el:(l1++l2).length=l1.length+l2.length:=List.length_append;rw[el];clear s0 s1 s2 n1;obtain⟨wz,hwz⟩:∃z,z=wr:=⟨_,rfl⟩;subst hwz
   go_wp2_with (go_at_call 257;refine cG.o.mono ?_;rintro ev w2 ⟨G,rfl,o2,b2⟩)
   have S0:=Hd (show ∃v,v=Value.slice (some ⟨wz.heap.size,0,none⟩) 0 G/\Own w2 3 1 dB v (oh l1 l2 0)/\Below wz.heap.size wz w2/\∀b,v.ownBlock=some b->wz.heap.size<=b from⟨_,rfl,o2,b2,λb e=>by cases e;exact Nat.le_refl _⟩);clear o2 b2 cG
   go_loopw [6,27] (λv i wx=>∃k:Nat,k<=2/\i=.int .i64 k/\Own wx 3 1 dB v (oh l1 l2 k)/\Below wz.heap.size wz wx/\∀b,v.ownBlock=some b->wz.heap.size<=b) (λ_ i _=>2-(intOf i).toNat)
   case atStart=>
    obtain⟨v,rfl,q⟩:=S0.out
    exact⟨0,by decide,rfl,q⟩
   case round=>
    obtain⟨k,hk,rfl,OA,BW,FR⟩:=hrel;have lq:=bL wz _ x0;have y0:=kb BW lq x0;have y1:=kb (a:=⟨qq,1,none⟩) BW lq x1;clear x0 x1
    match k,hk with
    |0,_=>
     rw[zL]at OA;obtain⟨AV,cv,rfl⟩:=OA.len;have SR:=Hd ((H1.o.kept (Kept.ob (S:=λb=>wz.heap.size<=b) BW) (λb e z=>by obtain⟨_,t⟩:=H1.o.type e;have:=t.lt;omega)).src);have OA:=Hd OA
     go_wp2_with (at_builtin;refine bB _ rfl _ _ 25 rfl 0 3 i0 _ 1 8 underlying25 hi hz0 hz1 hz2 rfl U0 (.slice AV 0 cv) 0 _ rfl OA.out _ l1.length _ rfl SR.out (kR _) HM1.o.1 HM1.o.2 (n0 _) ?_;intro v4 w4 hown4 hgrow4 hat4;have RS:=Hd (show Own w4 3 1 dB v4 (oh l1 l2 1)/\Below wz.heap.size wz w4/\∀b,v4.ownBlock=some b->wz.heap.size<=b from⟨by rw[oP];unfold Own;rw[eD];simpa using hown4,BW.trans ((Kept.grown hgrow4).below (λc z=>FR c z) BW.size),λb e=>by rcases hat4 with q|q;exact FR b (q▸e);rw[q]at e;cases e;exact BW.size⟩);obtain⟨A4,c4,rfl⟩:=ownsRow_form hown4;clear hown4 hgrow4 hat4)
     go_roundw
     case rel=>exact⟨1,by decide,rfl,by simpa using RS.out⟩
     case measure=>decide
    |1,_=>
     rw[oP]at OA;obtain⟨AV,cv,rfl⟩:=OA.len;have SR:=Hd ((H2.o.kept (Kept.ob (S:=λb=>wz.heap.size<=b) BW) (λb e z=>by obtain⟨_,t⟩:=H2.o.type e;have:=t.lt;omega)).src);have OA:=Hd OA
     go_wp2_with (at_builtin;refine bB _ rfl _ _ 25 rfl 0 3 i0 _ 1 8 underlying25 hi hz0 hz1 hz2 rfl U0 (.slice AV l1.length cv) l1.length _ rfl OA.out _ l2.length _ rfl SR.out (kR _) HM2.o.1 HM2.o.2 (n0 _) ?_;intro v4 w4 hown4 hgrow4 hat4;have RS:=Hd (show Own w4 3 1 dB v4 (oh l1 l2 2)/\Below wz.heap.size wz w4/\∀b,v4.ownBlock=some b->wz.heap.size<=b from⟨by rw[oQ];unfold Own;rw[List.length_append,List.flatMap_append,eD l2];exact hown4,BW.trans ((Kept.grown hgrow4).below (λc z=>FR c z) BW.size),λb e=>by rcases hat4 with q|q;exact FR b (q▸e);rw[q]at e;cases e;exact BW.size⟩);obtain⟨A4,c4,rfl⟩:=ownsRow_form hown4;clear hown4 hgrow4 hat4)
     go_roundw
     case rel=>exact⟨2,by decide,rfl,RS.out⟩
     case measure=>decide
    |2,_=>
     rw[oQ]at OA;obtain⟨AV,cv,rfl⟩:=OA.len;go_wp2_with fail
     go_ret
     exact⟨_,_,rfl,by rw[<-el];exact OA,BW,λb e=>FR b (by rw[el];exact e)⟩
section
section
variable {w0 w:World} {b q0 q1 nn:Nat} {pv nv av fv lv:Value} {vs:List Value} {st:BS}
theorem Lb(h:gZ w0 w b q0 q1 nn pv nv av fv lv vs st)(hp:vs.length<=50)(hnn:nn<=50)(hll:st.left.length<=50)(a:Int):Cs 119 #[ptr b,ptr q0,.agg #[(6:Int),a,(0:Int)]] w (.tuple #[]) λw'=>∃pv' nv' lv' vs',vs'.length=vs.length+1/\gZ w0 w' b q0 q1 (nn+1) pv' nv' av fv lv' vs' {st with now:=vs.length,left:=[],bC:=st.bC++[[st.now]++st.left]}:=by
 obtain⟨now,left,child,bC,dS⟩:=st;dsimp only at hll;have H1:=Hd (h.ai (Ba (.cells #[(6:Int),a,(0:Int)] 211)));obtain⟨LA,Sw,rfl⟩:=h.co.le.len;have HP:=Hd hp;have HNN:=Hd hnn;have HLL:=Hd hll;clear h hp hnn hll;go_enter func119,ntmps119;go_upto_region 11 with fail;generalize w.alloc (.cells #[(6:Int),a,(0:Int)] 211)=W at*;have x2:=H1.o.co.r0.c2;have x3:=H1.o.co.r0.c3;have x4:=H1.o.co.r0.c4;have x5:=H1.o.co.r0.c5;have x6:=H1.o.co.r0.c6;have y3:(W.alloc (.cells #[now] 3)).cell? ⟨q0,3,none⟩=some (.slice LA left.length Sw):=kc x3;have y4:(W.alloc (.cells #[now] 3)).cell? ⟨q0,4,none⟩=some (.int .i64 0):=kc x4;have y5:(W.alloc (.cells #[now] 3)).cell? ⟨q0,5,none⟩=some (.int .i64 0):=kc x5;have y6:(W.alloc (.cells #[now] 3)).cell? ⟨q0,6,none⟩=some (.int .i64 0):=kc x6;have z4:((W.alloc (.cells #[now] 3)).alloc (.cells #[.slice (some ⟨W.heap.size,0,none⟩) 1 1,.slice LA left.length Sw] 25)).cell? ⟨q0,4,none⟩=some (.int .i64 0):=kc y4;have z5:((W.alloc (.cells #[now] 3)).alloc (.cells #[.slice (some ⟨W.heap.size,0,none⟩) 1 1,.slice LA left.length Sw] 25)).cell? ⟨q0,5,none⟩=some (.int .i64 0):=kc y5;have z6:((W.alloc (.cells #[now] 3)).alloc (.cells #[.slice (some ⟨W.heap.size,0,none⟩) 1 1,.slice LA left.length Sw] 25)).cell? ⟨q0,6,none⟩=some (.int .i64 0):=kc y6;have BW:Below W.heap.size W ((W.alloc (.cells #[now] 3)).alloc (.cells #[.slice (some ⟨W.heap.size,0,none⟩) 1 1,.slice LA left.length Sw] 25)):=(Ba _).alloc U8 _
 have H2:=Hd (H1.o.ai BW);have BX:=af.new (W.alloc (.cells #[now] 3)) #[.slice (some ⟨W.heap.size,0,none⟩) 1 1,.slice LA left.length Sw] 25 _ rfl;rw[World.size_alloc]at BX;have O1:=(uI W now).alloc (.cells #[.slice (some ⟨W.heap.size,0,none⟩) 1 1,.slice LA left.length Sw] 25);have OL:=(H1.o.co.le.alloc (.cells #[now] 3)).alloc (.cells #[.slice (some ⟨W.heap.size,0,none⟩) 1 1,.slice LA left.length Sw] 25);have cC:=Hd (λwr (k:wr=((W.alloc (.cells #[now] 3)).alloc (.cells #[.slice (some ⟨W.heap.size,0,none⟩) 1 1,.slice LA left.length Sw] 25))∨wr=((W.alloc (.cells #[now] 3)).alloc (.cells #[.slice (some ⟨W.heap.size,0,none⟩) 1 1,.slice LA left.length Sw] 25)).drew)=>(show Calls prog 195 #[.slice (some ⟨W.heap.size+1,0,none⟩) 2 2] wr λev w'=>∃A c,ev=.returned (.slice A ([now]++left).length c)/\Own w' 3 1 dB (.slice A ([now]++left).length c) ([now]++left)/\Below wr.heap.size wr w'/\∀b,(Value.slice A ([now]++left).length c).ownBlock=some b->wr.heap.size<=b from by
  rcases k with rfl|rfl
  ·exact tL _ (W.heap.size+1) (some ⟨W.heap.size,0,none⟩) LA 1 Sw [now] left (BX.cell 0) (BX.cell 1) O1 OL U8 U8 HLL.o
  ·exact tL _ (W.heap.size+1) (some ⟨W.heap.size,0,none⟩) LA 1 Sw [now] left (BX.cell 0) (BX.cell 1) (by exact O1) (by exact OL) U8 U8 HLL.o))
 have LT:=Hd (λ(c:Nat) (y:(Value.slice LA left.length Sw).ownBlock=some c)=>H1.o.co.lt H1.o.co.le y);have LS:=Hd BW.size;clear BX O1 OL BW
 go_region_law (first|(go_simp;go_at_call 195;refine(cC.o _ U73).mono ?_;rintro ev w2 ⟨VA,vc,rfl,ov,bv,fr⟩;have H3:=Hd (show gZ w0 w2 b q0 q1 nn pv nv av fv (.slice LA left.length Sw) vs ⟨now,left,child,bC,dS⟩from by first|exact H2.o.ai bv|exact H2.o.drew.ai bv);have cS:=Hd (gJ H3.o _ ([now]++left) ov (λc z y=>by have a1:=fr c z;have a2:=LT.out c y;have a3:=LS.out;simp at a1 a3;omega) HP.o HNN.o);have cS2:=Hd (gJ H3.o.drew _ ([now]++left) (by exact ov) (λc z y=>by have a1:=fr c z;have a2:=LT.out c y;have a3:=LS.out;simp at a1 a3;omega) HP.o HNN.o);have t4:=H3.o.co.r0.c4;have t5:=H3.o.co.r0.c5;have t6:=H3.o.co.r0.c6;clear ov bv fr)|(go_simp;go_at_call 116;first|(refine cS.o.mono ?_;rintro ev w7 ⟨rfl,pv7,nv7,h7⟩;have H7:=Hd h7;have u2:=h7.co.r0.c2;have uf:=h7.co.r0.fz 2;clear h7)|(refine cS2.o.mono ?_;rintro ev w7 ⟨rfl,pv7,nv7,h7⟩;have H7:=Hd h7;have u2:=h7.co.r0.c2;have uf:=h7.co.r0.fz 2;clear h7)))
 all_goals
  have H8:=Hd (gZ.mk (H7.o.bx.ts (Kept.one w7 q0 2 ↑vs.length) (TS.one H7.o.co.r0) U0) (H7.o.co.GH vs.length) H7.o.lb);clear x2 x3 x4 x5 x6 y3 y4 y5 y6 z4 z5 z6 t4 t5 t6 u2 uf cC cS cS2 H3 H2 H1;generalize w7.setCell ⟨q0,2,none⟩ ↑vs.length=W8 at*;have k3:=H8.o.co.r0.c3;have kf:=H8.o.co.r0.fz 3;have H9:=Hd (gZ.mk (H8.o.bx.ts (Kept.one W8 q0 3 (.slice none 0 0)) (TS.one H8.o.co.r0) U0) H8.o.co.Oy H8.o.lb);go_wp2_with fail
  go_end0
  exact⟨rfl,pv7,nv7,.slice none 0 0,vs++[.slice VA ([now]++left).length vc],by simp,by first|exact H9.o|exact H9.o.drew⟩
end
end
section
structure mW(w0 w:World)(b:Nat)(pv nv:Value)(np nn:Nat):Prop where
 bx:af w b #[pv,nv,.slice none 0 0,.slice none 0 0,.bool false] 202
 pr:Own w 25 1 uR pv (List.replicate np (.slice none 0 0))
 nd:Own w 206 3 rP nv (List.replicate nn ())
 B:Below w0.heap.size w0 w
 lp:∀c,pv.ownBlock=some c->w0.heap.size<=c
 ln:∀c,nv.ownBlock=some c->w0.heap.size<=c
 lb:w0.heap.size<=b
section
variable {w0 w w1 w2:World} {b:Nat} {pv nv:Value} {np nn:Nat}
theorem mW.ai(h:mW w0 w b pv nv np nn)(k:Below w.heap.size w w2):mW w0 w2 b pv nv np nn:=
 ⟨h.bx.below k h.bx.lt,h.pr.kept (Kept.ob (S:=None) k) (λ_ _ z=>z),h.nd.kept (Kept.ob (S:=None) k) (λ_ _ z=>z),h.B.trans (k.mono h.B.size),h.lp,h.ln,h.lb⟩
theorem mW.M6{pv':Value}(h:mW w0 w b pv nv np nn)(hw:Below w.heap.size w w1)(hg:w1.grownBy w2 pv.ownBlock)(ho:w2.ownsRow 0 25 1 pv' (np+1) ((List.replicate np (Value.slice none 0 0)).flatMap uR++[.slice none 0 0]))(ha:pv'.ownBlock=pv.ownBlock∨pv'.ownBlock=some w1.heap.size):
  af w2 b #[pv,nv,.slice none 0 0,.slice none 0 0,.bool false] 202 /\mW w0 (w2.setCell ⟨b,0,none⟩ pv') b pv' nv (np+1) nn:=by
 have h1:=h.ai hw;have K:=Kept.grown hg;have T:=TS.Sq h1.pr;have bx:=h1.bx.ts K T U0;have K1:=Kept.one w2 b 0 pv';have T1:=TS.one bx;have p2:Own w2 25 1 uR pv' (List.replicate (np+1) (.slice none 0 0)):=by
  unfold Own;rw[List.replicate_succ',List.flatMap_append,List.length_append,List.length_replicate]
  simpa[uR]using ho
 refine⟨bx,bx.set 0 pv',p2.ts K1 T1 U0,(h1.nd.ts K T U0).ts K1 T1 U0,(h1.B.trans (K.below (λc z=>h.lp c z) h1.B.size)).setCell h.lb _,λc z=>?_,h.ln,h.lb⟩
 rcases ha with q|q
 ·exact h.lp c (q▸z)
 ·rw[q]at z;cases z;exact h1.B.size
theorem mW.addN{nv':Value}(h:mW w0 w b pv nv np nn)(hw:Below w.heap.size w w1)(hg:w1.grownBy w2 nv.ownBlock)(ho:w2.ownsRow 0 206 3 nv' (nn+1) ((List.replicate nn ()).flatMap rP++rP ()))(ha:nv'.ownBlock=nv.ownBlock∨nv'.ownBlock=some w1.heap.size):
  af w2 b #[pv,nv,.slice none 0 0,.slice none 0 0,.bool false] 202 /\mW w0 (w2.setCell ⟨b,1,none⟩ nv') b pv nv' np (nn+1):=by
 have h1:=h.ai hw;have K:=Kept.grown hg;have T:=TS.Sq h1.nd;have bx:=h1.bx.ts K T U0;have K1:=Kept.one w2 b 1 nv';have T1:=TS.one bx;have p2:Own w2 206 3 rP nv' (List.replicate (nn+1) ()):=by
  exact Us91
 refine⟨bx,bx.set 1 nv',(h1.pr.ts K T U0).ts K1 T1 U0,p2.ts K1 T1 U0,(h1.B.trans (K.below (λc z=>h.ln c z) h1.B.size)).setCell h.lb _,h.lp,λc z=>?_,h.lb⟩
 rcases ha with q|q
 ·exact h.ln c (q▸z)
 ·rw[q]at z;cases z;exact h1.B.size
theorem qR(h:mW w0 w b (.slice none 0 0) (.slice none 0 0) 0 0):Cs 116 #[ptr b,.agg #[(0:Int),(0:Int),(0:Int)],.slice none 0 0] w (.int .i64 0) λw'=>∃pv nv,mW w0 w' b pv nv 1 1:=by
 obtain⟨i0,hi,hz0,hz1,hz2⟩:=info_parts EQ;obtain⟨i1,hj,hy0,hy1,hy2⟩:=info_parts ER;have H1:=Hd (h.ai (Ba (.cells #[(0:Int),(0:Int),(0:Int)] 206)));have Z1:=Hd (af.new w #[(0:Int),(0:Int),(0:Int)] 206 _ rfl);clear h;have wl:wrap64 ((1:Int)-1)=0:=rQ 0 U0;go_enter func116,ntmps116;go_upto_region 1 with fail;generalize w.alloc (.cells #[(0:Int),(0:Int),(0:Int)] 206)=W at*;generalize w.heap.size=q at*;have x0:=H1.o.bx.c0;have SR:=Hd (bG W #[.slice none 0 0] 25 1 rfl)
 go_upto_region 5 with(at_builtin;refine bB _ rfl _ _ 96 rfl 0 25 i0 _ 1 24 underlying96 hi hz0 hz1 hz2 rfl U0 (.slice none 0 0) 0 [] rfl (World.ownsRow_nil _ _ _ _) _ 1 _ rfl SR.out U17 U55 U0 (n0 _) ?_;intro v2 w2 hown2 hgrow2 hat2;obtain⟨m1,C2⟩:=H1.o.M6 (Ba _) hgrow2 hown2 hat2;have Z2:=Hd ((Kept.grown hgrow2).blk (Z1.out.alloc (.cells #[.slice none 0 0] 25)) (λz=>by cases z));have y0:=m1.fz 0;obtain⟨A2,c2,rfl⟩:=ownsRow_form hown2;have y1:=m1.c0;have M1:=Hd m1;have H3:=Hd C2;clear hown2 hgrow2 hat2 m1 C2)
 have Z3:=Hd (Z2.out.far (a:=⟨b,0,none⟩) (Z2.out.ne M1.out U0) (.slice A2 1 c2));clear y0 y1 x0 M1 Z2;generalize w2.setCell ⟨b,0,none⟩ (.slice A2 1 c2)=W3 at*;have x1:=H3.o.bx.c1;have z0:=Z3.out.c0;have z1:=Z3.out.c1;have z2:=Z3.out.c2;have y3:(W3.alloc (.cells #[(0:Int),(0:Int),(0:Int)] 206)).cell? ⟨b,1,none⟩=some (.slice none 0 0):=kc x1;have y4:(W3.alloc (.cells #[(0:Int),(0:Int),(0:Int)] 206)).drew.cell? ⟨b,1,none⟩=some (.slice none 0 0):=kc x1;have SR:=Hd (bG W3 #[(0:Int),(0:Int),(0:Int)] 206 3 rfl)
 go_region_law (first|(refine ay _ (by rfl) _ _ 100 (by rfl) 0 206 i1 _ 3 24 underlying100 hj hy0 hy1 hy2 rfl U0 (.slice none 0 0) 0 [] (by rfl) (World.ownsRow_nil _ _ _ _) (.slice (some ⟨W3.heap.size,0,none⟩) 1 1) 1 _ (by rfl) U62 U17 U55 U0 (n0 _) ?_;intro v4 w4 hown4 hgrow4 hat4;obtain⟨m4,C4⟩:=H3.o.addN U28 hgrow4 hown4 hat4;have u0:=m4.fz 1;obtain⟨A4,c4,rfl⟩:=ownsRow_form hown4;have u1:=m4.c1;have H5:=Hd C4;clear hown4 hgrow4 hat4 m4 C4))
 all_goals
  clear x1 z0 z1 z2 y3 y4 u0 u1;generalize w4.setCell ⟨b,1,none⟩ (.slice A4 1 c4)=W5 at*;have u5:=H5.o.bx.c0;go_wp2_with fail
  go_ret
  exact⟨rfl,_,_,H5.o⟩
end
end
end Go.Proofs.YteiignfflbmafaaGreat.Tp
