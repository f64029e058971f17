/- TopOne, part 32. -/
import Derived.Test.YteiignfflbmafaaGreatQ25
import Derived.Test.YteiignfflbmafaaGreatQ31
set_option linter.unusedVariables false
set_option linter.unusedSimpArgs false
set_option maxRecDepth 100000
set_option maxHeartbeats 8000000
namespace Go.Proofs.YteiignfflbmafaaGreat.Tp
open Go.Proofs.Tryz
open Go.RowKit Go.Proofs.YteiignfflbmafaaGreat.Tok
theorem Us110 {p:Prop} (h:p:=by
 rw[pl]at h';rw[show(st.bC++[[st.now]]).length=st.bC.length+1 by simp]
 exact h'):p:=h
inductive kZ(st:BS):Mk->BS->Prop where
 |fork (a:Int) (hc:st.child=none):kZ st ⟨4,a⟩ {st with child:=some st.bC.length,bC:=st.bC++[[st.now]]}
 |write (n a:Int) (hc:st.child=some n):kZ st ⟨2,a⟩ {st with dS:=st.dS++[(n,a,true)]}
 |back (n a:Int) (hc:st.child=some n):kZ st ⟨5,a⟩ {st with now:=st.bC.length,left:=st.left++[n],child:=none,bC:=st.bC++[[st.now]]}
 |meet (a:Int) (hc:st.child=none):kZ st ⟨6,a⟩ {st with now:=st.bC.length,left:=[],bC:=st.bC++[[st.now]++st.left]}
def BS.few(st:BS):Prop:=st.bC.length<=50/\st.left.length<=50/\st.dS.length<=50
def Dt(w0 w:World)(b:Nat)(st:BS):Prop:=∃q0 q1 pv nv av fv lv vs,gZ w0 w b q0 q1 st.bC.length pv nv av fv lv vs st
theorem Dt.ai{w0 w w2:World}{b:Nat}{st:BS}(h:Dt w0 w b st)(k:Below w.heap.size w w2):Dt w0 w2 b st:=by
 obtain⟨q0,q1,pv,nv,av,fv,lv,vs,h⟩:=h
 exact⟨q0,q1,pv,nv,av,fv,lv,vs,h.ai k⟩
theorem Ng{w0 w:World}{b:Nat}{st st':BS}(h:Dt w0 w b st)(hf:st.few)(m:Mk)(hd:kZ st m st'):∃q,(∀w2,Below w.heap.size w w2->Cs 117 #[ptr b] w2 (ptr q) λw'=>Below w2.heap.size w2 w')/\
  (∀w2,Below w.heap.size w w2->Cs 118 #[ptr q,.agg #[m.k,m.a,(0:Int)]] w2 (.bool true) λw'=>Below w2.heap.size w2 w')/\
  (∀w2,Below w.heap.size w w2->Cs 119 #[ptr b,ptr q,.agg #[m.k,m.a,(0:Int)]] w2 (.tuple #[]) λw'=>Dt w0 w' b st'):=by
 obtain⟨q0,q1,pv,nv,av,fv,lv,vs,h⟩:=h;obtain⟨f1,f2,f3⟩:=hf;have pl:=h.co.pl
 cases hd with
 |fork a hc=>
  refine⟨q0,λw2 k=>nW (h.ai k) q0 (Or.inl ⟨hc,rfl⟩),λw2 k=>pG w2 q0 false _ _ (h.ai k).co.r0 4 a U2,λw2 k=>(La (h.ai k) hc U2 f1 a).mono λev w' ⟨e,q1',pv',nv',fv',vs',hl,h'⟩=>⟨e,q0,q1',pv',nv',av,fv',lv,vs',?_⟩⟩
  exact Us110
 |write n a hc=>
  have hn:st.child≠none:=by rw[hc];simp
  refine⟨q1,λw2 k=>nW (h.ai k) q1 (Or.inr ⟨hn,rfl⟩),λw2 k=>pG w2 q1 true n _ ((h.ai k).co.r1 n hc).1 2 a U2,λw2 k=>(GZ (h.ai k) hc f3 a).mono λev w' ⟨e,av',h'⟩=>⟨e,q0,q1,pv,nv,av',fv,lv,vs,h'⟩⟩
 |back n a hc=>
  have hn:st.child≠none:=by rw[hc];simp
  refine⟨q1,λw2 k=>nW (h.ai k) q1 (Or.inr ⟨hn,rfl⟩),λw2 k=>pG w2 q1 true n _ ((h.ai k).co.r1 n hc).1 5 a U8,λw2 k=>(K9 (h.ai k) hc U2 f1 f2 a).mono λev w' ⟨e,pv',nv',fv',lv',vs',hl,h'⟩=>⟨e,q0,q1,pv',nv',av,fv',lv',vs',?_⟩⟩
  exact Us110
 |meet a hc=>
  refine⟨q0,λw2 k=>nW (h.ai k) q0 (Or.inl ⟨hc,rfl⟩),λw2 k=>pG w2 q0 false _ _ (h.ai k).co.r0 6 a U2,λw2 k=>(Lb (h.ai k) U2 f1 f2 a).mono λev w' ⟨e,pv',nv',lv',vs',hl,h'⟩=>⟨e,q0,q1,pv',nv',av,fv,lv',vs',?_⟩⟩;rw[pl]at h';rw[show(st.bC++[[st.now]++st.left]).length=st.bC.length+1 by simp]
  exact h'
theorem Own.rows{w:World}{pv:Value}{vs:List Value}{ls:List (List Int)}(h:Own w 25 1 uR pv vs)(pl:vs.length=ls.length)(pe:∀(i:Nat)(v:Value)(p:List Int),vs[i]? =some v->ls[i]? =some p->Own w 3 1 dB v p):dR w pv ls:=by
 obtain⟨A,cap,e⟩:=h.len;refine⟨A,cap,by rw[e,pl],λhp=>?_⟩;obtain⟨g,cap',e1,hc⟩:=h.cells (λ_=>rfl) U2;rw[e1]at e
 cases e
 obtain⟨_,t⟩:=h.type (b:=g) (by rw[e1];rfl);refine⟨g,0,rfl,t.lt,λi hi=>?_⟩;have hv:i<vs.length:=by omega
 have q:=hc i 0 hv U0;refine⟨vs[i],by rw[Nat.zero_add];simpa[uR]using q,?_⟩;have o:=pe i _ _ (List.getElem?_eq_getElem hv) (List.getElem?_eq_getElem hi);have o2:w.ownsRow 0 3 1 vs[i] ls[i].length (ls[i].map (Value.int .i64)):=by rw[<-eD];exact o
 exact Jg.at_ o2
theorem Dt.born{w0 w2 w3 w4:World}{b q0:Nat}{pv nv fv:Value}(h:mW w0 w2 b pv nv 1 1)(hw:Below w2.heap.size w2 w3)(hq:af w3 q0 (JX false 0 (.slice none 0 0)) 209)(lq:w0.heap.size<=q0)(hg:w3.grownBy w4 (Value.slice none 0 0).ownBlock)(ho:w4.ownsRow 0 203 1 fv 1 [ptr q0])(ha:fv.ownBlock=(Value.slice none 0 0).ownBlock∨fv.ownBlock=some w3.heap.size):
  af w4 b #[pv,nv,.slice none 0 0,.slice none 0 0,.bool false] 202 /\Dt w0 (w4.setCell ⟨b,3,none⟩ fv) b ⟨0,[],none,[[]],[]⟩:=by
 have h3:=h.ai hw;have K:Kept None w3 w4:=(Kept.grown hg).mono (λc z=>by cases z);have bx:=K.blk h3.bx (λz=>z);have K1:=Kept.one w4 b 3 fv;have T1:=TS.one bx;have hq4:=K.blk hq (λz=>z);have pr4:=h3.pr.kept K (λ_ _ z=>z);have nd4:=h3.nd.kept K (λ_ _ z=>z);refine⟨bx,q0,q0,pv,nv,.slice none 0 0,fv,.slice none 0 0,[.slice none 0 0],bx.set 3 fv,⟨pr4.ts K1 T1 U0,rfl,λi v p a b=>?_,nd4.ts K1 T1 U0,World.ownsRow_nil _ _ _ _,?_,hq4.ts K1 T1 U0,(λn e=>by cases e),World.ownsRow_nil _ _ _ _,λi v a c z y=>(by cases y),(h3.B.trans (K.below (λc z=>z.elim) h3.B.size)).setCell h.lb _,h.lp,h.ln,(λc z=>by cases z),λc z=>?_,(λc z=>by cases z),lq⟩,h.lb⟩
 ·match i with
  |0=>simp at a b;subst a b;exact World.ownsRow_nil _ _ _ _
  |i+1=>simp at a
 ·have o:Own w4 203 1 OU fv [q0]:=ho
  exact o.ts K1 T1 U0
 ·rcases ha with q|q
  ·rw[q]at z;cases z
  ·rw[q]at z;cases z;exact h3.B.size
theorem Ae:(prog.info? 102).map (·.size)=some 3:=by kernel_rfl
theorem Cj{st st':BS}{m:Mk}(h:kZ st m st'):1<=m.k/\m.k<=12:=by cases h<;>(dsimp only;omega)
theorem G8(w:World)(mv:Value)(l:List Mk)(hl:l.length<=40)(ho:Own w 211 3 Mk.cells mv l)(S:Nat->BS)(h0:S 0=⟨0,[],none,[[]],[]⟩)(hs:∀k (hk:k<l.length),kZ (S k) l[k] (S (k+1))/\(S k).few):
  Calls prog 74 #[mv] w λev w'=>∃A1 n1 c1 A2 n2 c2 A3 n3 c3,ev=.returned (.tuple #[.agg #[.slice A1 n1 c1,.slice A2 n2 c2,.slice A3 n3 c3],(0:Int)])/\dR w' (.slice A1 n1 c1) (S l.length).bC/\Own w' 98 3 xK (.slice A3 n3 c3) (S l.length).dS/\Below w.heap.size w w':=by
 obtain⟨i1,hj,hy0,hy1,hy2⟩:=info_parts ET;obtain⟨MA,mcap,rfl⟩:=ho.len;have HO:=Hd ho;have HS:=Hd hs;have H0:=Hd h0;have HL:=Hd hl;clear ho hs h0 hl;go_enter func74,ntmps74;go_upto_region 2 with fail;have D0:=af.new w #[.slice none 0 0,.slice none 0 0,.slice none 0 0] 102 _ rfl;have B0:Below w.heap.size w (w.alloc (.cells #[.slice none 0 0,.slice none 0 0,.slice none 0 0] 102)):=Ba _;have sz:(w.alloc (.cells #[.slice none 0 0,.slice none 0 0,.slice none 0 0] 102)).heap.size=w.heap.size+1:=World.size_alloc _ _;generalize w.alloc (.cells #[.slice none 0 0,.slice none 0 0,.slice none 0 0] 102)=W0 at*;have BX:=af.new W0 #[.slice none 0 0,.slice none 0 0,.slice none 0 0,.slice none 0 0,.bool false] 202 _ rfl;have B1:Below W0.heap.size W0 (W0.alloc (.cells #[.slice none 0 0,.slice none 0 0,.slice none 0 0,.slice none 0 0,.bool false] 202)):=Ba _;have LB:=Hd (Nat.le_refl W0.heap.size);rw[<-sz];generalize W0.alloc (.cells #[.slice none 0 0,.slice none 0 0,.slice none 0 0,.slice none 0 0,.bool false] 202)=W at*;generalize hb:W0.heap.size=b at*;have hb:=Hd hb;have HB:=Hd (show mW W0 W b (.slice none 0 0) (.slice none 0 0) 0 0 from⟨BX,World.ownsRow_nil _ _ _ _,World.ownsRow_nil _ _ _ _,by rw[hb.out];exact B1,(λc z=>by cases z),(λc z=>by cases z),by rw[hb.out];exact Nat.le_refl _⟩);have D0:=Hd D0;have B0:=Hd B0;generalize hdq:w.heap.size=dq at*;have hdq:=Hd hdq
 clear BX B1 LB sz;have x3:=HB.o.bx.c3;have cS:=Hd (qR HB.o);have cS2:=Hd (qR (HB.o.ai (Below.refl _ _).drew))
 go_cut []from 10 to 23 (λwx=>Dt W0 wx b ⟨0,[],none,[[]],[]⟩)
 case first=>
  go_region_law (first|(refine ay _ (by rfl) _ _ 200 (by rfl) 0 203 i1 _ 1 8 underlying200 hj hy0 hy1 hy2 rfl U0 (.slice none 0 0) 0 [] (by rfl) (World.ownsRow_nil _ _ _ _) (.slice (some ⟨w2.heap.size+1,0,none⟩) 1 1) 1 [ptr w2.heap.size] (by rfl) U62 U17 U55 U0 (n0 _) ?_;intro v4 w4 hown4 hgrow4 hat4;obtain⟨m4,C4⟩:=Dt.born H3.o (by first|exact BW.o|exact BW.o.drew) (by exact BF.o) LQ.out hgrow4 hown4 hat4;have u0:=m4.fz 3;obtain⟨A4,c4,rfl⟩:=ownsRow_form hown4;have u1:=m4.c3;have C4:=Hd C4;clear hown4 hgrow4 hat4 m4)|(go_simp;go_at_call 116;first|(refine cS.o.mono ?_;rintro ev w2 ⟨rfl,pv2,nv2,h2⟩;have H3:=Hd h2;have t0:=h2.bx.c3;have t1:(w2.alloc (.cells #[(1:Int),.bool false,(0:Int),.slice none 0 0,(0:Int),(0:Int),(0:Int),.slice none 0 0,(0:Int),(0:Int),.slice none 0 0,.slice none 0 0] 209)).cell? ⟨b,3,none⟩=some (.slice none 0 0):=kc t0;have t2:((w2.alloc (.cells #[(1:Int),.bool false,(0:Int),.slice none 0 0,(0:Int),(0:Int),(0:Int),.slice none 0 0,(0:Int),(0:Int),.slice none 0 0,.slice none 0 0] 209)).alloc (.cells #[ptr w2.heap.size] 203)).cell? ⟨b,3,none⟩=some (.slice none 0 0):=kc t1;have t3:((w2.alloc (.cells #[(1:Int),.bool false,(0:Int),.slice none 0 0,(0:Int),(0:Int),(0:Int),.slice none 0 0,(0:Int),(0:Int),.slice none 0 0,.slice none 0 0] 209)).alloc (.cells #[ptr w2.heap.size] 203)).drew.cell? ⟨b,3,none⟩=some (.slice none 0 0):=t2;have t4:(w2.alloc (.cells #[(1:Int),.bool false,(0:Int),.slice none 0 0,(0:Int),(0:Int),(0:Int),.slice none 0 0,(0:Int),(0:Int),.slice none 0 0,.slice none 0 0] 209)).drew.cell? ⟨b,3,none⟩=some (.slice none 0 0):=t1;have SR:=bG (w2.alloc (.cells #[(1:Int),.bool false,(0:Int),.slice none 0 0,(0:Int),(0:Int),(0:Int),.slice none 0 0,(0:Int),(0:Int),.slice none 0 0,.slice none 0 0] 209)) #[ptr w2.heap.size] 203 1 rfl;rw[World.size_alloc]at SR;have SR:=Hd SR;have BF:=Hd ((af.new w2 #[(1:Int),.bool false,(0:Int),.slice none 0 0,(0:Int),(0:Int),(0:Int),.slice none 0 0,(0:Int),(0:Int),.slice none 0 0,.slice none 0 0] 209 _ rfl).alloc (.cells #[ptr w2.heap.size] 203));have BW:=Hd (show Below w2.heap.size w2 ((w2.alloc (.cells #[(1:Int),.bool false,(0:Int),.slice none 0 0,(0:Int),(0:Int),(0:Int),.slice none 0 0,(0:Int),(0:Int),.slice none 0 0,.slice none 0 0] 209)).alloc (.cells #[ptr w2.heap.size] 203))from(Ba _).alloc U8 _);have LQ:=Hd h2.B.size;clear h2)|(refine cS2.o.mono ?_;rintro ev w2 ⟨rfl,pv2,nv2,h2⟩;have H3:=Hd h2;have t0:=h2.bx.c3;have t1:(w2.alloc (.cells #[(1:Int),.bool false,(0:Int),.slice none 0 0,(0:Int),(0:Int),(0:Int),.slice none 0 0,(0:Int),(0:Int),.slice none 0 0,.slice none 0 0] 209)).cell? ⟨b,3,none⟩=some (.slice none 0 0):=kc t0;have t2:((w2.alloc (.cells #[(1:Int),.bool false,(0:Int),.slice none 0 0,(0:Int),(0:Int),(0:Int),.slice none 0 0,(0:Int),(0:Int),.slice none 0 0,.slice none 0 0] 209)).alloc (.cells #[ptr w2.heap.size] 203)).cell? ⟨b,3,none⟩=some (.slice none 0 0):=kc t1;have t3:((w2.alloc (.cells #[(1:Int),.bool false,(0:Int),.slice none 0 0,(0:Int),(0:Int),(0:Int),.slice none 0 0,(0:Int),(0:Int),.slice none 0 0,.slice none 0 0] 209)).alloc (.cells #[ptr w2.heap.size] 203)).drew.cell? ⟨b,3,none⟩=some (.slice none 0 0):=t2;have t4:(w2.alloc (.cells #[(1:Int),.bool false,(0:Int),.slice none 0 0,(0:Int),(0:Int),(0:Int),.slice none 0 0,(0:Int),(0:Int),.slice none 0 0,.slice none 0 0] 209)).drew.cell? ⟨b,3,none⟩=some (.slice none 0 0):=t1;have SR:=bG (w2.alloc (.cells #[(1:Int),.bool false,(0:Int),.slice none 0 0,(0:Int),(0:Int),(0:Int),.slice none 0 0,(0:Int),(0:Int),.slice none 0 0,.slice none 0 0] 209)) #[ptr w2.heap.size] 203 1 rfl;rw[World.size_alloc]at SR;have SR:=Hd SR;have BF:=Hd ((af.new w2 #[(1:Int),.bool false,(0:Int),.slice none 0 0,(0:Int),(0:Int),(0:Int),.slice none 0 0,(0:Int),(0:Int),.slice none 0 0,.slice none 0 0] 209 _ rfl).alloc (.cells #[ptr w2.heap.size] 203));have BW:=Hd (show Below w2.heap.size w2 ((w2.alloc (.cells #[(1:Int),.bool false,(0:Int),.slice none 0 0,(0:Int),(0:Int),(0:Int),.slice none 0 0,(0:Int),(0:Int),.slice none 0 0,.slice none 0 0] 209)).alloc (.cells #[ptr w2.heap.size] 203))from(Ba _).alloc U8 _);have LQ:=Hd h2.B.size;clear h2)))
  all_goals
   go_wp2_with fail
   go_meet
   first|exact C4.out|exact C4.out.ai (Below.refl _ _).drew
 case rest=>
  have HC:=Hd (show Dt W0 wc b (S 0)from by rw[H0.o];exact hcut);clear hcut x3 cS cS2 HB;go_wp2_with fail
  go_loopw [26] (λi wr=>∃k:Nat,k<=l.length/\i=.int .i64 k/\Dt W0 wr b (S k)) (λi _=>l.length-(intOf i).toNat)
  case atStart=>exact⟨0,n0 _,rfl,HC.o⟩
  case round=>
   obtain⟨k,hk,rfl,HA⟩:=hrel;have HA:=Hd HA;have BW:=Hd (show Below w.heap.size w wr from by
    obtain⟨_,_,_,_,_,_,_,_,q⟩:=HA.o;have a1:=B0.o;have a2:=q.co.B;rw[<-hdq.out]at a1
    exact a1.trans (a2.mono a1.size))
   by_cases hlt:k<l.length
   ·have hw:wrap64 ((k:Int)+1)=((k+1:Nat):Int):=iN hlt (nT HL.o U0)
    have hlt':(k:Int)<(l.length:Int):=jJ hlt;obtain⟨mg,mc,e1,hc⟩:=HO.o.cells (λ_=>rfl) (Nat.lt_of_le_of_lt (n0 _) hlt)
    cases e1
    obtain⟨_,mt⟩:=HO.o.type (b:=mg) rfl;obtain⟨hd,hf⟩:=HS.o k hlt;have hc2:=λ(j:Nat)(hj:j<3)=>hc k j hlt hj;rw[Nat.mul_comm]at hc2;generalize l[k]=m at hd hc2;obtain⟨mk,ma⟩:=m;have KD:=Hd (Cj hd);obtain⟨q,c1,c2,c3⟩:=Ng HA.o hf ⟨mk,ma⟩ hd;dsimp only at c1 c2 c3 KD;have y0:wr.cell? ⟨mg,k*3,none⟩=some ↑mk:=kb BW.o mt.lt (hc2 0 U0);have y1:wr.cell? ⟨mg,k*3+1,none⟩=some ↑ma:=kb BW.o mt.lt (hc2 1 U0);have y2:wr.cell? ⟨mg,k*3+2,none⟩=some (.int .i64 0):=kb BW.o mt.lt (hc2 2 U0);have M2:=Hd (iM hlt);have K1:k+1<=l.length:=hlt;have c1:=Hd c1;have c2:=Hd c2;have c3:=Hd c3;clear hd hf hc hc2 mt hk HS;have hlt0:=Hd hlt;clear hlt;obtain⟨k1,k2⟩:=KD.out;have d1:¬(mk<1):=by omega
    have d2:¬(12<mk):=by omega
    clear k1 k2 KD;have B1:=Hd (show Below wr.heap.size wr (wr.alloc (.cells #[mk,ma,(0:Int)] 211))from Ba _);have Z1:=Hd (af.new wr #[mk,ma,(0:Int)] 211 _ rfl);go_upto_region 6 with fail;generalize wr.alloc (.cells #[mk,ma,(0:Int)] 211)=W1 at*;generalize wr.heap.size=q6 at*;have z0:=Z1.out.cell 0;have z1:=Z1.out.cell 1;have z2:=Z1.out.cell 2;simp only[List.getElem?_toArray,List.getElem?_cons_zero,List.getElem?_cons_succ]at z0 z1 z2
    go_upto_region 12 with(first|(go_at_call 117;refine(c1.o _ (by exact B1.o)).q λw5 hb5=> ?_;have B5:=Hd (B1.o.trans (hb5.mono (Nat.le_of_lt Z1.out.lt)));have Z1:=Hd (Z1.out.below hb5 Z1.out.lt);have s0:=Z1.out.cell 0;have s1:=Z1.out.cell 1;have s2:=Z1.out.cell 2;simp only[List.getElem?_toArray,List.getElem?_cons_zero,List.getElem?_cons_succ]at s0 s1 s2)|(go_at_call 118;refine(c2.o _ (by exact B5.o)).q λw6 hb6=> ?_;have B6:=Hd (B5.o.trans (hb6.mono (Nat.le_of_lt Z1.out.lt)));have Z1:=Hd (Z1.out.below hb6 Z1.out.lt);have r0:=Z1.out.cell 0;have r1:=Z1.out.cell 1;have r2:=Z1.out.cell 2;simp only[List.getElem?_toArray,List.getElem?_cons_zero,List.getElem?_cons_succ]at r0 r1 r2)|(go_at_call 119;refine(c3.o _ (by exact B6.o)).q λw7 h7=> ?_;have H7:=Hd h7;clear h7))
    have f4:w7.cell? ⟨b,4,none⟩=some (.bool false):=by obtain⟨_,_,_,_,_,_,_,_,q⟩:=H7.o;exact q.bx.cell 4
    clear y0 y1 y2 z0 z1 z2 c1 c2 c3 r0 r1 r2 s0 s1 s2 d1 d2;go_wp2_with fail
    go_roundw
    case rel=>exact⟨k+1,K1,by first|rw[hw]|simp,H7.o⟩
    case measure=>first|exact M2.out|(rw[hw];simpa using M2.out)
   ·obtain rfl:k=l.length:=Nat.le_antisymm hk (Nat.le_of_not_lt hlt)
    have hge:¬((l.length:Int)<(l.length:Int)):=Int.lt_irrefl _;obtain⟨q0,q1,pv,nv,av,fv,lv,vs,HQ⟩:=HA.o;obtain⟨A1,c1,e1⟩:=HQ.co.pr.len;obtain⟨A2,c2,e2⟩:=HQ.co.nd.len;obtain⟨A3,c3,e3⟩:=HQ.co.ac.len;subst e1 e2 e3;have HQ:=Hd HQ;have DW:=Hd (D0.out.below HQ.o.co.B D0.out.lt);have u0:=HQ.o.bx.cell 0;have u1:=HQ.o.bx.cell 1;have u2:=HQ.o.bx.cell 2;simp only[List.getElem?_toArray,List.getElem?_cons_zero,List.getElem?_cons_succ]at u0 u1 u2;clear HA hk hlt HS
    go_wp2_with (refine aQ rfl 102 (.tmp 2) (.tmp 59) rfl dq _ _ _ DW.out rfl rfl Ae rfl U17 ?_;intro w9 b9 k9)
    have hl:=run_loadVar_row w9 dq 102 102 _ (0,0) _ b9 underlying102 rfl Ae;have T9:=TS.one DW.out;refine bodyPost_ret (v:=.tuple #[.agg #[.slice A1 vs.length c1,.slice A2 (S l.length).bC.length c2,.slice A3 (S l.length).dS.length c3],(0:Int)]) (by simp[results,results74,Act.put,asAddr,hl]) rfl ⟨A1,vs.length,c1,A2,_,c2,A3,_,c3,rfl,?_,HQ.o.co.ac.ts k9 T9 U0,?_⟩
    ·exact(HQ.o.co.pr.ts k9 T9 U0).rows HQ.o.co.pl (λi v p a b=>(HQ.o.co.pe i v p a b).ts k9 T9 U0)
    ·have bw:=BW.o
     rw[hdq.out]at bw
     exact bw.trans (k9.below (λc z=>by have z:c=dq:=z;omega) (Nat.le_of_lt DW.out.lt))
theorem iq.ai{w w2:World}{r:Nat}{R:List Int}(h:iq w r R)(k:Below w.heap.size w w2):iq w2 r R:=by
 obtain⟨g,cap,h1,h2⟩:=h;refine⟨g,cap,h1.below k h1.lt,λi hi=>?_⟩;obtain⟨q,m,e1,e2⟩:=h2 i hi
 exact⟨q,m,kb k (bL _ _ e1) e1,kb k (bL _ _ e2) e2⟩
theorem iq.box{w:World}{r:Nat}{R:List Int}(h:iq w r R):∃g cap,af w r #[.slice (some ⟨g,0,none⟩) R.length cap] 190 :=by
 obtain⟨g,cap,h1,_⟩:=h
 exact⟨g,cap,h1⟩
theorem kQ:(prog.info? 104).map (·.size)=some 3:=by kernel_rfl
def lL(v:Bool)(wd:Int):Value:=if v=true then .agg #[(0:Int),(0:Int),(0:Int)]else .agg #[(0:Int),(1:Int),wd]
theorem Aa(w:World)(A1:Option Addr)(n1 c1:Nat)(nv:Value)(hnv:∃A n c,nv=.slice A n c)(ab c3:Nat)(ps:List (List Int))(hP:dR w (.slice A1 n1 c1) ps)(hlen:ps.length<=64)(hg:vU ps)(s2:Nat)(h1s:1<s2)(h2s:s2<ps.length)(wd:Int)(wr2:Bool)(hwf:(Lit.int .i64 wd).wf=true)
  (a0:w.cell? ⟨ab,0,none⟩=some (.int .i64 1)) (a1:w.cell? ⟨ab,1,none⟩=some ↑wd) (a2:w.cell? ⟨ab,2,none⟩=some (.bool true)) (a3:w.cell? ⟨ab,3,none⟩=some ↑s2) (a4:w.cell? ⟨ab,4,none⟩=some ↑wd) (a5:w.cell? ⟨ab,5,none⟩=some (.bool wr2))
  (v:Bool) (hx:((bS [] ps).getD s2 0=1/\v=false)∨((bS [] ps).getD s2 0=5/\v=false)∨((bS [] ps).getD s2 0=15/\v=true)):
  Cs 51 #[.agg #[.slice A1 n1 c1,nv,.slice (some ⟨ab,0,none⟩) 2 c3]] w (.tuple #[lL v wd,.bool (!v),(0:Int)]) λw'=>Below w.heap.size w w':=by
 obtain⟨NA,nn,nc,rfl⟩:=hnv;obtain⟨i0,hi,hz0,hz1,hz2⟩:=info_parts fH;have z1:=(af.new w #[.slice A1 n1 c1,.slice NA nn nc,.slice (some ⟨ab,0,none⟩) 2 c3] 102 _ rfl).alloc (.cells #[(0:Int),(0:Int),(0:Int)] 104);have z2:=af.new (w.alloc (.cells #[.slice A1 n1 c1,.slice NA nn nc,.slice (some ⟨ab,0,none⟩) 2 c3] 102)) #[(0:Int),(0:Int),(0:Int)] 104 _ rfl;rw[World.size_alloc]at z2;have B0:Below w.heap.size w ((w.alloc (.cells #[.slice A1 n1 c1,.slice NA nn nc,.slice (some ⟨ab,0,none⟩) 2 c3] 102)).alloc (.cells #[(0:Int),(0:Int),(0:Int)] 104)):=(Ba _).alloc U8 _;have cN:=Hd (KS _ _ ps (hP.ai B0 nr) hlen U2 hg);have rl:(bS [] ps).length=ps.length:=by rw[lV];simp
 have lab:=bL _ _ a0;have a0:=kb (a:=⟨ab,0,none⟩) B0 lab a0;have a1:=kb (a:=⟨ab,1,none⟩) B0 lab a1;have a2:=kb (a:=⟨ab,2,none⟩) B0 lab a2;have a3:=kb (a:=⟨ab,3,none⟩) B0 lab a3;have a4:=kb (a:=⟨ab,4,none⟩) B0 lab a4;have a5:=kb (a:=⟨ab,5,none⟩) B0 lab a5;have lab:=Hd lab;have Z1:=Hd z1;have Z2:=Hd z2;have BB:=Hd B0;have HX:=Hd hx;have H1:=Hd h1s;have RL:=Hd rl;have H2:=Hd (show s2<(bS [] ps).length by omega);have HW:=Hd hwf;clear hP hlen hg h1s z1 z2 B0 hx rl hwf;go_enter func51,ntmps51;go_upto_region 1 with fail;generalize(w.alloc (.cells #[.slice A1 n1 c1,.slice NA nn nc,.slice (some ⟨ab,0,none⟩) 2 c3] 102)).alloc (.cells #[(0:Int),(0:Int),(0:Int)] 104)=W at*;generalize hq:w.heap.size=q at*;have d0:=Z1.out.cell 0;simp only[List.getElem?_toArray,List.getElem?_cons_zero,List.getElem?_cons_succ]at d0;generalize bS [] ps=R at*
 go_upto_region 4 with(go_at_call 70;refine cN.o.mono ?_;rintro ev w1 ⟨r,rfl,hr,Sr⟩;have HR:=Hd hr;have B1:=Hd Sr;clear hr Sr)
 clear cN d0;have DX:=Hd (Z1.out.below B1.o Z1.out.lt);have CX:=Hd (Z2.out.below B1.o Z2.out.lt);have labW:ab<W.heap.size:=bL _ _ a0;have b0:=kb (a:=⟨ab,0,none⟩) B1.o labW a0;have b1:=kb (a:=⟨ab,1,none⟩) B1.o labW a1;have b2:=kb (a:=⟨ab,2,none⟩) B1.o labW a2;have b3:=kb (a:=⟨ab,3,none⟩) B1.o labW a3;have b4:=kb (a:=⟨ab,4,none⟩) B1.o labW a4;have b5:=kb (a:=⟨ab,5,none⟩) B1.o labW a5;clear a0 a1 a2 a3 a4 a5 lab;obtain⟨a0,a1,a2,a3,a4,a5⟩:w1.cell? ⟨ab,0,none⟩=some (.int .i64 1)/\w1.cell? ⟨ab,1,none⟩=some ↑wd/\w1.cell? ⟨ab,2,none⟩=some (.bool true)/\w1.cell? ⟨ab,3,none⟩=some ↑s2/\w1.cell? ⟨ab,4,none⟩=some ↑wd/\w1.cell? ⟨ab,5,none⟩=some (.bool wr2):=⟨b0,b1,b2,b3,b4,b5⟩;clear b0 b1 b2 b3 b4 b5;have lab:=Hd (show ab<w1.heap.size from bL _ _ a0);obtain⟨rg,rcap,rbx⟩:=HR.o.box;have RB:=Hd (λw2 (k:Below w1.heap.size w1 w2)=>(rbx.below k rbx.lt:af w2 r #[.slice (some ⟨rg,0,none⟩) R.length rcap] 190));have DXL:=Hd DX.out.lt;have s1a:¬((1:Int)<0):=by omega
 have s1b:¬((R.length:Int)<=1):=by have:=H1.o;have:=H2.o;omega
 have s2a:¬((s2:Int)<0):=by omega
 have s2b:¬((R.length:Int)<=(s2:Int)):=by have:=H2.o;omega
 have LBq:=Hd (show w.heap.size<=w1.heap.size from by have c1:=BB.o.size;have c2:=B1.o.size;omega);have d2:=DX.out.c2;clear rbx;go_wp2_with fail
 go_loopw [28] (λi wx=>∃k:Nat,k<=2/\i=.int .i64 k/\Below w1.heap.size w1 wx) (λi _=>2-(intOf i).toNat)
 case atStart=>exact⟨0,by decide,rfl,Below.refl _ _⟩
 case round=>
   obtain⟨k,hk,rfl,BW⟩:=hrel;have LB:=Hd BW.size;have BW:=Hd BW
   match k,hk with
   |0,_=>
    have y0:=kb (a:=⟨ab,0,none⟩) BW.o lab.out a0;have y1:=kb (a:=⟨ab,1,none⟩) BW.o lab.out a1;have y2:=kb (a:=⟨ab,2,none⟩) BW.o lab.out a2;have bx:=af.new wr #[(1:Int),wd,.bool true] 98 _ rfl;have z0:=bx.cell 0;simp only[List.getElem?_toArray,List.getElem?_cons_zero,List.getElem?_cons_succ]at z0;have B2:=Hd (BW.o.alloc LB.out (.cells #[(1:Int),wd,.bool true] 98));have bd:=(DX.out.below BW.o DXL.out).alloc (.cells #[(1:Int),wd,.bool true] 98);clear bx;go_upto_region 7 with fail;generalize wr.alloc (.cells #[(1:Int),wd,.bool true] 98)=W2 at*;have cL:=Hd (λn=>uK (W2.drewN n) r _ _ _ ((RB.out W2 B2.o).drewN n))
    go_quiet (first|(go_at_call 71;exact quiet_same (cL.o _)))
    have B3:=Hd (below_drewN B2.o nq);generalize W2.drewN nq=W3 at*;go_wp2_with fail
    go_roundw
    case rel=>exact⟨1,by decide,rfl,B3.o⟩
    case measure=>decide
   |1,_=>
    have y0:=kb (a:=⟨ab,3,none⟩) BW.o lab.out a3;have y1:=kb (a:=⟨ab,4,none⟩) BW.o lab.out a4;have y2:=kb (a:=⟨ab,5,none⟩) BW.o lab.out a5;have bx:=af.new wr #[s2,wd,.bool wr2] 98 _ rfl;have z0:=bx.cell 0;simp only[List.getElem?_toArray,List.getElem?_cons_zero,List.getElem?_cons_succ]at z0;have B2:=Hd (BW.o.alloc LB.out (.cells #[s2,wd,.bool wr2] 98));have bd:=(DX.out.below BW.o DXL.out).alloc (.cells #[s2,wd,.bool wr2] 98);clear bx;go_upto_region 7 with fail;generalize wr.alloc (.cells #[s2,wd,.bool wr2] 98)=W2 at*;have cL:=Hd (λn=>uK (W2.drewN n) r _ _ _ ((RB.out W2 B2.o).drewN n))
    go_quiet (first|(go_at_call 71;exact quiet_same (cL.o _)))
    have B3:=Hd (below_drewN B2.o nq);generalize W2.drewN nq=W3 at*;go_wp2_with fail
    go_roundw
    case rel=>exact⟨2,by decide,rfl,B3.o⟩
    case measure=>decide
   |2,_=>
    have d2:=kb (a:=⟨q,2,none⟩) BW.o DXL.out d2;have hmk:=Kt wr;have HM0:=Hd (heap_alloc_new wr (.map #[] 0));have B5:=Hd (BW.o.alloc LB.out (.map #[] 0));have d3:(wr.alloc (.map #[] 0)).cell? ⟨q,2,none⟩=some (.slice (some ⟨ab,0,none⟩) 2 c3):=kc d2;go_wp2_with fail;generalize wr.alloc (.map #[] 0)=W5 at*;have LG:=Hd LB.out;generalize wr.heap.size=g at*;clear hmk BW LB;clear d2
    go_loopw [48] (λi wx=>∃k:Nat,k<=2/\i=.int .i64 k/\Below w1.heap.size w1 wx/\((k=0/\wx.heap[g]? =some (.map #[] 0))∨(k=1/\∃A c,wx.heap[g]? =some (.map #[⟨.int .i64 wd,.slice A 1 c,0⟩] 1)/\Own wx 3 1 dB (.slice A 1 c) [0]/\∀b,(Value.slice A 1 c).ownBlock=some b->w1.heap.size<=b)∨(k=2/\v=true))) (λi _=>2-(intOf i).toNat)
    case atStart=>exact⟨0,by decide,rfl,B5.o,Or.inl ⟨rfl,HM0.o⟩⟩
    case round=>
     obtain⟨k,hk,rfl,BW,HJ⟩:=hrel;have BW:=Hd BW
     rcases HJ with⟨rfl,hm⟩|⟨rfl,A,sc,hm,OW,LO⟩|⟨rfl,hv⟩
     ·have HM:=Hd hm
      clear hm B5 HM0 d3;have y0:=kb (a:=⟨ab,0,none⟩) BW.o lab.out a0;have y1:=kb (a:=⟨ab,1,none⟩) BW.o lab.out a1;have y2:=kb (a:=⟨ab,2,none⟩) BW.o lab.out a2;have B11:=Hd (BW.o.alloc BW.o.size (.cells #[(1:Int),wd,.bool true] 98));have T11:=Hd (af.new wr #[(1:Int),wd,.bool true] 98 _ rfl);have HM:=Hd ((Below.heap_alloc wr (.cells #[(1:Int),wd,.bool true] 98) g (Array.getElem?_eq_some_iff.1 HM.o).1).trans HM.o);have r0:=wo _ g wd HW.o HM.o;go_upto_region 14 with fail;generalize wr.alloc (.cells #[(1:Int),wd,.bool true] 98)=W6 at*;generalize wr.heap.size=q11 at*;have c1:=T11.out.c1;go_wp2_with fail
      go_loopw [58] (λi wx=>i=.int .i64 0/\wx=W6) (λi _=>0)
      case atStart=>exact⟨rfl,rfl⟩
      case round=>
       obtain⟨rfl,e⟩:=hrel;subst e;clear r0 c1 y0 y1 y2;go_upto_region 21 with fail;have hmA:(wr.alloc (.cells #[(0:Int)] 3)).heap[g]? =wr.heap[g]? :=Below.heap_alloc wr _ g (Array.getElem?_eq_some_iff.1 HM.o).1;have r0:=wo wr g wd HW.o HM.o;have r1:=wo wr.drew g wd HW.o HM.o;have r2:=wo (wr.alloc (.cells #[(0:Int)] 3)) g wd HW.o (hmA.trans HM.o);have r3:=wo (wr.alloc (.cells #[(0:Int)] 3)).drew g wd HW.o (hmA.trans HM.o);have c1:=T11.out.c1;have c2:(wr.alloc (.cells #[(0:Int)] 3)).cell? ⟨q11,1,none⟩=some ↑wd:=kc c1;have c3:(wr.alloc (.cells #[(0:Int)] 3)).drew.cell? ⟨q11,1,none⟩=some ↑wd:=kc c1;have SR:=Hd (bG wr #[(0:Int)] 3 1 rfl);have HA2:=Hd (hmA.trans HM.o);have TA:=Hd (T11.out.alloc (.cells #[(0:Int)] 3));have LA:=Hd (show w1.heap.size<=(wr.alloc (.cells #[(0:Int)] 3)).heap.size from by have:=B11.o.size;simp;omega);have BA:=Hd (B11.o.alloc B11.o.size (.cells #[(0:Int)] 3));clear hmA
       go_region_held3 (λw'=>w'.cell? ⟨q11,1,none⟩=some ↑wd)
        (exact U161)
        (first|(refine ay _ (by rfl) _ _ 25 (by rfl) 0 3 i0 _ 1 8 underlying25 hi hz0 hz1 hz2 rfl U0 (.slice none 0 0) 0 [] (by rfl) (World.ownsRow_nil _ _ _ _) (.slice (some ⟨wr.heap.size,0,none⟩) 1 1) 1 [.int .i64 0] (by rfl) U62 U17 U55 U0 (n0 _) ?_;intro v4 w4 hown4 hgrow4 hat4;have K4:=Kept.grown hgrow4;have t4:=K4.blk (show af _ q11 _ _ from TA.out) (λz=>by cases z);have c4':w4.cell? ⟨q11,1,none⟩=some ↑wd:=t4.cell 1;have hm4:=(K4.block g (Array.getElem?_eq_some_iff.1 (show _=_ from HA2.o)).1 (λz=>by cases z)).trans HA2.o;have B4:=Hd (show Below w1.heap.size w1 w4 from by first|exact BA.o.trans (K4.below (λc z=>by cases z) LA.out)|exact BA.o.drew.trans (K4.below (λc z=>by cases z) LA.out));obtain⟨A4,c4,rfl⟩:=ownsRow_form hown4;obtain⟨w5,hup,hm5,gr5⟩:=Rp w4 g wd (.slice A4 1 c4) HW.o hm4;have c5:w5.cell? ⟨q11,1,none⟩=some ↑wd:=(World.cell?_of_block (w:=w4) ((Kept.map gr5).block q11 t4.lt (λz=>by cases z;unfold af at t4;rw[hm4]at t4;cases t4))).trans c4';have B5:=Hd (B4.o.trans ((Kept.map gr5).below (λc z=>by cases z;exact LG.out) B4.o.size));have O5:=Hd (show Own w5 3 1 dB (.slice A4 1 c4) [0]from by have o4:Own w4 3 1 dB (.slice A4 1 c4) [0]:=hown4;exact o4.kept (Kept.map gr5) (λb e z=>by cases z;obtain⟨_,t⟩:=o4.type e;unfold af at t;rw[hm4]at t;cases t));have LO5:=Hd (show ∀b,(Value.slice A4 1 c4).ownBlock=some b->w1.heap.size<=b from λb e=>by rcases hat4 with z|z;(rw[z]at e;cases e);(rw[z]at e;cases e;exact LA.out));have HM5:=Hd hm5;clear hown4 hgrow4 hat4 K4 t4 hm4 hm5 gr5))
       all_goals
        clear r0 r1 r2 r3 c1 c2 c3 c4';go_wp2_with fail
        go_roundw
        case rel=>exact⟨_,_,_,_,_,_,_,⟨1,by decide,rfl,B5.o,Or.inr (Or.inl ⟨rfl,A4,c4,HM5.o,O5.out,LO5.out⟩)⟩,rfl,rfl,rfl,rfl,rfl,rfl,rfl⟩
        case measure=>decide
     ·have HM:=Hd hm
      obtain⟨sg,sc',e1,hc⟩:=OW.cells (λ_=>rfl) U0;have e1:Value.slice A 1 sc=.slice (some ⟨sg,0,none⟩) 1 sc':=e1
      cases e1
      have s0:wr.cell? ⟨sg,0,none⟩=some (.int .i64 0):=hc 0 0 U0 U0;have LO:=Hd LO;clear hm B5 HM0 hc;have y0:=kb (a:=⟨ab,3,none⟩) BW.o lab.out a3;have y1:=kb (a:=⟨ab,4,none⟩) BW.o lab.out a4;have y2:=kb (a:=⟨ab,5,none⟩) BW.o lab.out a5;have B11:=Hd (BW.o.alloc BW.o.size (.cells #[s2,wd,.bool wr2] 98));have T11:=Hd (af.new wr #[s2,wd,.bool wr2] 98 _ rfl);have HM:=Hd ((Below.heap_alloc wr (.cells #[s2,wd,.bool wr2] 98) g (Array.getElem?_eq_some_iff.1 HM.o).1).trans HM.o);have OW:=Hd (OW.alloc (.cells #[s2,wd,.bool wr2] 98));have s1:(wr.alloc (.cells #[s2,wd,.bool wr2] 98)).cell? ⟨sg,0,none⟩=some (.int .i64 0):=kc s0;have r0:=wu _ g wd _ 0 1 HW.o HM.o;go_upto_region 14 with fail;generalize wr.alloc (.cells #[s2,wd,.bool wr2] 98)=W6 at*;generalize wr.heap.size=q11 at*;have c1:=T11.out.c1;go_wp2_with fail;clear r0 c1 y0 y1 y2 s0;have x0:=kb (a:=⟨ab,0,none⟩) B11.o lab.out a0;have x1:=kb (a:=⟨ab,1,none⟩) B11.o lab.out a1;have x2:=kb (a:=⟨ab,2,none⟩) B11.o lab.out a2;have x9:=(DX.out.below B11.o DXL.out).c2;have B14:=Hd (B11.o.alloc B11.o.size (.cells #[(1:Int),wd,.bool true] 98));have T14:=Hd (af.new W6 #[(1:Int),wd,.bool true] 98 _ rfl);have T11b:=Hd (T11.out.alloc (.cells #[(1:Int),wd,.bool true] 98));have HM14:=Hd ((Below.heap_alloc W6 (.cells #[(1:Int),wd,.bool true] 98) g (Array.getElem?_eq_some_iff.1 HM.o).1).trans HM.o);have OW14:=Hd (OW.out.alloc (.cells #[(1:Int),wd,.bool true] 98))
      have cA:=Hd (yS _ r R (HR.o.ai (B14.o.mono nr)) s2 H2.o H1.o v HX.o);generalize hW7:W6.alloc (.cells #[(1:Int),wd,.bool true] 98)=W7 at*;have hW7:=Hd hW7
      go_loopw [58] (λi wx=>(i=.int .i64 0/\wx=W6)∨(i=.int .i64 1/\v=true/\wx=W7)) (λi _=>1-(intOf i).toNat)
      case atStart=>exact Or.inl ⟨rfl,rfl⟩
      case round=>
       rcases hrel with⟨rfl,e⟩|⟨rfl,hv,e⟩
       ·subst e
        go_upto_region 18 with fail;have u0:W7.cell? ⟨wr.heap.size,0,none⟩=some (.int .i64 1):=T14.out.cell 0;have u2:W7.cell? ⟨wr.heap.size,2,none⟩=some (.bool true):=T14.out.cell 2;have v0:=T11b.out.c0;have v1:=T11b.out.c1;clear x0 x1 x2 x9 s1
        cases v with
        |true=>
         go_wp2_with (go_at_call 72;refine cA.o.r ?_)
         go_roundw
         case rel=>
          exact⟨_,_,_,_,_,_,_,_,_,_,_,_,_,_,_,_,_,_,_,_,_,_,_,_,_,_,_,_,_,_,_,_,_,Or.inr ⟨rfl,trivial,trivial⟩,rfl⟩
         case measure=>exact(by decide:(0:Nat)<1)
        |false=>
         have CX7:=Hd (CX.out.below B14.o CX.out.lt)
         go_wp2_with (first|(go_at_call 72;refine cA.o.r ?_)|(refine aQ rfl 104 (.tmp 2) (.tmp 85) rfl (q+1) _ _ _ CX7.out rfl rfl kQ rfl U17 ?_;intro w9 b9 k9))
         have hl:=run_loadVar_row w9 (q+1) 104 104 _ (0,0) _ b9 underlying104 rfl kQ;refine bodyPost_ret (v:=.tuple #[lL false wd,.bool true,(0:Int)]) U79 rfl ⟨rfl,?_⟩;have hq7:=hq
         (try rw[hq7])
         exact(((BB.o.trans (B1.o.mono (Nat.le_of_lt Z1.out.lt))).trans (B14.o.mono (Nat.le_of_lt DX.out.lt))).trans (k9.below (λc z=>by have z:c=q+1:=z;omega) (Nat.le_of_lt (nL DX.out.lt B14.o.size))))
       ·subst e hv
        clear x0 x1 x2 x9 s1 cA;have T11:=T11b;have HM:=HM14;have OW:=OW14;have B11:=B14;go_upto_region 21 with fail;have hmA:(wr.alloc (.cells #[(1:Int)] 3)).heap[g]? =wr.heap[g]? :=Below.heap_alloc wr _ g (Array.getElem?_eq_some_iff.1 HM.o).1;have r0:=wu wr g wd _ 0 1 HW.o HM.o;have r1:=wu wr.drew g wd _ 0 1 HW.o HM.o;have r2:=wu (wr.alloc (.cells #[(1:Int)] 3)) g wd _ 0 1 HW.o (hmA.trans HM.o);have r3:=wu (wr.alloc (.cells #[(1:Int)] 3)).drew g wd _ 0 1 HW.o (hmA.trans HM.o);have c1:=T11.out.c1;have c2:(wr.alloc (.cells #[(1:Int)] 3)).cell? ⟨q11,1,none⟩=some ↑wd:=kc c1;have c3:(wr.alloc (.cells #[(1:Int)] 3)).drew.cell? ⟨q11,1,none⟩=some ↑wd:=kc c1;have SR:=Hd (bG wr #[(1:Int)] 3 1 rfl);have HA2:=Hd (hmA.trans HM.o);have TA:=Hd (T11.out.alloc (.cells #[(1:Int)] 3));have LA:=Hd (show w1.heap.size<=(wr.alloc (.cells #[(1:Int)] 3)).heap.size from by have:=B11.o.size;simp;omega);have BA:=Hd (B11.o.alloc B11.o.size (.cells #[(1:Int)] 3));have OS:=Hd (OW.out.alloc (.cells #[(1:Int)] 3));clear hmA
        go_region_held3 (λw'=>w'.cell? ⟨q11,1,none⟩=some ↑wd)
         (exact U161)
         (first|(refine ay _ (by rfl) _ _ 25 (by rfl) 0 3 i0 _ 1 8 underlying25 hi hz0 hz1 hz2 rfl U0 (.slice (some ⟨sg,0,none⟩) 1 sc) 1 [.int .i64 0] (by rfl) (by exact OS.out) (.slice (some ⟨wr.heap.size,0,none⟩) 1 1) 1 [.int .i64 1] (by rfl) U62 U17 U55 U0 (n0 _) ?_;intro v4 w4 hown4 hgrow4 hat4;have K4:=Kept.grown hgrow4;have t4:=K4.blk (show af _ q11 _ _ from TA.out) (λz=>OS.out.ne TA.out U0 z);have c4':w4.cell? ⟨q11,1,none⟩=some ↑wd:=t4.cell 1;have hm4:=(K4.block g (Array.getElem?_eq_some_iff.1 (show _=_ from HA2.o)).1 (λz=>by obtain⟨_,t⟩:=OS.out.type z;have:=HA2.o;unfold af at t;rw[this]at t;cases t)).trans HA2.o;have B4:=Hd (show Below w1.heap.size w1 w4 from by first|exact BA.o.trans (K4.below (λc z=>LO.out c z) LA.out)|exact BA.o.drew.trans (K4.below (λc z=>LO.out c z) LA.out));obtain⟨A4,c4,rfl⟩:=ownsRow_form hown4;obtain⟨w5,hup,hm5,gr5⟩:=Rq w4 g wd _ (.slice A4 2 c4) HW.o hm4;have c5:w5.cell? ⟨q11,1,none⟩=some ↑wd:=(World.cell?_of_block (w:=w4) ((Kept.map gr5).block q11 t4.lt (λz=>by cases z;unfold af at t4;rw[hm4]at t4;cases t4))).trans c4';have B5:=Hd (B4.o.trans ((Kept.map gr5).below (λc z=>by cases z;exact LG.out) B4.o.size));have O5:=Hd (show Own w5 3 1 dB (.slice A4 2 c4) [0,1]from by have o4:Own w4 3 1 dB (.slice A4 2 c4) [0,1]:=hown4;exact o4.kept (Kept.map gr5) (λb e z=>by cases z;obtain⟨_,t⟩:=o4.type e;unfold af at t;rw[hm4]at t;cases t));have LO5:=Hd (show ∀b,(Value.slice A4 2 c4).ownBlock=some b->w1.heap.size<=b from λb e=>by rcases hat4 with z|z;(rw[z]at e;exact LO.out b e);(rw[z]at e;cases e;exact LA.out));have HM5:=Hd hm5;clear hown4 hgrow4 hat4 K4 t4 hm4 hm5 gr5))
        all_goals
         clear r0 r1 r2 r3 c1 c2 c3 c4' c5;go_wp2_with fail
         go_roundw
         case rel=>exact⟨_,_,_,_,_,_,_,⟨2,by decide,rfl,B5.o,Or.inr (Or.inr rfl)⟩,rfl,rfl,rfl,rfl,rfl,rfl,rfl⟩
         case measure=>decide
     ·subst hv
      have CX7:=Hd (CX.out.below BW.o CX.out.lt)
      go_wp2_with (refine aQ rfl 104 (.tmp 2) (.tmp 98) rfl (q+1) _ _ _ CX7.out rfl rfl kQ rfl U17 ?_;intro w9 b9 k9)
      have hl:=run_loadVar_row w9 (q+1) 104 104 _ (0,0) _ b9 underlying104 rfl kQ;refine bodyPost_ret (v:=.tuple #[lL true wd,.bool false,(0:Int)]) U79 rfl ⟨rfl,?_⟩;have hq7:=hq
      (try rw[hq7])
      exact(((BB.o.trans (B1.o.mono (Nat.le_of_lt Z1.out.lt))).trans (BW.o.mono (Nat.le_of_lt DX.out.lt))).trans (k9.below (λc z=>by have z:c=q+1:=z;omega) (Nat.le_of_lt (nL DX.out.lt BW.o.size))))
end Go.Proofs.YteiignfflbmafaaGreat.Tp
