/- TopOne, part 24. -/
import Derived.Test.YteiignfflbmafaaGreatQ22
import Derived.Test.YteiignfflbmafaaGreatQ23
set_option linter.unusedVariables false
set_option linter.unusedSimpArgs false
set_option maxRecDepth 100000
set_option maxHeartbeats 8000000
namespace Go.Proofs.YteiignfflbmafaaGreat.Tp
open Go.Proofs.Tryz
open Go.RowKit Go.Proofs.YteiignfflbmafaaGreat.Tok
theorem Us63 {p:Prop} (h:p:=by
 go_wp2_with (go_at_call 21;refine C1.out.q λw1 Sr=> ?_;have HB1:=Hd (HC0.o.ai Sr).B)
 go_ret
 exact⟨⟨true,rfl,λz=>by cases z⟩,HB1.o⟩):p:=h
theorem Us13 {p:Prop} (h:p:=by
 go_wp2_with (go_at_call 76;refine(c3.o _).mono ?_;rintro ev w2 ⟨⟨r,rfl⟩,hb2⟩;have HC2:=Hd (HC.o.ai hb2);obtain⟨y0,y1,y2,y3,y4,y5,y6,y7,y8⟩:=HC2.o.cells;have HB2:=Hd HC2.o.B;cases r)
 all_goals go_ret
 all_goals exact⟨⟨_,rfl⟩,HB2.o⟩):p:=h
theorem OV(w:World)(M:Int)(fv:Value)(code:List (List Is))(h:aP w fv code)(A:Option Addr)(n cap:Nat)(p:Pl)(aj:Int)(fold lazy:Bool):
  Calls prog 56 #[.agg #[M,fv],.slice A n cap,gU p aj fold lazy] w λev w'=>(∃e:Int,ev=.returned ↑e)/\Below w.heap.size w w':=by
 obtain⟨FA,Su,rfl⟩:=h.form;have c1:=Hd (λw h=>Gy w M (.slice FA code.length Su) code h);have c3:=Hd (λw=>CP p.wk p.fr p.th p.dq w);have bp:=af.new w #[M,.slice FA code.length Su] 24 _ rfl;have bq:=af.new (w.alloc (.cells #[M,.slice FA code.length Su] 24)) #[p.wk,p.th,p.fr,p.dq,aj,.bool fold,.bool lazy] 27 _ rfl;have bp:=bp.alloc (.cells #[p.wk,p.th,p.fr,p.dq,aj,.bool fold,.bool lazy] 27);have B0:Below w.heap.size w ((w.alloc (.cells #[M,.slice FA code.length Su] 24)).alloc (.cells #[p.wk,p.th,p.fr,p.dq,aj,.bool fold,.bool lazy] 27)):=(Ba _).alloc U8 _;have C1:=Hd (c1.o _ (h.ai B0));simp only[World.size_alloc]at bp bq;have HC0:=Hd (PQ.mk bp bq B0);clear c1 h bp bq B0;go_enter func56,ntmps56;go_upto_region 1 with fail;generalize((w.alloc (.cells #[M,.slice FA code.length Su] 24)).alloc (.cells #[p.wk,p.th,p.fr,p.dq,aj,.bool fold,.bool lazy] 27))=W at*;generalize hgp:w.heap.size=gp at*;generalize hgq:gp+1=gq at*;obtain⟨x0,x1,x2,x3,x4,x5,x6,x7,x8⟩:=HC0.o.cells
 go_upto_region 2 with(go_at_call 75;refine C1.out.mono ?_;rintro ev w1 ⟨⟨e,rfl⟩,Sr⟩)
 have HC:=Hd (HC0.o.ai Sr);clear Sr x0 x1 x2 x3 x4 x5 x6 x7 x8 C1 HC0;obtain⟨x0,x1,x2,x3,x4,x5,x6,x7,x8⟩:=HC.o.cells;have HB:=Hd HC.o.B
 by_cases e0:e=0
 case neg=>
  go_wp2_with fail
  go_ret
  exact⟨⟨_,rfl⟩,HB.o⟩
 subst e0
 by_cases o1:aj<0
 ·exact Us13
 by_cases o2:1000<aj
 ·exact Us13
 by_cases o3:M<(n:Int)
 ·exact Us13
 ·exact Us13
def Mv(code:List (List Is))(n:Nat)(ev:Ending):Prop:=∃r:Bool,ev=.returned (.bool r)/\(r=false->iJ code=false/\n<=1000)
theorem NP(w:World)(M:Int)(fv:Value)(code:List (List Is))(h:aP w fv code)(A:Option Addr)(n cap:Nat)(p:Pl)(aj:Int)(fold lazy:Bool):
  Calls prog 24 #[.agg #[M,fv],.slice A n cap,gU p aj fold lazy,.slice none 0 0] w λev w'=>Mv code n ev/\Below w.heap.size w w':=by
 obtain⟨FA,Su,rfl⟩:=h.form;have c1:=Hd (λw h=>Ka w M (.slice FA code.length Su) code h);have c2:=Hd (λw h=>OV w M (.slice FA code.length Su) code h A n cap p aj fold lazy);have bp:=af.new w #[M,.slice FA code.length Su] 24 _ rfl;have bq:=af.new (w.alloc (.cells #[M,.slice FA code.length Su] 24)) #[p.wk,p.th,p.fr,p.dq,aj,.bool fold,.bool lazy] 27 _ rfl;have bp:=bp.alloc (.cells #[p.wk,p.th,p.fr,p.dq,aj,.bool fold,.bool lazy] 27);have B0:Below w.heap.size w ((w.alloc (.cells #[M,.slice FA code.length Su] 24)).alloc (.cells #[p.wk,p.th,p.fr,p.dq,aj,.bool fold,.bool lazy] 27)):=(Ba _).alloc U8 _;have C1:=Hd (c1.o _ (h.ai B0));have H2:=Hd (λw2 (b:Below ((w.alloc (.cells #[M,.slice FA code.length Su] 24)).alloc (.cells #[p.wk,p.th,p.fr,p.dq,aj,.bool fold,.bool lazy] 27)).heap.size ((w.alloc (.cells #[M,.slice FA code.length Su] 24)).alloc (.cells #[p.wk,p.th,p.fr,p.dq,aj,.bool fold,.bool lazy] 27)) w2)=>c2.o w2 ((h.ai B0).ai b));simp only[World.size_alloc]at bp bq;have HC0:=Hd (PQ.mk bp bq B0);clear c1 c2 h bp bq B0;go_enter func24,ntmps24;go_upto_region 1 with fail;generalize((w.alloc (.cells #[M,.slice FA code.length Su] 24)).alloc (.cells #[p.wk,p.th,p.fr,p.dq,aj,.bool fold,.bool lazy] 27))=W at*;generalize hgp:w.heap.size=gp at*;generalize hgq:gp+1=gq at*
 obtain⟨x0,x1,x2,x3,x4,x5,x6,x7,x8⟩:=HC0.o.cells
 cases hgb:iJ code with
 |true=>
  rw[hgb]at C1
  exact Us63
 |false=>
  rw[hgb]at C1
  by_cases n1:1000<(n:Int)
  ·exact Us63
  ·have N:=Hd (show iJ code=false/\n<=1000 from⟨hgb,by omega⟩)
   go_wp2_with (first|(go_at_call 21;refine C1.out.q λw1 Sr=> ?_;have HC1:=Hd (HC0.o.ai Sr);obtain⟨y0,y1,y2,y3,y4,y5,y6,y7,y8⟩:=HC1.o.cells;have C2:=Hd (H2.o _ Sr))|(go_at_call 56;refine C2.out.mono ?_;rintro ev w2 ⟨⟨e,rfl⟩,hb2⟩;have HC2:=Hd (HC1.o.ai hb2);obtain⟨z0,z1,z2,z3,z4,z5,z6,z7,z8⟩:=HC2.o.cells;have HB2:=Hd HC2.o.B;by_cases e0:e=0))
   all_goals go_ret
   all_goals first|exact⟨⟨_,rfl,λ_=>N.out⟩,HB2.o⟩
theorem Text.yz{w:World}{v:Value}{code:List (List Is)}(h:Text w v code):aP w v code:=by
 obtain⟨vs,h1,h2,h3⟩:=h;have H2:=h2;obtain⟨_,⟨rfl,e⟩|⟨g,cap,cur,rfl,_,hg,hnc,hcm,_,hx⟩⟩:=h2
 ·exact⟨none,0,by rw[<-e],by omega,by unfold maxLen;omega,λhp=>absurd hp U2⟩
 ·refine⟨some ⟨g,0,none⟩,cap,rfl,hnc,hcm,λhp=>⟨g,0,rfl,λi hi=>?_⟩⟩
  have hv:i<vs.length:=by omega
  obtain⟨g',cap',e1,_,hc⟩:=eO H2 hp
  cases e1
  refine⟨vs[i],by rw[Nat.zero_add];exact hc i _ (List.getElem?_eq_getElem hv),?_⟩;have r:=h3 i _ _ (List.getElem?_eq_getElem hv) (List.getElem?_eq_getElem hi);have R:=r;obtain⟨_,⟨e3,e⟩|⟨g2,cap2,cur2,e3,_,hg2,hnc2,hcm2,_,hx2⟩⟩:=r
  ·rw[e3]
   exact⟨none,0,by rw[<-e],by omega,⟨by unfold maxLen;omega,λ_=>rfl⟩,λhp2=>absurd hp2 U2⟩
  ·refine⟨some ⟨g2,0,none⟩,cap2,e3,hnc2,⟨hcm2,λz=>by cases z⟩,λhp2=>⟨g2,0,rfl,λpc hpc j hj=>?_⟩⟩
   obtain⟨g3,cap3,e4,_,hc2⟩:=eO (show w.ownsRow 0 109 4 vs[i] code[i].length (code[i].flatMap Is.cells)from R) hp2;rw[e3]at e4
   cases e4
   obtain⟨u,hu⟩:=(code[i][pc]).cell j hj;rw[hu,Nat.zero_add,show pc*4+j=4*pc+j by omega]
   exact hc2 _ u (by rw[flat_get Is.cells 4 (λ_=>rfl) _ pc j hpc hj];exact hu)
theorem Text.ai{w w':World}{v:Value}{code:List (List Is)}(h:Text w v code)(k:Below w.heap.size w w'):Text w' v code:=h.kept (Kept.ob (S:=None) k) (λ_ _ _ _ _ z=>z)
theorem aV.src{w:World}{A:Option Addr}{n cap:Nat}{l:List Int}(h:aV w (.slice A n cap) l)(hA:l.length=0->A=none->cap=0):Src w (.slice A n cap) l.length 1 (l.map (Value.int .i64)):=by
 obtain⟨A',c',e,hc⟩:=h
 cases e
 refine⟨A,cap,rfl,by simp,?_⟩
 by_cases h0:0<l.length
 ·obtain⟨b,o,rfl,_,q⟩:=hc h0
  refine Or.inr ⟨_,rfl,λj u hj=>?_⟩;have hj2:j<l.length:=by have:=(List.getElem?_eq_some_iff.1 hj).1;simpa using this
  rw[Addr.add_lit,q j hj2];rw[List.getElem?_map,List.getElem?_eq_getElem hj2]at hj
  simpa using hj
 ·cases A with
  |none=>exact Or.inl ⟨rfl,by omega,hA U2 rfl⟩
  |some ad=>exact Or.inr ⟨ad,rfl,λj u hj=>by have:=(List.getElem?_eq_some_iff.1 hj).1;simp at this;omega⟩
theorem gV{w:World}{base:Nat}{v:Value}{l:List Int}(h:w.ownsRow base 3 1 v l.length (l.map (Value.int .i64))):aV w v l:=by
 exact Us49
theorem EM{code:List (List Is)}(h:iJ code=false):code.length<=40/\∀l∈code,l.length<=300:=by
 unfold iJ at h;simp only[Bool.or_eq_false_iff,decide_eq_false_iff_not,List.any_eq_false,decide_eq_true_eq]at h
 exact⟨by omega,λl hl=>by have:=h.2 l hl;omega⟩
def Q6(w:World)(p:Pl)(aj:Int)(fold lazy:Bool)(code:List (List Is))(ev:Ending)(w':World):Prop:=
 (ev=.returned (.pointer none)/\Below w.heap.size w w')∨(∃mq z lb cap cs D,ev=.returned (ptr mq)/\p.ok/\aj<=1000/\fM z w' (MS.first p aj fold lazy code D)/\gK z mq lb p.wk.toNat cap cs/\Below w.heap.size w z.w0/\w.heap.size<=z.B)
theorem kV{w:World}{g:Nat}(h:af w g #[] 3):w.ownsRow 0 3 1 (.slice (some ⟨g,0,none⟩) 0 0) 0 []:=⟨by simp,.inr ⟨g,0,#[],rfl,n0 _,h,Nat.le_refl _,by decide,by simp,by simp⟩⟩
theorem Es{W w3:World}(h:Below (W.alloc (.cells #[] 3)).drew.heap.size (W.alloc (.cells #[] 3)).drew w3):af w3 W.heap.size #[] 3 :=(af.new W #[] 3 _ rfl).drew.below h U8
theorem iW(l:List Int):∀u∈l.map (Value.int .i64),u.oneCell'=true:=λu hu=>by
 obtain⟨x,_,rfl⟩:=List.mem_map.1 hu
 rfl
theorem kJ{w w5 w4:World}{gp gq g:Nat}{M:Int}{fv v1:Value}{p:Pl}{aj:Int}{fold lazy:Bool}{code:List (List Is)}(E:af w5 g #[] 3)(hg:w5.grownBy w4 (Value.slice (some ⟨g,0,none⟩) 0 0).ownBlock)(T:Text w5 v1 code)(HC:PQ w w5 gp gq M fv p aj fold lazy)(lg:w.heap.size<=g):PQ w w4 gp gq M fv p aj fold lazy/\Text w4 v1 code:=by
 have K:=Kept.grown hg;have far:∀{b:Nat} {cs:Array Value} {t:TypeId},af w5 b cs t->t≠ 3 ->¬(Value.slice (some ⟨g,0,none⟩) 0 0).ownBlock=some b:=λq n z=>by
  cases z
  exact n (q.type E)
 exact⟨⟨K.blk HC.pp (far HC.pp U0),K.blk HC.pq (far HC.pq U0),HC.B.trans (K.below (λb z=>by cases z;exact lg) HC.B.size)⟩,T.kept K (λb cs t q ht=>far q (by rcases ht with rfl|rfl<;>decide))⟩
theorem Aj{n:Nat}(h:n<=1000):0+n<=maxLen/\(0+n)*8<=140737488355328:=by unfold maxLen;omega
theorem DI(w:World)(M:Int)(fv:Value)(code:List (List Is))(h:aP w fv code)(IA:Option Addr)(Sv:Nat)(input:List Int)(hi:aV w (.slice IA input.length Sv) input)(hA:input.length=0->IA=none->Sv=0)(p:Pl)(aj:Int)(fold lazy:Bool):
  Calls prog 8 #[.agg #[M,fv],.slice IA input.length Sv,gU p aj fold lazy] w (Q6 w p aj fold lazy code):=by
 obtain⟨FA,Su,rfl⟩:=h.form;obtain⟨iI,hI,hI0,hI1,hI2⟩:=info_parts fH;have bp:=af.new w #[M,.slice FA code.length Su] 24 _ rfl;have bq:=af.new (w.alloc (.cells #[M,.slice FA code.length Su] 24)) #[p.wk,p.th,p.fr,p.dq,aj,.bool fold,.bool lazy] 27 _ rfl;have bp:=bp.alloc (.cells #[p.wk,p.th,p.fr,p.dq,aj,.bool fold,.bool lazy] 27);have B0:Below w.heap.size w ((w.alloc (.cells #[M,.slice FA code.length Su] 24)).alloc (.cells #[p.wk,p.th,p.fr,p.dq,aj,.bool fold,.bool lazy] 27)):=(Ba _).alloc U8 _;have C1:=Hd (NP _ M (.slice FA code.length Su) code (h.ai B0) IA input.length Sv p aj fold lazy);simp only[World.size_alloc]at bp bq;have HC0:=Hd (PQ.mk bp bq B0);have HF:=Hd h;have HI:=Hd hi;have HA:=Hd hA;clear h hi bp bq B0 hA;go_enter func8,ntmps8;go_upto_region 1 with fail;generalize((w.alloc (.cells #[M,.slice FA code.length Su] 24)).alloc (.cells #[p.wk,p.th,p.fr,p.dq,aj,.bool fold,.bool lazy] 27))=W at*;generalize hgp:w.heap.size=gp at*;generalize hgq:gp+1=gq at*;obtain⟨x0,x1,x2,x3,x4,x5,x6,x7,x8⟩:=HC0.o.cells
 go_wp2_with ((go_at_call 24;refine C1.out.mono ?_;rintro ev w9 ⟨⟨r,rfl,hr⟩,Sr⟩);have HC1:=Hd (HC0.o.ai Sr);cases r)
 ·obtain⟨hc,hr2⟩:=EM (hr (by first|rfl|trivial)).1
  have LN:=Hd (Aj (hr (by first|rfl|trivial)).2);generalize hw9:w9=W1 at*;clear hw9;have cO:=Hd (λw2 (b:Below W1.heap.size W1 w2)=>Mo w2 M (.slice FA code.length Su) code ((HF.o.ai HC1.o.B).ai b) hc hr2);have HS:=Hd (λw2 (b:Below W1.heap.size W1 w2)=>(((HI.o.ai HC1.o.B nr).ai b nr).src HA.o));obtain⟨y0,y1,y2,y3,y4,y5,y6,y7,y8⟩:=HC1.o.cells;obtain⟨z0,z1,z2,z3,z4,z5,z6,z7,z8⟩:=HC1.o.drew.cells;obtain⟨f0,f1,f2,f3,f4,f5,f6,f7,f8⟩:=(HC1.o.ai (Ba (.cells #[] 3))).drew.cells;clear x0 x1 x2 x3 x4 x5 x6 x7 x8 Sr hr hc hr2 HC0 C1
  by_cases hok:eX M code input.length p aj
  ·have hok:=Hd hok
   go_upto_region 3 with fail
   go_region_law (first|(refine ay _ (by rfl) _ _ 25 (by rfl) 0 3 iI _ 1 8 underlying25 hI hI0 hI1 hI2 rfl U0 (.slice (some ⟨W1.heap.size,0,none⟩) 0 0) 0 [] (by rfl) (kV EE.out) (.slice IA input.length Sv) input.length (input.map (Value.int .i64)) (by rfl) ES.out (iW input) LN.out.1 LN.out.2 (n0 _) ?_;intro v2 w4 hown2 hgrow2 hat2;rw[Nat.zero_add,List.nil_append]at hown2;obtain⟨HC4,T4⟩:=kJ EE.out hgrow2 T1.out HC3.o U34;have I4:=Hd (gV hown2);obtain⟨A2,c2,rfl⟩:=ownsRow_form hown2;have HC4:=Hd HC4;have T4:=Hd T4;obtain⟨b0,b1,b2,b3,b4,b5,b6,b7,b8⟩:=HC4.o.cells;clear hown2 hgrow2 hat2)|(refine ay _ (by rfl) _ _ 25 (by rfl) 0 3 iI _ 1 8 underlying25 hI hI0 hI1 hI2 rfl U0 (.slice (some ⟨w3.heap.size,0,none⟩) 0 0) 0 [] (by rfl) (kV (af.new w3 _ _ _ rfl)) (.slice IA input.length Sv) input.length (input.map (Value.int .i64)) (by rfl) (ES.out.alloc _) (iW input) LN.out.1 LN.out.2 (n0 _) ?_;intro v2 w4 hown2 hgrow2 hat2;rw[Nat.zero_add,List.nil_append]at hown2;obtain⟨HC4,T4⟩:=kJ (af.new w3 #[] 3 _ rfl) hgrow2 (T1.out.ai (Ba _)) (HC3.o.ai (Ba _)) U34;have I4:=Hd (gV hown2);obtain⟨A2,c2,rfl⟩:=ownsRow_form hown2;have HC4:=Hd HC4;have T4:=Hd T4;obtain⟨b0,b1,b2,b3,b4,b5,b6,b7,b8⟩:=HC4.o.cells;clear hown2 hgrow2 hat2)|(go_simp;go_at_call 23;refine(cO.o _ U44).mono ?_;rintro ev w3 ⟨v1,rfl,T1,hb3⟩;have T1:=Hd T1;have B3:=Hd (show Below W1.heap.size W1 w3 from by first|exact hb3|exact(Below.refl _ _).drew.trans hb3|exact(Ba _).trans (hb3.mono U8)|exact((Ba _).drew).trans (hb3.mono U8));have HC3:=Hd (HC1.o.ai B3.o);obtain⟨a0,a1,a2,a3,a4,a5,a6,a7,a8⟩:=HC3.o.cells;obtain⟨d0,d1,d2,d3,d4,d5,d6,d7,d8⟩:=(HC3.o.ai (Ba (.cells #[] 3))).cells;(try have EE:=Hd (Es hb3));have ES:=Hd (HS.o _ B3.o);clear hb3)|(go_simp;go_at_call 25;refine(Ak w4 M v1 code T4.out.yz _ input I4.out p aj fold lazy hok.out).mono ?_;rintro ev w5 ⟨mq,z,lb,cap5,cs,rfl,R5,MB5,e5,f5⟩;have R5:=Hd R5;have MB5:=Hd MB5;have EF:=Hd (show Below w.heap.size w z.w0/\w.heap.size<=z.B from by rw[e5,f5];exact⟨HC4.o.B,HC4.o.B.size⟩);clear e5 f5))
   all_goals go_wp2_with fail
   all_goals go_ret
   all_goals exact Or.inr ⟨mq,z,lb,cap5,cs,_,rfl,hok.out.2.1,hok.out.2.2.2.1,R5.out,MB5.out,EF.out.1,EF.out.2⟩
  ·have hok:=Hd hok
   go_upto_region 3 with fail
   go_region_law (first|(refine ay _ (by rfl) _ _ 25 (by rfl) 0 3 iI _ 1 8 underlying25 hI hI0 hI1 hI2 rfl U0 (.slice (some ⟨W1.heap.size,0,none⟩) 0 0) 0 [] (by rfl) (kV EE.out) (.slice IA input.length Sv) input.length (input.map (Value.int .i64)) (by rfl) ES.out (iW input) LN.out.1 LN.out.2 (n0 _) ?_;intro v2 w4 hown2 hgrow2 hat2;rw[Nat.zero_add,List.nil_append]at hown2;obtain⟨HC4,T4⟩:=kJ EE.out hgrow2 T1.out HC3.o U34;have I4:=Hd (gV hown2);obtain⟨A2,c2,rfl⟩:=ownsRow_form hown2;have HC4:=Hd HC4;have T4:=Hd T4;obtain⟨b0,b1,b2,b3,b4,b5,b6,b7,b8⟩:=HC4.o.cells;clear hown2 hgrow2 hat2)|(refine ay _ (by rfl) _ _ 25 (by rfl) 0 3 iI _ 1 8 underlying25 hI hI0 hI1 hI2 rfl U0 (.slice (some ⟨w3.heap.size,0,none⟩) 0 0) 0 [] (by rfl) (kV (af.new w3 _ _ _ rfl)) (.slice IA input.length Sv) input.length (input.map (Value.int .i64)) (by rfl) (ES.out.alloc _) (iW input) LN.out.1 LN.out.2 (n0 _) ?_;intro v2 w4 hown2 hgrow2 hat2;rw[Nat.zero_add,List.nil_append]at hown2;obtain⟨HC4,T4⟩:=kJ (af.new w3 #[] 3 _ rfl) hgrow2 (T1.out.ai (Ba _)) (HC3.o.ai (Ba _)) U34;have I4:=Hd (gV hown2);obtain⟨A2,c2,rfl⟩:=ownsRow_form hown2;have HC4:=Hd HC4;have T4:=Hd T4;obtain⟨b0,b1,b2,b3,b4,b5,b6,b7,b8⟩:=HC4.o.cells;clear hown2 hgrow2 hat2)|(go_simp;go_at_call 23;refine(cO.o _ U44).mono ?_;rintro ev w3 ⟨v1,rfl,T1,hb3⟩;have T1:=Hd T1;have B3:=Hd (show Below W1.heap.size W1 w3 from by first|exact hb3|exact(Below.refl _ _).drew.trans hb3|exact(Ba _).trans (hb3.mono U8)|exact((Ba _).drew).trans (hb3.mono U8));have HC3:=Hd (HC1.o.ai B3.o);obtain⟨a0,a1,a2,a3,a4,a5,a6,a7,a8⟩:=HC3.o.cells;obtain⟨d0,d1,d2,d3,d4,d5,d6,d7,d8⟩:=(HC3.o.ai (Ba (.cells #[] 3))).cells;(try have EE:=Hd (Es hb3));have ES:=Hd (HS.o _ B3.o);clear hb3)|(go_simp;go_at_call 25;refine(Ga w4 M v1 code T4.out.yz A2 input.length c2 p aj fold lazy hok.out).mono ?_;rintro ev w5 ⟨⟨e5,rfl,ne5⟩,hb5⟩;have B5:=Hd (HC4.o.B.trans (hb5.mono HC4.o.B.size))))
   all_goals go_wp2_with fail
   all_goals go_ret
   all_goals exact Or.inl ⟨rfl,B5.o⟩
 ·go_ret
  exact Or.inl ⟨rfl,HC1.o.B⟩
end Go.Proofs.YteiignfflbmafaaGreat.Tp
