/- TopOne, part 33. -/
import Derived.Test.YteiignfflbmafaaGreatQ29
import Derived.Test.YteiignfflbmafaaGreatQ32
set_option linter.unusedVariables false
set_option linter.unusedSimpArgs false
set_option maxRecDepth 100000
set_option maxHeartbeats 8000000
namespace Go.Proofs.YteiignfflbmafaaGreat.Tp
open Go.Proofs.Tryz
open Go.RowKit Go.Proofs.YteiignfflbmafaaGreat.Tok
theorem Us70 {p:Prop} (h:p:=by
 go_wp2_with (go_at_call 51;refine cG.o.q λw3 hb3=> ?_)
 go_ret
 exact⟨rfl,(BB.o.trans (hb3.mono L1.out)).alloc (nT L1.out hb3.size) _⟩):p:=h
def verdict(v:Bool):Int:=if v=true then 0 else 1
theorem tH(w:World)(mv:Value)(l:List Mk)(hl:l.length<=40)(ho:Own w 211 3 Mk.cells mv l)(S:Nat->BS)(h0:S 0=⟨0,[],none,[[]],[]⟩)(hs:∀k (hk:k<l.length),kZ (S k) l[k] (S (k+1))/\(S k).few)
  (ps:List (List Int)) (hps:(S l.length).bC=ps) (s2:Nat) (hac:(S l.length).dS=[(1,0,true),((s2:Int),0,true)]) (hlen:ps.length<=64) (hg:vU ps) (h1s:1<s2) (h2s:s2<ps.length) (v:Bool) (hx:((bS [] ps).getD s2 0=1/\v=false)∨((bS [] ps).getD s2 0=5/\v=false)∨((bS [] ps).getD s2 0=15/\v=true)):
  Cs 54 #[mv] w (.int .i64 (verdict v)) λw'=>Below w.heap.size w w':=by
 have cB:=Hd (G8 w mv l hl ho S h0 hs);rw[hps,hac]at cB;have cF:=Hd (λ(w2:World) (A1:Option Addr) (n1 c1:Nat) (A2:Option Addr) (n2 c2:Nat) (ab c3:Nat) (hP:dR w2 (.slice A1 n1 c1) ps) (ho:Own w2 98 3 xK (.slice (some ⟨ab,0,none⟩) 2 c3) [(1,0,true),((s2:Int),0,true)])=>(by
  obtain⟨g,cap,e,hc⟩:=ho.cells (λ_=>rfl) U8
  cases e
  exact Aa w2 A1 n1 c1 (.slice A2 n2 c2) ⟨_,_,_,rfl⟩ ab c3 ps hP hlen hg s2 h1s h2s 0 true U0 (hc 0 0 U8 U0) (hc 0 1 U8 U0) (hc 0 2 U8 U0) (hc 1 0 U8 U0) (hc 1 1 U8 U0) (hc 1 2 U8 U0) v hx:Cs 51 #[.agg #[.slice A1 n1 c1,.slice A2 n2 c2,.slice (some ⟨ab,0,none⟩) 2 c3]] w2 (.tuple #[lL v 0,.bool (!v),(0:Int)]) λw'=>Below w2.heap.size w2 w'))
 clear hl ho h0 hs hps hac hlen hg h1s h2s hx;have three:¬((3000:Int)<2):=by decide
 go_enter func54,ntmps54
 go_upto_region 2 with(go_at_call 74;refine cB.o.mono ?_;rintro ev w1 ⟨A1,n1,c1,A2,n2,c2,A3,n3,c3,rfl,hr,ho,Sr⟩;have HR:=Hd hr;have HO:=Hd ho;have B1:=Hd Sr;clear hr ho Sr)
 obtain⟨g3,cap3,e3,_⟩:=HO.o.cells (λ_=>rfl) U8;have e3:Value.slice A3 n3 c3=.slice (some ⟨g3,0,none⟩) 2 cap3:=e3
 cases e3
 have BX:=Hd (af.new w1 #[.slice A1 n1 c1,.slice A2 n2 c2,.slice (some ⟨g3,0,none⟩) 2 c3] 102 _ rfl);have B2:=(Below.refl w1.heap.size w1).alloc nr (.cells #[.slice A1 n1 c1,.slice A2 n2 c2,.slice (some ⟨g3,0,none⟩) 2 c3] 102);have cG:=Hd (cF.o _ A1 n1 c1 A2 n2 c2 g3 c3 (HR.o.ai B2 nr) (HO.o.alloc _));have BB:=Hd (B1.o.trans (B2.mono B1.o.size));have L1:=Hd (show w.heap.size<=(w1.alloc (.cells #[.slice A1 n1 c1,.slice A2 n2 c2,.slice (some ⟨g3,0,none⟩) 2 c3] 102)).heap.size from by have:=B1.o.size;simp;omega);clear cF cB B2 HR HO;generalize w1.alloc (.cells #[.slice A1 n1 c1,.slice A2 n2 c2,.slice (some ⟨g3,0,none⟩) 2 c3] 102)=W2 at*;generalize w1.heap.size=q at*;have x0:=BX.o.c0;have x1:=BX.o.c1;have x2:=BX.o.c2
 cases v with
 |true=>
  rw[show lL true 0=.agg #[(0:Int),(0:Int),(0:Int)]from rfl]at cG
  exact Us70
 |false=>
  rw[show lL false 0=.agg #[(0:Int),(1:Int),(0:Int)]from rfl]at cG
  exact Us70
theorem mM{w:World}{g:Nat}{l:List Is}(h:af w g (rows Is.cells l) 109)(h0:0<l.length)(hm:l.length<=1000):dX w (.slice (some ⟨g,0,none⟩) l.length l.length) l:=
 ⟨_,_,rfl,Nat.le_refl _,⟨by unfold maxLen;omega,λz=>by cases z⟩,λ_=>⟨g,0,rfl,λpc hp j hj=>by
  rw[h.cell,show 0+pc*4+j=4*pc+j by omega]
  exact wM Is.cells 4 (λ_=>rfl) l pc j hp hj⟩⟩
theorem qB{w:World}{g:Nat}{v1 v2:Value}{l1 l2:List Is}(h:af w g #[v1,v2] 107)(h1:dX w v1 l1)(h2:dX w v2 l2):aP w (.slice (some ⟨g,0,none⟩) 2 2) [l1,l2]:=
 ⟨_,_,rfl,Nat.le_refl _,by unfold maxLen;decide,λ_=>⟨g,0,rfl,λi hi=>by
  match i,hi with
  |0,_=>exact⟨v1,h.cell 0,h1⟩
  |1,_=>exact⟨v2,h.cell 1,h2⟩⟩⟩
def oo:List Is:=[⟨20,1,0,0⟩,⟨20,1,0,0⟩,⟨0,0,0,0⟩]
def jP:List Is:=[⟨14,1,1,0⟩,⟨0,0,0,0⟩]
def sG:List Is:=[⟨20,1,0,0⟩,⟨21,0,0,0⟩,⟨20,1,0,0⟩,⟨0,0,0,0⟩]
theorem GK:(prog.info? 24).map (·.size)=some 2:=by kernel_rfl
theorem Jo(w:World):Calls prog 52 #[] w λev w'=>∃g g1 g2,ev=.returned (.agg #[(1:Int),.slice (some ⟨g,0,none⟩) 2 2])/\af w' g #[.slice (some ⟨g1,0,none⟩) 3 3,.slice (some ⟨g2,0,none⟩) 2 2] 107 /\af w' g1 (rows Is.cells oo) 109 /\af w' g2 (rows Is.cells jP) 109 /\Below w.heap.size w w'/\w.heap.size<=g:=by
 go_enter func52,ntmps52;go_wp2_with fail;have b0:=(((af.new w #[(1:Int),.slice (some ⟨w.heap.size+1+1+1,0,none⟩) 2 2] 24 _ rfl).alloc (.cells #[(20:Int),(1:Int),(0:Int),(0:Int),(20:Int),(1:Int),(0:Int),(0:Int),(0:Int),(0:Int),(0:Int),(0:Int)] 109)).alloc (.cells #[(14:Int),(1:Int),(1:Int),(0:Int),(0:Int),(0:Int),(0:Int),(0:Int)] 109)).alloc (.cells #[.slice (some ⟨w.heap.size+1,0,none⟩) 3 3,.slice (some ⟨w.heap.size+1+1,0,none⟩) 2 2] 107);have b1:=((af.new (w.alloc (.cells #[(1:Int),.slice (some ⟨w.heap.size+1+1+1,0,none⟩) 2 2] 24)) #[(20:Int),(1:Int),(0:Int),(0:Int),(20:Int),(1:Int),(0:Int),(0:Int),(0:Int),(0:Int),(0:Int),(0:Int)] 109 (w.heap.size+1) U8).alloc (.cells #[(14:Int),(1:Int),(1:Int),(0:Int),(0:Int),(0:Int),(0:Int),(0:Int)] 109)).alloc (.cells #[.slice (some ⟨w.heap.size+1,0,none⟩) 3 3,.slice (some ⟨w.heap.size+1+1,0,none⟩) 2 2] 107);have b2:=(af.new ((w.alloc (.cells #[(1:Int),.slice (some ⟨w.heap.size+1+1+1,0,none⟩) 2 2] 24)).alloc (.cells #[(20:Int),(1:Int),(0:Int),(0:Int),(20:Int),(1:Int),(0:Int),(0:Int),(0:Int),(0:Int),(0:Int),(0:Int)] 109)) #[(14:Int),(1:Int),(1:Int),(0:Int),(0:Int),(0:Int),(0:Int),(0:Int)] 109 (w.heap.size+1+1) U8).alloc (.cells #[.slice (some ⟨w.heap.size+1,0,none⟩) 3 3,.slice (some ⟨w.heap.size+1+1,0,none⟩) 2 2] 107);have b3:=af.new (((w.alloc (.cells #[(1:Int),.slice (some ⟨w.heap.size+1+1+1,0,none⟩) 2 2] 24)).alloc (.cells #[(20:Int),(1:Int),(0:Int),(0:Int),(20:Int),(1:Int),(0:Int),(0:Int),(0:Int),(0:Int),(0:Int),(0:Int)] 109)).alloc (.cells #[(14:Int),(1:Int),(1:Int),(0:Int),(0:Int),(0:Int),(0:Int),(0:Int)] 109)) #[.slice (some ⟨w.heap.size+1,0,none⟩) 3 3,.slice (some ⟨w.heap.size+1+1,0,none⟩) 2 2] 107 (w.heap.size+1+1+1) U8
 have bw:Below w.heap.size w ((((w.alloc (.cells #[(1:Int),.slice (some ⟨w.heap.size+1+1+1,0,none⟩) 2 2] 24)).alloc (.cells #[(20:Int),(1:Int),(0:Int),(0:Int),(20:Int),(1:Int),(0:Int),(0:Int),(0:Int),(0:Int),(0:Int),(0:Int)] 109)).alloc (.cells #[(14:Int),(1:Int),(1:Int),(0:Int),(0:Int),(0:Int),(0:Int),(0:Int)] 109)).alloc (.cells #[.slice (some ⟨w.heap.size+1,0,none⟩) 3 3,.slice (some ⟨w.heap.size+1+1,0,none⟩) 2 2] 107)):=(((Ba _).alloc U8 _).alloc U41 _).alloc U41 _;have hl:=run_loadVar_row _ w.heap.size 24 24 _ (0,0) _ b0 underlying24 rfl GK;generalize((((w.alloc (.cells #[(1:Int),.slice (some ⟨w.heap.size+1+1+1,0,none⟩) 2 2] 24)).alloc (.cells #[(20:Int),(1:Int),(0:Int),(0:Int),(20:Int),(1:Int),(0:Int),(0:Int),(0:Int),(0:Int),(0:Int),(0:Int)] 109)).alloc (.cells #[(14:Int),(1:Int),(1:Int),(0:Int),(0:Int),(0:Int),(0:Int),(0:Int)] 109)).alloc (.cells #[.slice (some ⟨w.heap.size+1,0,none⟩) 3 3,.slice (some ⟨w.heap.size+1+1,0,none⟩) 2 2] 107))=W at*;refine bodyPost_ret (v:=.agg #[(1:Int),.slice (some ⟨w.heap.size+1+1+1,0,none⟩) 2 2]) (by simp[results,results52,Act.put,asAddr,hl]) rfl ⟨w.heap.size+1+1+1,w.heap.size+1,w.heap.size+1+1,rfl,b3,b1,b2,bw,by omega⟩
theorem vZ(w:World)(fv:Value)(st:ES)(hst:st.status=1)(v:Bool)(hrun:∀w2,Below w.heap.size w w2->Calls prog 73 #[.agg #[.int .i64 ((1:Nat):Int),fv],.slice none 0 0,(99:Int)] w2 (QQ w2 ((1:Nat):Int) fv st))
  (hcl:∀w2 mv,Own w2 211 3 Mk.cells mv st.marks->Cs 54 #[mv] w2 (.int .i64 (verdict v)) λw'=>Below w2.heap.size w2 w'):
  Calls prog 22 #[.agg #[(1:Int),fv],.slice none 0 0,(99:Int)] w λev w'=>(∃A n c,ev=.returned (.tuple #[.int .i64 (verdict v),KE st (.slice A n c)]))/\Below w.heap.size w w':=by
 have z0:=(af.new w #[(1:Int),fv] 24 _ rfl).alloc (.cells #[(0:Int),(0:Int),.slice none 0 0,.slice none 0 0,(0:Int),(0:Int),(0:Int)] 31);have z1:=af.new (w.alloc (.cells #[(1:Int),fv] 24)) #[(0:Int),(0:Int),.slice none 0 0,.slice none 0 0,(0:Int),(0:Int),(0:Int)] 31 _ rfl;rw[World.size_alloc]at z1;have BW:Below w.heap.size w ((w.alloc (.cells #[(1:Int),fv] 24)).alloc (.cells #[(0:Int),(0:Int),.slice none 0 0,.slice none 0 0,(0:Int),(0:Int),(0:Int)] 31)):=(Ba _).alloc U8 _;have HB:=Hd BW;have HR:=Hd (λw2 (k:Below w.heap.size w w2)=>hrun w2 k);have cE:=Hd (λw2 (k:Below w.heap.size w w2)=>Ld w2 1 fv st (λw3 k3=>hrun w3 (k.trans (k3.mono k.size))));have cM:=Hd (λw2 (k:Below w.heap.size w w2)=>Hm w2 1 fv st (λw3 k3=>hrun w3 (k.trans (k3.mono k.size))));have cC:=Hd hcl;have X0:=Hd z0;have X7:=Hd z1;have HS:=Hd hst;clear hrun hcl BW z0 z1;unfold KE at cE;rw[hst]at cE;go_enter func22,ntmps22;go_upto_region 1 with fail;generalize(w.alloc (.cells #[(1:Int),fv] 24)).alloc (.cells #[(0:Int),(0:Int),.slice none 0 0,.slice none 0 0,(0:Int),(0:Int),(0:Int)] 31)=W at*;generalize hq:w.heap.size=q at*;have x0:=X0.o.c0;have x1:=X0.o.c1
 go_upto_region 2 with(go_at_call 53;refine(cE.o _ HB.o).mono ?_;rintro ev w1 ⟨⟨A,n,c,rfl⟩,Sr⟩;have HB:=Hd (HB.o.trans (Sr.mono (Nat.le_of_lt X0.o.lt)));have X0:=Hd (X0.o.below Sr X0.o.lt);have X7:=Hd (X7.o.below Sr X7.o.lt);have H1:=Hd Sr;have HX7:=Hd (show q+1<w1.heap.size from X7.o.lt);clear Sr)
 have X8:=Hd (af.new w1 #[(1:Int),(0:Int),.slice none 0 0,.slice A n c,st.steps,st.frames,st.deepest] 31 _ rfl);have B2:=(Below.refl w1.heap.size w1).alloc nr (.cells #[(1:Int),(0:Int),.slice none 0 0,.slice A n c,st.steps,st.frames,st.deepest] 31);have X0:=Hd (X0.o.below B2 X0.o.lt);have X7:=Hd (X7.o.below B2 X7.o.lt);have N78:=Hd (show q+1≠w1.heap.size from Nat.ne_of_lt (by have:=HB.o.size;have:=X7.o.lt;have q1:=H1.o.size;have q2:=HX7.o;omega));have HB:=Hd (HB.o.trans (B2.mono (by have:=HX7.o;omega)));clear B2 cE x0 x1 H1 HX7;generalize w1.alloc (.cells #[(1:Int),(0:Int),.slice none 0 0,.slice A n c,st.steps,st.frames,st.deepest] 31)=W2 at*;generalize w1.heap.size=q8 at*;have x0:=X0.o.c0;have x1:=X0.o.c1;have o0:=X8.o.cell 0;have o1:=X8.o.cell 1;have o2:=X8.o.cell 2;have o3:=X8.o.cell 3;have o4:=X8.o.cell 4;have o5:=X8.o.cell 5;have o6:=X8.o.cell 6;simp only[List.getElem?_toArray,List.getElem?_cons_zero,List.getElem?_cons_succ]at o0 o1 o2 o3 o4 o5 o6;go_upto_region 8 with fail;have cM1:=Hd (cM.o W2 HB.o);have cM2:=Hd (cM.o W2.drew HB.o.drew)
 go_region_law (first|(go_simp;go_at_call 55;first|(refine cM1.o.mono ?_;rintro ev w3 ⟨mv,rfl,om,hb3⟩;have hb3:=Hd hb3;have B3:=Hd (HB.o.trans (hb3.out.mono (Nat.le_of_lt X0.o.lt)));have X0:=Hd (X0.o.below hb3.out X0.o.lt);have X7:=Hd (X7.o.below hb3.out X7.o.lt);have X8:=Hd (X8.o.below hb3.out X8.o.lt);have p0:=X8.o.cell 0;have p1:=X8.o.cell 1;have p2:=X8.o.cell 2;have p3:=X8.o.cell 3;have p4:=X8.o.cell 4;have p5:=X8.o.cell 5;have p6:=X8.o.cell 6;simp only[List.getElem?_toArray,List.getElem?_cons_zero,List.getElem?_cons_succ]at p0 p1 p2 p3 p4 p5 p6;have OM:=Hd om;have cC1:=Hd (cC.o w3 mv om);clear om)|(refine cM2.o.mono ?_;rintro ev w3 ⟨mv,rfl,om,hb3⟩;have hb3:=Hd (show Below W2.heap.size W2 w3 from(Below.refl _ _).drew.trans hb3);have B3:=Hd (HB.o.trans (hb3.out.mono (Nat.le_of_lt X0.o.lt)));have X0:=Hd (X0.o.below hb3.out X0.o.lt);have X7:=Hd (X7.o.below hb3.out X7.o.lt);have X8:=Hd (X8.o.below hb3.out X8.o.lt);have p0:=X8.o.cell 0;have p1:=X8.o.cell 1;have p2:=X8.o.cell 2;have p3:=X8.o.cell 3;have p4:=X8.o.cell 4;have p5:=X8.o.cell 5;have p6:=X8.o.cell 6;simp only[List.getElem?_toArray,List.getElem?_cons_zero,List.getElem?_cons_succ]at p0 p1 p2 p3 p4 p5 p6;have OM:=Hd om;have cC1:=Hd (cC.o w3 mv om);clear om))|(go_simp;go_at_call 54;first|(refine cC1.o.q λw4 hb4=> ?_;have B4:=Hd (B3.o.trans (hb4.mono (Nat.le_of_lt X0.o.lt)));have X0:=Hd (X0.o.below hb4 X0.o.lt);have X7:=Hd (X7.o.below hb4 X7.o.lt);have X8:=Hd (X8.o.below hb4 X8.o.lt);have r0:=X8.o.cell 0;have r1:=X8.o.cell 1;have r2:=X8.o.cell 2;have r3:=X8.o.cell 3;have r4:=X8.o.cell 4;have r5:=X8.o.cell 5;have r6:=X8.o.cell 6;simp only[List.getElem?_toArray,List.getElem?_cons_zero,List.getElem?_cons_succ]at r0 r1 r2 r3 r4 r5 r6;have s0:=X7.o.cell 0;have s1:=X7.o.cell 1;have s2:=X7.o.cell 2;have s3:=X7.o.cell 3;have s4:=X7.o.cell 4;have s5:=X7.o.cell 5;have s6:=X7.o.cell 6;simp only[List.getElem?_toArray,List.getElem?_cons_zero,List.getElem?_cons_succ]at s0 s1 s2 s3 s4 s5 s6;have sf:=X7.o.fz;have n87:¬q8=q+1:=λz=>N78.out z.symm;have n78:¬q+1=q8:=N78.out;clear hb4)))
 all_goals
  have Z:=(((((((X7.o.set 0 (.int .i64 1)).set 1 (.int .i64 0)).set 2 (.slice none 0 0)).set 3 (.slice A n c)).set 4 ↑st.steps).set 5 ↑st.frames).set 6 ↑st.deepest);have BZ:=(((((((B4.o.setCell (p:=⟨q+1,0,none⟩) (Nat.le_succ q) (.int .i64 1)).setCell (p:=⟨q+1,1,none⟩) (Nat.le_succ q) (.int .i64 0)).setCell (p:=⟨q+1,2,none⟩) (Nat.le_succ q) (.slice none 0 0)).setCell (p:=⟨q+1,3,none⟩) (Nat.le_succ q) (.slice A n c)).setCell (p:=⟨q+1,4,none⟩) (Nat.le_succ q) ↑st.steps).setCell (p:=⟨q+1,5,none⟩) (Nat.le_succ q) ↑st.frames).setCell (p:=⟨q+1,6,none⟩) (Nat.le_succ q) ↑st.deepest);have ev0:(Value.tuple #[.int .i64 (verdict v),.agg #[(1:Int),(0:Int),.slice none 0 0,.slice A n c,st.steps,st.frames,st.deepest]])=.tuple #[.int .i64 (verdict v),KE st (.slice A n c)]:=by unfold KE;rw[HS.o]
  go_wp2_with fail
  first
  |(have hl:=run_loadVar_row _ (q+1) 31 31 _ (0,0) _ Z underlying31 rfl uN;refine bodyPost_ret (v:=.tuple #[.int .i64 (verdict v),.agg #[(1:Int),(0:Int),.slice none 0 0,.slice A n c,st.steps,st.frames,st.deepest]]) U83 rfl ⟨⟨A,n,c,by rw[ev0]⟩,by first|(rw[hq];exact BZ)|exact BZ⟩)
  |(have hl:=run_loadVar_row _ (q+1) 31 31 _ (0,0) _ Z.drew underlying31 rfl uN;refine bodyPost_ret (v:=.tuple #[.int .i64 (verdict v),.agg #[(1:Int),(0:Int),.slice none 0 0,.slice A n c,st.steps,st.frames,st.deepest]]) U83 rfl ⟨⟨A,n,c,by rw[ev0]⟩,by first|(rw[hq];exact BZ.drew)|exact BZ.drew⟩)
theorem Hy(w:World):Calls prog 47 #[] w λev w'=>∃g,ev=.returned (.agg #[(0:Int),.slice (some ⟨g,0,none⟩) 2 2])/\aP w' (.slice (some ⟨g,0,none⟩) 2 2) three/\Below w.heap.size w w':=by
 go_enter func47,ntmps47;go_wp2_with fail;have b0:=(((af.new w #[(0:Int),.slice (some ⟨w.heap.size+1+1+1,0,none⟩) 2 2] 24 _ rfl).alloc (.cells #[(1:Int),(7:Int),(3:Int),(0:Int),(1:Int),(6:Int),(1:Int),(0:Int),(22:Int),(1:Int),(0:Int),(0:Int),(0:Int),(0:Int),(0:Int),(0:Int)] 109)).alloc (.cells #[(19:Int),(7:Int),(6:Int),(0:Int),(4:Int),(7:Int),(7:Int),(6:Int),(3:Int),(5:Int),(5:Int),(6:Int),(23:Int),(6:Int),(0:Int),(0:Int),(17:Int),(5:Int),(0:Int),(0:Int),(0:Int),(0:Int),(0:Int),(0:Int),(25:Int),(0:Int),(0:Int),(0:Int)] 109)).alloc (.cells #[.slice (some ⟨w.heap.size+1,0,none⟩) 4 4,.slice (some ⟨w.heap.size+1+1,0,none⟩) 7 7] 107);have b1:=((af.new (w.alloc (.cells #[(0:Int),.slice (some ⟨w.heap.size+1+1+1,0,none⟩) 2 2] 24)) #[(1:Int),(7:Int),(3:Int),(0:Int),(1:Int),(6:Int),(1:Int),(0:Int),(22:Int),(1:Int),(0:Int),(0:Int),(0:Int),(0:Int),(0:Int),(0:Int)] 109 (w.heap.size+1) U8).alloc (.cells #[(19:Int),(7:Int),(6:Int),(0:Int),(4:Int),(7:Int),(7:Int),(6:Int),(3:Int),(5:Int),(5:Int),(6:Int),(23:Int),(6:Int),(0:Int),(0:Int),(17:Int),(5:Int),(0:Int),(0:Int),(0:Int),(0:Int),(0:Int),(0:Int),(25:Int),(0:Int),(0:Int),(0:Int)] 109)).alloc (.cells #[.slice (some ⟨w.heap.size+1,0,none⟩) 4 4,.slice (some ⟨w.heap.size+1+1,0,none⟩) 7 7] 107);have b2:=(af.new ((w.alloc (.cells #[(0:Int),.slice (some ⟨w.heap.size+1+1+1,0,none⟩) 2 2] 24)).alloc (.cells #[(1:Int),(7:Int),(3:Int),(0:Int),(1:Int),(6:Int),(1:Int),(0:Int),(22:Int),(1:Int),(0:Int),(0:Int),(0:Int),(0:Int),(0:Int),(0:Int)] 109)) #[(19:Int),(7:Int),(6:Int),(0:Int),(4:Int),(7:Int),(7:Int),(6:Int),(3:Int),(5:Int),(5:Int),(6:Int),(23:Int),(6:Int),(0:Int),(0:Int),(17:Int),(5:Int),(0:Int),(0:Int),(0:Int),(0:Int),(0:Int),(0:Int),(25:Int),(0:Int),(0:Int),(0:Int)] 109 (w.heap.size+1+1) U8).alloc (.cells #[.slice (some ⟨w.heap.size+1,0,none⟩) 4 4,.slice (some ⟨w.heap.size+1+1,0,none⟩) 7 7] 107)
 have b3:=af.new (((w.alloc (.cells #[(0:Int),.slice (some ⟨w.heap.size+1+1+1,0,none⟩) 2 2] 24)).alloc (.cells #[(1:Int),(7:Int),(3:Int),(0:Int),(1:Int),(6:Int),(1:Int),(0:Int),(22:Int),(1:Int),(0:Int),(0:Int),(0:Int),(0:Int),(0:Int),(0:Int)] 109)).alloc (.cells #[(19:Int),(7:Int),(6:Int),(0:Int),(4:Int),(7:Int),(7:Int),(6:Int),(3:Int),(5:Int),(5:Int),(6:Int),(23:Int),(6:Int),(0:Int),(0:Int),(17:Int),(5:Int),(0:Int),(0:Int),(0:Int),(0:Int),(0:Int),(0:Int),(25:Int),(0:Int),(0:Int),(0:Int)] 109)) #[.slice (some ⟨w.heap.size+1,0,none⟩) 4 4,.slice (some ⟨w.heap.size+1+1,0,none⟩) 7 7] 107 (w.heap.size+1+1+1) U8;have bw:Below w.heap.size w ((((w.alloc (.cells #[(0:Int),.slice (some ⟨w.heap.size+1+1+1,0,none⟩) 2 2] 24)).alloc (.cells #[(1:Int),(7:Int),(3:Int),(0:Int),(1:Int),(6:Int),(1:Int),(0:Int),(22:Int),(1:Int),(0:Int),(0:Int),(0:Int),(0:Int),(0:Int),(0:Int)] 109)).alloc (.cells #[(19:Int),(7:Int),(6:Int),(0:Int),(4:Int),(7:Int),(7:Int),(6:Int),(3:Int),(5:Int),(5:Int),(6:Int),(23:Int),(6:Int),(0:Int),(0:Int),(17:Int),(5:Int),(0:Int),(0:Int),(0:Int),(0:Int),(0:Int),(0:Int),(25:Int),(0:Int),(0:Int),(0:Int)] 109)).alloc (.cells #[.slice (some ⟨w.heap.size+1,0,none⟩) 4 4,.slice (some ⟨w.heap.size+1+1,0,none⟩) 7 7] 107)):=(((Ba _).alloc U8 _).alloc U41 _).alloc U41 _;have hl:=run_loadVar_row _ w.heap.size 24 24 _ (0,0) _ b0 underlying24 rfl GK;generalize((((w.alloc (.cells #[(0:Int),.slice (some ⟨w.heap.size+1+1+1,0,none⟩) 2 2] 24)).alloc (.cells #[(1:Int),(7:Int),(3:Int),(0:Int),(1:Int),(6:Int),(1:Int),(0:Int),(22:Int),(1:Int),(0:Int),(0:Int),(0:Int),(0:Int),(0:Int),(0:Int)] 109)).alloc (.cells #[(19:Int),(7:Int),(6:Int),(0:Int),(4:Int),(7:Int),(7:Int),(6:Int),(3:Int),(5:Int),(5:Int),(6:Int),(23:Int),(6:Int),(0:Int),(0:Int),(17:Int),(5:Int),(0:Int),(0:Int),(0:Int),(0:Int),(0:Int),(0:Int),(25:Int),(0:Int),(0:Int),(0:Int)] 109)).alloc (.cells #[.slice (some ⟨w.heap.size+1,0,none⟩) 4 4,.slice (some ⟨w.heap.size+1+1,0,none⟩) 7 7] 107))=W at*
 refine bodyPost_ret (v:=.agg #[(0:Int),.slice (some ⟨w.heap.size+1+1+1,0,none⟩) 2 2]) (by simp[results,results47,Act.put,asAddr,hl]) rfl ⟨w.heap.size+1+1+1,rfl,?_,bw⟩
 exact qB b3 (mM (l:=[⟨1,7,3,0⟩,⟨1,6,1,0⟩,⟨22,1,0,0⟩,⟨0,0,0,0⟩]) b1 U0 U0) (mM (l:=[⟨19,7,6,0⟩,⟨4,7,7,6⟩,⟨3,5,5,6⟩,⟨23,6,0,0⟩,⟨17,5,0,0⟩,⟨0,0,0,0⟩,⟨25,0,0,0⟩]) b2 U0 U0)
theorem ek{st st':ES}{pre:List SF}{x:SF}{PC:Int}{EF:Sp.Ef}(n:Int)(h:wrap64 (st.steps+1)=n)(d:Does {st with steps:=n} pre x PC EF st'):Does {st with steps:=wrap64 (st.steps+1)} pre x PC EF st':=by subst h;exact d
set_option maxRecDepth 100000
def Cb:Nat->ES
 |0=>⟨[⟨1,0,0,ax,false⟩],[0],[],0,0,1,1⟩
 |1=>⟨[⟨1,0,1,ax,true⟩,⟨1,1,0,ax,false⟩],[0],[⟨4,0⟩],0,1,2,2⟩
 |2=>⟨[⟨1,0,1,ax,true⟩,⟨1,1,1,ax,false⟩],[0],[⟨4,0⟩,⟨2,0⟩],0,2,2,2⟩
 |3=>⟨[⟨1,0,1,ax,true⟩],[0],[⟨4,0⟩,⟨2,0⟩,⟨5,0⟩],0,3,2,2⟩
 |4=>⟨[⟨1,0,2,ax,true⟩,⟨1,1,0,ax,false⟩],[0],[⟨4,0⟩,⟨2,0⟩,⟨5,0⟩,⟨4,0⟩],0,4,3,2⟩
 |5=>⟨[⟨1,0,2,ax,true⟩,⟨1,1,1,ax,false⟩],[0],[⟨4,0⟩,⟨2,0⟩,⟨5,0⟩,⟨4,0⟩,⟨2,0⟩],0,5,3,2⟩
 |6=>⟨[⟨1,0,2,ax,true⟩],[0],[⟨4,0⟩,⟨2,0⟩,⟨5,0⟩,⟨4,0⟩,⟨2,0⟩,⟨5,0⟩],0,6,3,2⟩
 |_=>⟨[⟨1,0,2,ax,false⟩],[0],[⟨4,0⟩,⟨2,0⟩,⟨5,0⟩,⟨4,0⟩,⟨2,0⟩,⟨5,0⟩,⟨6,0⟩],1,7,3,2⟩
theorem Og:∀k,k<7->zK [oo,jP] (Cb k) (Cb (k+1))/\(Cb (k+1)).status=if k+1<7 then 0 else 1
 |0,_=>⟨⟨[],⟨1,0,0,ax,false⟩,0,0,1,⟨6,0,1,0,0⟩,by decide,by decide,rfl,by decide,by decide,rfl,rfl,by decide+kernel,rfl,rfl,rfl,ek 1 U26 (Does.fork (st:={Cb 0 with steps:=1}) (pre:=[]) (x:=⟨1,0,0,ax,false⟩) (PC:=1) 0 1 0 0 2 2 U26 U26)⟩,rfl⟩
 |1,_=>⟨⟨[⟨1,0,1,ax,true⟩],⟨1,1,0,ax,false⟩,1,0,1,⟨2,0,0,0,0⟩,by decide,by decide,rfl,by decide,by decide,rfl,rfl,by decide+kernel,rfl,rfl,rfl,ek 2 U26 (Does.write (st:={Cb 1 with steps:=2}) (pre:=[⟨1,0,1,ax,true⟩]) (x:=⟨1,1,0,ax,false⟩) (PC:=1) 0 0 0 0 U0)⟩,rfl⟩
 |2,_=>⟨⟨[⟨1,0,1,ax,true⟩],⟨1,1,1,ax,false⟩,1,1,2,⟨12,0,0,0,0⟩,by decide,by decide,rfl,by decide,by decide,rfl,rfl,by decide+kernel,rfl,rfl,rfl,ek 3 U26 (Does.back (st:={Cb 2 with steps:=3}) (pre:=[⟨1,0,1,ax,true⟩]) (x:=⟨1,1,1,ax,false⟩) (PC:=2) 0 0 0 0 rfl rfl U8)⟩,rfl⟩
 |3,_=>⟨⟨[],⟨1,0,1,ax,true⟩,0,1,2,⟨6,0,1,0,0⟩,by decide,by decide,rfl,by decide,by decide,rfl,rfl,by decide+kernel,rfl,rfl,rfl,ek 4 U26 (Does.fork (st:={Cb 3 with steps:=4}) (pre:=[]) (x:=⟨1,0,1,ax,true⟩) (PC:=2) 0 1 0 0 3 2 U26 U26)⟩,rfl⟩
 |4,_=>⟨⟨[⟨1,0,2,ax,true⟩],⟨1,1,0,ax,false⟩,1,0,1,⟨2,0,0,0,0⟩,by decide,by decide,rfl,by decide,by decide,rfl,rfl,by decide+kernel,rfl,rfl,rfl,ek 5 U26 (Does.write (st:={Cb 4 with steps:=5}) (pre:=[⟨1,0,2,ax,true⟩]) (x:=⟨1,1,0,ax,false⟩) (PC:=1) 0 0 0 0 U0)⟩,rfl⟩
 |5,_=>⟨⟨[⟨1,0,2,ax,true⟩],⟨1,1,1,ax,false⟩,1,1,2,⟨12,0,0,0,0⟩,by decide,by decide,rfl,by decide,by decide,rfl,rfl,by decide+kernel,rfl,rfl,rfl,ek 6 U26 (Does.back (st:={Cb 5 with steps:=6}) (pre:=[⟨1,0,2,ax,true⟩]) (x:=⟨1,1,1,ax,false⟩) (PC:=2) 0 0 0 0 rfl rfl U8)⟩,rfl⟩
 |6,_=>⟨⟨[],⟨1,0,2,ax,true⟩,0,2,3,⟨12,0,0,0,0⟩,by decide,by decide,rfl,by decide,by decide,rfl,rfl,by decide+kernel,rfl,rfl,rfl,ek 7 U26 (Does.ends (st:={Cb 6 with steps:=7}) (pre:=[]) (x:=⟨1,0,2,ax,true⟩) (PC:=3) 0 0 0 0 rfl rfl rfl)⟩,rfl⟩
 |k+7,h=>absurd h U2
def QT:List Mk:=[⟨4,0⟩,⟨2,0⟩,⟨5,0⟩,⟨4,0⟩,⟨2,0⟩,⟨5,0⟩,⟨6,0⟩]
def QR:Nat->BS
 |0=>⟨0,[],none,[[]],[]⟩
 |1=>⟨0,[],some 1,[[],[0]],[]⟩
 |2=>⟨0,[],some 1,[[],[0]],[(1,0,true)]⟩
 |3=>⟨2,[1],none,[[],[0],[0]],[(1,0,true)]⟩
 |4=>⟨2,[1],some 3,[[],[0],[0],[2]],[(1,0,true)]⟩
 |5=>⟨2,[1],some 3,[[],[0],[0],[2]],[(1,0,true),(3,0,true)]⟩
 |6=>⟨4,[1,3],none,[[],[0],[0],[2],[2]],[(1,0,true),(3,0,true)]⟩
 |_=>⟨5,[],none,[[],[0],[0],[2],[2],[4,1,3]],[(1,0,true),(3,0,true)]⟩
theorem Od:∀k (hk:k<QT.length),kZ (QR k) QT[k] (QR (k+1))/\(QR k).few
 |0,_=>⟨.fork 0 rfl,by decide,by decide,by decide⟩
 |1,_=>⟨.write 1 0 rfl,by decide,by decide,by decide⟩
 |2,_=>⟨.back 1 0 rfl,by decide,by decide,by decide⟩
 |3,_=>⟨.fork 0 rfl,by decide,by decide,by decide⟩
 |4,_=>⟨.write 3 0 rfl,by decide,by decide,by decide⟩
 |5,_=>⟨.back 3 0 rfl,by decide,by decide,by decide⟩
 |6,_=>⟨.meet 0 rfl,by decide,by decide,by decide⟩
 |k+7,h=>absurd h (by simp[QT])
theorem Oi(w:World)(fv:Value)(h:aP w fv [oo,jP]):Calls prog 22 #[.agg #[(1:Int),fv],.slice none 0 0,(99:Int)] w λev w'=>(∃A n c,ev=.returned (.tuple #[(1:Int),KE (Cb 7) (.slice A n c)]))/\Below w.heap.size w w':=
 vZ w fv (Cb 7) rfl false (λw2 b=>Ho w2 1 fv _ (h.ai b) U0 U26 7 ⟨by decide,by decide⟩ Cb rfl Og U0)
  (λw2 mv o=>tH w2 mv QT U0 o QR rfl Od [[],[0],[0],[2],[2],[4,1,3]] rfl 3 rfl U0 U106 U0 U0 false U26)
def Ag:Nat->ES
 |0=>⟨[⟨1,0,0,ax,false⟩],[0],[],0,0,1,1⟩
 |1=>⟨[⟨1,0,1,ax,true⟩,⟨1,1,0,ax,false⟩],[0],[⟨4,0⟩],0,1,2,2⟩
 |2=>⟨[⟨1,0,1,ax,true⟩,⟨1,1,1,ax,false⟩],[0],[⟨4,0⟩,⟨2,0⟩],0,2,2,2⟩
 |3=>⟨[⟨1,0,1,ax,true⟩],[0],[⟨4,0⟩,⟨2,0⟩,⟨5,0⟩],0,3,2,2⟩
 |4=>⟨[⟨1,0,2,ax,false⟩],[0],[⟨4,0⟩,⟨2,0⟩,⟨5,0⟩,⟨6,0⟩],0,4,2,2⟩
 |5=>⟨[⟨1,0,3,ax,true⟩,⟨1,1,0,ax,false⟩],[0],[⟨4,0⟩,⟨2,0⟩,⟨5,0⟩,⟨6,0⟩,⟨4,0⟩],0,5,3,2⟩
 |6=>⟨[⟨1,0,3,ax,true⟩,⟨1,1,1,ax,false⟩],[0],[⟨4,0⟩,⟨2,0⟩,⟨5,0⟩,⟨6,0⟩,⟨4,0⟩,⟨2,0⟩],0,6,3,2⟩
 |7=>⟨[⟨1,0,3,ax,true⟩],[0],[⟨4,0⟩,⟨2,0⟩,⟨5,0⟩,⟨6,0⟩,⟨4,0⟩,⟨2,0⟩,⟨5,0⟩],0,7,3,2⟩
 |_=>⟨[⟨1,0,3,ax,false⟩],[0],[⟨4,0⟩,⟨2,0⟩,⟨5,0⟩,⟨6,0⟩,⟨4,0⟩,⟨2,0⟩,⟨5,0⟩,⟨6,0⟩],1,8,3,2⟩
theorem Oh:∀k,k<8->zK [sG,jP] (Ag k) (Ag (k+1))/\(Ag (k+1)).status=if k+1<8 then 0 else 1
 |0,_=>⟨⟨[],⟨1,0,0,ax,false⟩,0,0,1,⟨6,0,1,0,0⟩,by decide,by decide,rfl,by decide,by decide,rfl,rfl,by decide+kernel,rfl,rfl,rfl,ek 1 U26 (Does.fork (st:={Ag 0 with steps:=1}) (pre:=[]) (x:=⟨1,0,0,ax,false⟩) (PC:=1) 0 1 0 0 2 2 U26 U26)⟩,rfl⟩
 |1,_=>⟨⟨[⟨1,0,1,ax,true⟩],⟨1,1,0,ax,false⟩,1,0,1,⟨2,0,0,0,0⟩,by decide,by decide,rfl,by decide,by decide,rfl,rfl,by decide+kernel,rfl,rfl,rfl,ek 2 U26 (Does.write (st:={Ag 1 with steps:=2}) (pre:=[⟨1,0,1,ax,true⟩]) (x:=⟨1,1,0,ax,false⟩) (PC:=1) 0 0 0 0 U0)⟩,rfl⟩
 |2,_=>⟨⟨[⟨1,0,1,ax,true⟩],⟨1,1,1,ax,false⟩,1,1,2,⟨12,0,0,0,0⟩,by decide,by decide,rfl,by decide,by decide,rfl,rfl,by decide+kernel,rfl,rfl,rfl,ek 3 U26 (Does.back (st:={Ag 2 with steps:=3}) (pre:=[⟨1,0,1,ax,true⟩]) (x:=⟨1,1,1,ax,false⟩) (PC:=2) 0 0 0 0 rfl rfl U8)⟩,rfl⟩
 |3,_=>⟨⟨[],⟨1,0,1,ax,true⟩,0,1,2,⟨7,0,0,0,0⟩,by decide,by decide,rfl,by decide,by decide,rfl,rfl,by decide+kernel,rfl,rfl,rfl,ek 4 U26 (Does.meet (st:={Ag 3 with steps:=4}) (pre:=[]) (x:=⟨1,0,1,ax,true⟩) (PC:=2) 0 0 0 0 rfl)⟩,rfl⟩
 |4,_=>⟨⟨[],⟨1,0,2,ax,false⟩,0,2,3,⟨6,0,1,0,0⟩,by decide,by decide,rfl,by decide,by decide,rfl,rfl,by decide+kernel,rfl,rfl,rfl,ek 5 U26 (Does.fork (st:={Ag 4 with steps:=5}) (pre:=[]) (x:=⟨1,0,2,ax,false⟩) (PC:=3) 0 1 0 0 3 2 U26 U26)⟩,rfl⟩
 |5,_=>⟨⟨[⟨1,0,3,ax,true⟩],⟨1,1,0,ax,false⟩,1,0,1,⟨2,0,0,0,0⟩,by decide,by decide,rfl,by decide,by decide,rfl,rfl,by decide+kernel,rfl,rfl,rfl,ek 6 U26 (Does.write (st:={Ag 5 with steps:=6}) (pre:=[⟨1,0,3,ax,true⟩]) (x:=⟨1,1,0,ax,false⟩) (PC:=1) 0 0 0 0 U0)⟩,rfl⟩
 |6,_=>⟨⟨[⟨1,0,3,ax,true⟩],⟨1,1,1,ax,false⟩,1,1,2,⟨12,0,0,0,0⟩,by decide,by decide,rfl,by decide,by decide,rfl,rfl,by decide+kernel,rfl,rfl,rfl,ek 7 U26 (Does.back (st:={Ag 6 with steps:=7}) (pre:=[⟨1,0,3,ax,true⟩]) (x:=⟨1,1,1,ax,false⟩) (PC:=2) 0 0 0 0 rfl rfl U8)⟩,rfl⟩
 |7,_=>⟨⟨[],⟨1,0,3,ax,true⟩,0,3,4,⟨12,0,0,0,0⟩,by decide,by decide,rfl,by decide,by decide,rfl,rfl,by decide+kernel,rfl,rfl,rfl,ek 8 U26 (Does.ends (st:={Ag 7 with steps:=8}) (pre:=[]) (x:=⟨1,0,3,ax,true⟩) (PC:=4) 0 0 0 0 rfl rfl rfl)⟩,rfl⟩
 |k+8,h=>absurd h U2
def QU:List Mk:=[⟨4,0⟩,⟨2,0⟩,⟨5,0⟩,⟨6,0⟩,⟨4,0⟩,⟨2,0⟩,⟨5,0⟩,⟨6,0⟩]
def QS:Nat->BS
 |0=>⟨0,[],none,[[]],[]⟩
 |1=>⟨0,[],some 1,[[],[0]],[]⟩
 |2=>⟨0,[],some 1,[[],[0]],[(1,0,true)]⟩
 |3=>⟨2,[1],none,[[],[0],[0]],[(1,0,true)]⟩
 |4=>⟨3,[],none,[[],[0],[0],[2,1]],[(1,0,true)]⟩
 |5=>⟨3,[],some 4,[[],[0],[0],[2,1],[3]],[(1,0,true)]⟩
 |6=>⟨3,[],some 4,[[],[0],[0],[2,1],[3]],[(1,0,true),(4,0,true)]⟩
 |7=>⟨5,[4],none,[[],[0],[0],[2,1],[3],[3]],[(1,0,true),(4,0,true)]⟩
 |_=>⟨6,[],none,[[],[0],[0],[2,1],[3],[3],[5,4]],[(1,0,true),(4,0,true)]⟩
theorem Oe:∀k (hk:k<QU.length),kZ (QS k) QU[k] (QS (k+1))/\(QS k).few
 |0,_=>⟨.fork 0 rfl,by decide,by decide,by decide⟩
 |1,_=>⟨.write 1 0 rfl,by decide,by decide,by decide⟩
 |2,_=>⟨.back 1 0 rfl,by decide,by decide,by decide⟩
 |3,_=>⟨.meet 0 rfl,by decide,by decide,by decide⟩
 |4,_=>⟨.fork 0 rfl,by decide,by decide,by decide⟩
 |5,_=>⟨.write 4 0 rfl,by decide,by decide,by decide⟩
 |6,_=>⟨.back 4 0 rfl,by decide,by decide,by decide⟩
 |7,_=>⟨.meet 0 rfl,by decide,by decide,by decide⟩
 |k+8,h=>absurd h (by simp[QU])
theorem Oj(w:World)(fv:Value)(h:aP w fv [sG,jP]):Calls prog 22 #[.agg #[(1:Int),fv],.slice none 0 0,(99:Int)] w λev w'=>(∃A n c,ev=.returned (.tuple #[(0:Int),KE (Ag 8) (.slice A n c)]))/\Below w.heap.size w w':=
 vZ w fv (Ag 8) rfl true (λw2 b=>Ho w2 1 fv _ (h.ai b) U0 U26 8 ⟨by decide,by decide⟩ Ag rfl Oh U0)
  (λw2 mv o=>tH w2 mv QU U0 o QS rfl Oe [[],[0],[0],[2,1],[3],[3],[5,4]] rfl 4 rfl U0 U106 U0 U0 true U26)
theorem Qw{w:World}{g g1 g2:Nat}(h:af w g #[.slice none 0 0,.slice (some ⟨g1,0,none⟩) 1 1,.slice (some ⟨g2,0,none⟩) 1 1] 25)(h1:af w g1 #[(0:Int)] 3)(h2:af w g2 #[(0:Int)] 3):dR w (.slice (some ⟨g,0,none⟩) 3 3) [[],[0],[0]]:=
 ⟨_,_,rfl,λ_=>⟨g,0,rfl,h.lt,λi hi=>by
  match i,hi with
  |0,_=>exact⟨_,h.cell 0,_,_,rfl,λz=>absurd z U8⟩
  |1,_=>exact⟨_,h.cell 1,_,_,rfl,λ_=>⟨g1,0,rfl,h1.lt,λj hj=>by
    match j,hj with
    |0,_=>exact h1.cell 0⟩⟩
  |2,_=>exact⟨_,h.cell 2,_,_,rfl,λ_=>⟨g2,0,rfl,h2.lt,λj hj=>by
    match j,hj with
    |0,_=>exact h2.cell 0⟩⟩⟩⟩
def xV(w:World):World:=(((((w.alloc (.cells #[(0:Int)] 3)).alloc (.cells #[(0:Int)] 3)).alloc (.cells #[.slice none 0 0,.slice (some ⟨w.heap.size,0,none⟩) 1 1,.slice (some ⟨w.heap.size+1,0,none⟩) 1 1] 25)).alloc (.cells #[(1:Int),(4:Int),.bool true,(2:Int),(4:Int),.bool false] 98)).alloc (.cells #[.slice (some ⟨w.heap.size+1+1,0,none⟩) 3 3,.slice none 0 0,.slice (some ⟨w.heap.size+1+1+1,0,none⟩) 2 2] 102))
theorem Nz(w:World):∃ab db,dR (xV w) (.slice (some ⟨w.heap.size+1+1,0,none⟩) 3 3) [[],[0],[0]]/\w.heap.size+1+1+1=ab/\w.heap.size+1+1+1+1=db/\af (xV w) ab #[(1:Int),(4:Int),.bool true,(2:Int),(4:Int),.bool false] 98 /\af (xV w) db #[.slice (some ⟨w.heap.size+1+1,0,none⟩) 3 3,.slice none 0 0,.slice (some ⟨ab,0,none⟩) 2 2] 102 /\Below w.heap.size w (xV w):=
 ⟨_,_,Qw ((af.new _ _ _ (w.heap.size+1+1) U8).alloc _|>.alloc _) ((af.new _ _ _ w.heap.size rfl).alloc _|>.alloc _|>.alloc _|>.alloc _) ((af.new _ _ _ (w.heap.size+1) U8).alloc _|>.alloc _|>.alloc _),rfl,rfl,(af.new _ _ _ _ U8).alloc _,af.new _ _ _ _ U8,by unfold xV;exact((((Ba _).alloc U8 _).alloc U41 _).alloc U41 _).alloc U41 _⟩
theorem NJ(w:World)(rb ab:Nat)(hP:dR w (.slice (some ⟨rb,0,none⟩) 3 3) [[],[0],[0]])(h:af w ab #[(1:Int),(4:Int),.bool true,(2:Int),(4:Int),.bool false] 98):Cs 51 #[.agg #[.slice (some ⟨rb,0,none⟩) 3 3,.slice none 0 0,.slice (some ⟨ab,0,none⟩) 2 2]] w (.tuple #[.agg #[(0:Int),(1:Int),(4:Int)],.bool true,(0:Int)]) λw'=>Below w.heap.size w w':=
 Aa w _ _ _ _ ⟨_,_,_,rfl⟩ ab 2 _ hP U0 U106 2 U0 U0 4 false U0 (h.cell 0) (h.cell 1) (h.cell 2) (h.cell 3) (h.cell 4) (h.cell 5) false U26
theorem Ol(w:World)(fv:Value)(h:aP w fv [oo,jP]):Calls prog 22 #[.agg #[(1:Int),fv],.slice none 0 0,(99:Int)] w λev w'=>(∃A n c,ev=.returned (.tuple #[(1:Int),.agg #[(1:Int),(0:Int),.slice none 0 0,.slice A n c,(7:Int),(3:Int),(2:Int)]]))/\Below w.heap.size w w':=Oi w fv h
theorem Fg(w:World)(fv:Value)(h:aP w fv [sG,jP]):Calls prog 22 #[.agg #[(1:Int),fv],.slice none 0 0,(99:Int)] w λev w'=>(∃A n c,ev=.returned (.tuple #[(0:Int),.agg #[(1:Int),(0:Int),.slice none 0 0,.slice A n c,(8:Int),(3:Int),(2:Int)]]))/\Below w.heap.size w w':=Oj w fv h
theorem zO(w:World):Calls prog 52 #[] w λev w'=>∃g g1 g2,ev=.returned (.agg #[(1:Int),.slice (some ⟨g,0,none⟩) 2 2])/\aP w' (.slice (some ⟨g,0,none⟩) 2 2) [oo,jP]/\af w' g #[.slice (some ⟨g1,0,none⟩) 3 3,.slice (some ⟨g2,0,none⟩) 2 2] 107 /\af w' g1 (rows Is.cells oo) 109 /\af w' g2 (rows Is.cells jP) 109 /\Below w.heap.size w w'/\w.heap.size<=g:=
 (Jo w).mono λev w' ⟨g,g1,g2,e,b,b1,b2,r⟩=>⟨g,g1,g2,e,qB b (mM b1 U0 U0) (mM b2 U0 U0),b,b1,b2,r⟩
theorem Own.Ql{w:World}{v:Value}{l:List Is}(h:Own w 109 4 Is.cells v l)(hp:0<l.length):dX w v l:=by
 obtain⟨g,cap,e,hc⟩:=h.cells (λ_=>rfl) hp;obtain⟨_,⟨h2,h3⟩|⟨g',cap',cur',e2,_,_,hn,hm,_⟩⟩:=h
 ·omega
 ·subst e
  cases e2
  exact⟨_,_,rfl,hn,⟨hm,λz=>by cases z⟩,λ_=>⟨g,0,rfl,λpc hp' j hj=>by
   rw[show 0+pc*4+j=4*pc+j by omega]
   exact hc pc j hp' hj⟩⟩
theorem P7{W V w8:World}{h h2:Nat}{s1 v8:Value}(X0:af W h #[s1,.slice (some ⟨h2,0,none⟩) 2 2] 107)(X2:af W h2 (rows Is.cells jP) 109)(bV:Below W.heap.size W V)(ow:Own w8 109 4 Is.cells v8 sG)(gr:V.grownBy w8 (some W.heap.size))(at_:v8.ownBlock=some W.heap.size∨v8.ownBlock=some V.heap.size):
  aP (w8.setCell ⟨h,0,none⟩ v8) (.slice (some ⟨h,0,none⟩) 2 2) [sG,jP]/\Below W.heap.size W w8/\∃A c,v8=.slice A 4 c:=by
 have kg:Kept (λk=>(some W.heap.size:Option Nat)=some k) V w8:=Kept.grown (v:=.slice (some ⟨W.heap.size,0,none⟩) 2 2) gr;have bW:Below W.heap.size W w8:=bV.trans (kg.below (λk z=>by cases z;exact Nat.le_refl _) bV.size);have h20:h2≠h:=λe=>by
  subst e;have q:=congrArg Array.size (af.inj X0 X2)
  exact absurd (show(2:Nat)=8 from q) U0
 have lt:=X0.lt;have z:=bV.size;refine⟨qB (((X0.below bW X0.lt).set 0 v8)) ((ow.kept (Kept.one w8 h 0 v8) (λb z1 z2=>?_)).Ql U0) (mM ((X2.below bW X2.lt).far (a:=⟨h,0,none⟩) h20 v8) U0 U0),bW,ow.len⟩;have z2:b=h:=z2;subst z2
 rcases at_ with q|q
 ·rw[q]at z1;cases z1;omega
 ·rw[q]at z1;cases z1;omega
theorem QB{w:World}{g:Nat}(h:af w g (rows Is.cells oo) 109):Src w (.slice (some ⟨g,4,none⟩) 2 2) 2 4 ((rows Is.cells oo).toList.drop 4):=
 ⟨_,_,rfl,rfl,Or.inr ⟨_,rfl,λj u hj=>by
  rw[List.getElem?_drop]at hj;have q:=(h.cell (4+j)).trans ((Array.getElem?_toList).symm.trans hj);unfold Addr.add
  split
  ·next e=>subst e;exact q
  ·exact q⟩⟩
theorem Mg(w:World):Cs 20 #[] w (.bool true) λw'=>Below w.heap.size w w':=by
 obtain⟨ab,db,hr,e1,e2,ha,hd,hb⟩:=Nz w;have cF:=Hd (NJ _ _ _ hr ha);have DB:=Hd hd;have B0:=Hd hb;have E1:=Hd e1;have E2:=Hd e2;clear hr ha hd hb e1 e2;go_enter func20,ntmps20;go_upto_region 2 with fail;refine(show Code.wp _ _ _ _ (xV w)from ?_);generalize xV w=W at*;rw[E2.out,E1.out];clear E1 E2;generalize w.heap.size+1+1=rb at*;have d0:=DB.out.c0;have d1:=DB.out.c1;have d2:=DB.out.c2
 go_upto_region 3 with(go_at_call 51;refine cF.o.q λw1 Sr=> ?_;have B1:=Hd Sr;clear Sr)
 have BB:=B0.o.trans (B1.o.mono B0.o.size);have BB:=Hd (BB.alloc BB.size (.cells #[(0:Int),(1:Int),(4:Int)] 104));have CX:=Hd (af.new w1 #[(0:Int),(1:Int),(4:Int)] 104 _ rfl);clear B0 B1 cF DB d0 d1 d2;generalize w1.alloc (.cells #[(0:Int),(1:Int),(4:Int)] 104)=W2 at*;generalize w1.heap.size=cb at*;have c3:=Hd (zO W2)
 go_upto_region 4 with(first|(go_at_call 52;refine c3.o.mono ?_;rintro ev w3 ⟨g,g1,g2,rfl,hf,_,_,_,hb3,_⟩;have cJ:=Hd (Ol w3 _ hf);have BB:=Hd (BB.o.trans (hb3.mono BB.o.size));have CX:=Hd (CX.out.below hb3 CX.out.lt);clear hb3 hf)|(go_at_call 22;refine cJ.o.mono ?_;rintro ev w4 ⟨⟨A,n,c,rfl⟩,hb4⟩;have BB:=Hd (BB.o.trans (hb4.mono BB.o.size));have CX:=Hd (CX.out.below hb4 CX.out.lt);clear hb4))
 have BB:=Hd (BB.o.alloc BB.o.size (.cells #[(1:Int),(0:Int),.slice none 0 0,.slice A n c,(7:Int),(3:Int),(2:Int)] 31));have CX:=Hd (CX.out.alloc (.cells #[(1:Int),(0:Int),.slice none 0 0,.slice A n c,(7:Int),(3:Int),(2:Int)] 31));clear cJ c3;generalize w4.alloc (.cells #[(1:Int),(0:Int),.slice none 0 0,.slice A n c,(7:Int),(3:Int),(2:Int)] 31)=W5 at*;generalize w4.heap.size=ob at*;have c4:=Hd (zO W5);have LC:=Hd CX.out.lt;have BB5:=Hd BB.o.size
 go_upto_region 5 with(go_at_call 52;refine c4.o.mono ?_;rintro ev w6 ⟨h,h1,h2,rfl,hf,b0,b1,b2,hb6,lg⟩;have BB:=Hd (BB.o.trans (hb6.mono BB.o.size));have CX:=Hd (CX.out.below hb6 CX.out.lt);have HL:=Hd (nL LC.out lg);have LW:=Hd (nT BB5.o lg);have X0:=Hd (b0.alloc (.cells #[(1:Int),.slice (some ⟨h,0,none⟩) 2 2] 24));have X1:=Hd (b1.alloc (.cells #[(1:Int),.slice (some ⟨h,0,none⟩) 2 2] 24));have X2:=Hd (b2.alloc (.cells #[(1:Int),.slice (some ⟨h,0,none⟩) 2 2] 24));have XP:=Hd (af.new w6 #[(1:Int),.slice (some ⟨h,0,none⟩) 2 2] 24 _ rfl);clear hb6 hf b0 b1 b2)
 have BB:=Hd (BB.o.alloc BB.o.size (.cells #[(1:Int),.slice (some ⟨h,0,none⟩) 2 2] 24));have CX:=Hd (CX.out.alloc (.cells #[(1:Int),.slice (some ⟨h,0,none⟩) 2 2] 24));clear c4;generalize w6.alloc (.cells #[(1:Int),.slice (some ⟨h,0,none⟩) 2 2] 24)=W7 at*;generalize w6.heap.size=pb at*;obtain⟨i0,hi,hz0,hz1,hz2⟩:=info_parts yD;have p1:=XP.out.c1;have q0:=X0.o.c0;have p2:(W7.alloc (.cells #[(20:Int),(1:Int),(0:Int),(0:Int),(21:Int),(0:Int),(0:Int),(0:Int)] 109)).cell? ⟨pb,1,none⟩=some (.slice (some ⟨h,0,none⟩) 2 2):=kc p1;have q2:(W7.alloc (.cells #[(20:Int),(1:Int),(0:Int),(0:Int),(21:Int),(0:Int),(0:Int),(0:Int)] 109)).cell? ⟨h,0,none⟩=some (.slice (some ⟨h1,0,none⟩) 3 3):=kc q0;have p3:(W7.alloc (.cells #[(20:Int),(1:Int),(0:Int),(0:Int),(21:Int),(0:Int),(0:Int),(0:Int)] 109)).drew.cell? ⟨pb,1,none⟩=some (.slice (some ⟨h,0,none⟩) 2 2):=kc p1;have q3:(W7.alloc (.cells #[(20:Int),(1:Int),(0:Int),(0:Int),(21:Int),(0:Int),(0:Int),(0:Int)] 109)).drew.cell? ⟨h,0,none⟩=some (.slice (some ⟨h1,0,none⟩) 3 3):=kc q0;have ON:=Hd (World.ownsRow_lit (base:=0) (e:= 109) (size:=4) W7 #[(20:Int),(1:Int),(0:Int),(0:Int),(21:Int),(0:Int),(0:Int),(0:Int)] 2 (n0 _) U0 rfl);have SR:=Hd (QB (X1.o.alloc (.cells #[(20:Int),(1:Int),(0:Int),(0:Int),(21:Int),(0:Int),(0:Int),(0:Int)] 109)));have AP:=Hd (λV w8 v8 (bV:Below W7.heap.size W7 V) (ow:Own w8 109 4 Is.cells v8 sG) gr at_=>P7 X0.o X2.o bV ow gr at_)
 go_region_law (first|(refine ay _ (by rfl) _ _ 107 (by rfl) 0 109 i0 _ 4 32 underlying107 hi hz0 hz1 hz2 rfl U0 (.slice (some ⟨W7.heap.size,0,none⟩) 2 2) 2 _ (by rfl) (by exact ON.out) (.slice (some ⟨h1,4,none⟩) 2 2) 2 _ (by rfl) U62 U0 U0 U0 (n0 _) ?_;intro v8 w8 hown8 hgrow8 hat8;obtain⟨m1,m2,A8,c8,rfl⟩:=AP.out _ w8 v8 U28 hown8 hgrow8 hat8;have FA:=Hd m1;have B8:=Hd m2;have Y0:=X0.o.below m2 X0.o.lt;have r0:w8.cell? ⟨h,0,none⟩=some (.slice (some ⟨h1,0,none⟩) 3 3):=Y0.cell 0;have rf:=Y0.fz 0;have r1:w8.cell? ⟨pb,1,none⟩=some (.slice (some ⟨h,0,none⟩) 2 2):=(XP.out.below m2 XP.out.lt).cell 1;clear hown8 hgrow8 hat8 m1 m2 Y0))
 all_goals
  clear p1 q0 p2 q2 p3 q3 ON SR AP r0 rf r1;have npb:pb≠h:=λe=>by
   subst e;have q:=af.inj XP.out X0.o
   simp at q
  have XQ:=Hd ((XP.out.below B8.o XP.out.lt).far (a:=⟨h,0,none⟩) npb (.slice A8 4 c8));have CQ:=Hd ((CX.out.below B8.o CX.out.lt).far (a:=⟨h,0,none⟩) (Nat.ne_of_lt HL.o) (.slice A8 4 c8));have BQ:=Hd ((BB.o.trans (B8.o.mono BB.o.size)).setCell (p:=⟨h,0,none⟩) LW.out (.slice A8 4 c8));clear npb X0 X2 XP CX BB B8 HL LW;generalize w8.setCell ⟨h,0,none⟩ (.slice A8 4 c8)=W9 at*;have cJ1:=Hd (Fg W9 _ FA.out);have cJ2:=Hd (Fg W9.drew _ (FA.out.ai (Below.refl _ _).drew));have g0:=XQ.out.c0;have g1:=XQ.out.c1
  go_upto_region 7 with(go_at_call 22;first|(refine cJ1.o.mono ?_;rintro ev w10 ⟨⟨A2,n2,c2,rfl⟩,hb10⟩;have B10:=Hd hb10;clear hb10)|(refine cJ2.o.mono ?_;rintro ev w10 ⟨⟨A2,n2,c2,rfl⟩,hb10⟩;have B10:=Hd (show Below W9.heap.size W9 w10 from(Below.refl _ _).drew.trans hb10);clear hb10))
  have BR:=BQ.o.trans (B10.o.mono BQ.o.size);have BR:=Hd (BR.alloc BR.size (.cells #[(1:Int),(0:Int),.slice none 0 0,.slice A2 n2 c2,(8:Int),(3:Int),(2:Int)] 31));have CR:=(CQ.out.below B10.o CQ.out.lt).alloc (.cells #[(1:Int),(0:Int),.slice none 0 0,.slice A2 n2 c2,(8:Int),(3:Int),(2:Int)] 31);have OR:=(af.new w10 #[(1:Int),(0:Int),.slice none 0 0,.slice A2 n2 c2,(8:Int),(3:Int),(2:Int)] 31 _ rfl).cell 0;have k0:=CR.cell 0;have k1:=CR.cell 1;have k2:=CR.cell 2;simp only[List.getElem?_toArray,List.getElem?_cons_zero,List.getElem?_cons_succ]at k0 k1 k2 OR;clear g0 g1 cJ1 cJ2 CR XQ CQ BQ B10 FA;generalize w10.alloc (.cells #[(1:Int),(0:Int),.slice none 0 0,.slice A2 n2 c2,(8:Int),(3:Int),(2:Int)] 31)=W11 at*;generalize w10.heap.size=ob2 at*;go_wp2_with fail
  go_ret
  exact⟨rfl,BR.o⟩
end Go.Proofs.YteiignfflbmafaaGreat.Tp
