/- TopOne, part 34. -/
import Derived.Test.YteiignfflbmafaaGreatQ24
import Derived.Test.YteiignfflbmafaaGreatQ33
set_option linter.unusedVariables false
set_option linter.unusedSimpArgs false
set_option maxRecDepth 100000
set_option maxHeartbeats 8000000
namespace Go.Proofs.YteiignfflbmafaaGreat.Tp
open Go.Proofs.Tryz
open Go.RowKit Go.Proofs.YteiignfflbmafaaGreat.Tok
def kr:Nat->MS->Bool
 |0,M=>M.co.over&&M.ws.length==1
 |n+1,M=> !M.co.over&&M.ws.length==1&&match M.step 0 0 with
  |none=>false
  |some M'=>kr n M'
def sK:Nat->MS->MS
 |0,M=>M
 |n+1,M=>match M.step 0 0 with
  |none=>M
  |some M'=>sK n M'
def M0:MS:=MS.first OQ 9 false false three []
def ME:MS:=sK 89 M0
theorem Rs:kr 89 M0=true:=by decide+kernel
theorem Rh:ME.co.status=1/\ME.co.out=[1,2,3]/\used ME.co.Sj=1/\ME.ws.length=1/\ME.co.over=true/\3<=ME.co.bY/\ME.co.log.length<=1000/\(∀e∈ME.co.log,0<=e.loop/\e.loop<=1000000)/\1<=fV ME.co.log ME.co.log.length/\ME.co.data.length<=1000/\ME.co.Sj.length<=1001:=by decide+kernel
theorem ok0:eX 0 three ([]:List Int).length OQ 9:=⟨by decide+kernel,by unfold Pl.ok OQ;decide,by decide,by decide,by decide⟩
theorem Cu{n:Nat}{M:MS}(h:kr n M=true):M.ws.length=1:=by
 cases n with
 |zero=>unfold kr at h;simp at h;exact h.2
 |succ n=>unfold kr at h;simp at h;exact h.1.2
theorem qL{n:Nat}{M:MS}(h:kr (n+1) M=true):M.co.over=false/\∃M',M.step 0 0=some M'/\kr n M'=true/\sK (n+1) M=sK n M':=by
 unfold kr at h
 cases e:M.step 0 0 with
 |none=>rw[e]at h;simp at h
 |some M'=>
  rw[e]at h
  simp at h
  exact⟨h.1.1,M',rfl,h.2,by show(match M.step 0 0 with|none=>M|some M'=>sK n M')=_;rw[e]⟩
theorem yO{n:Nat}{M:MS}(h:kr n M=true):M.co.over=decide (n=0):=by
 cases n with
 |zero=>unfold kr at h;simp at h;simp[h.1]
 |succ n=>rw[(qL h).1];simp
theorem DD(w:World)(FA:Option Addr)(Su:Nat)(h:aP w (.slice FA 2 Su) three)(IA:Option Addr)(Sv:Nat)(input:List Int)(hinp:input=[])(hi:aV w (.slice IA input.length Sv) input)(hA:input.length=0->IA=none->Sv=0):
  Calls prog 46 #[.agg #[(0:Int),.slice FA 2 Su],.slice IA input.length Sv,.agg #[(0:Int),(2:Int),(8:Int),(8:Int),(9:Int),.bool false,.bool false],(400:Int)] w λev w'=>∃mq z lb cap cs,ev=.returned (ptr mq)/\fM z w' ME/\gK z mq lb 1 cap cs/\Below w.heap.size w z.w0/\w.heap.size<=z.B:=by
 obtain⟨iI,hI,hI0,hI1,hI2⟩:=info_parts fH;have bp:=af.new w #[(0:Int),.slice FA 2 Su] 24 _ rfl;have bq:=af.new (w.alloc (.cells #[(0:Int),.slice FA 2 Su] 24)) #[(0:Int),(2:Int),(8:Int),(8:Int),(9:Int),.bool false,.bool false] 27 _ rfl;have bp:=bp.alloc (.cells #[(0:Int),(2:Int),(8:Int),(8:Int),(9:Int),.bool false,.bool false] 27);have B0:Below w.heap.size w ((w.alloc (.cells #[(0:Int),.slice FA 2 Su] 24)).alloc (.cells #[(0:Int),(2:Int),(8:Int),(8:Int),(9:Int),.bool false,.bool false] 27)):=(Ba _).alloc U8 _;simp only[World.size_alloc]at bp bq;have HC0:=Hd (PQ.mk (p:=⟨0,8,2,8⟩) bp bq B0);have HF:=Hd h;have HI:=Hd hi;have HA:=Hd hA;have hok:eX 0 three input.length OQ 9:=by rw[hinp];exact ok0
 have LN:=Hd (Aj (n:=input.length) (by rw[hinp];decide));have hin:=Hd hinp;clear h hi bp bq B0 hA hinp;go_enter func46,ntmps46;go_upto_region 1 with fail;generalize((w.alloc (.cells #[(0:Int),.slice FA 2 Su] 24)).alloc (.cells #[(0:Int),(2:Int),(8:Int),(8:Int),(9:Int),.bool false,.bool false] 27))=W at*;generalize hgp:w.heap.size=gp at*;generalize hgq:gp+1=gq at*;obtain⟨x0,x1,x2,x3,x4,x5,x6,x7,x8⟩:=HC0.o.cells;have xf:=HC0.o.pq.fz 0;have HC1:=Hd (show PQ w (W.setCell ⟨gq,0,none⟩ (.int .i64 1)) gp gq 0 (.slice FA 2 Su) OQ 9 false false from⟨HC0.o.pp.far (λe=>by have e:gp=gq:=e;omega) _,HC0.o.pq.set 0 _,HC0.o.B.setCell (by show w.heap.size<=gq;omega) _⟩);go_upto_region 2 with fail;clear x0 x1 x2 x3 x4 x5 x6 x7 x8 xf HC0;generalize W.setCell ⟨gq,0,none⟩ (.int .i64 1)=W1 at*;have cO:=Hd (λw2 (b:Below W1.heap.size W1 w2)=>Mo w2 0 (.slice FA 2 Su) three ((HF.o.ai HC1.o.B).ai b) U0 U0);have HS:=Hd (λw2 (b:Below W1.heap.size W1 w2)=>(((HI.o.ai HC1.o.B nr).ai b nr).src HA.o));obtain⟨y0,y1,y2,y3,y4,y5,y6,y7,y8⟩:=HC1.o.cells;obtain⟨z0,z1,z2,z3,z4,z5,z6,z7,z8⟩:=HC1.o.drew.cells;obtain⟨f0,f1,f2,f3,f4,f5,f6,f7,f8⟩:=(HC1.o.ai (Ba (.cells #[] 3))).drew.cells;obtain⟨h0,h1,h2,h3,h4,h5,h6,h7,h8⟩:=(HC1.o.ai (Ba (.cells #[] 3))).cells;have hok:=Hd hok
 go_cut [9,10]from 12 to 22 (λs9 s10 wx=>∃mq z lb cap cs,s9=ptr mq/\s10=.int .i64 0/\fM z wx M0/\gK z mq lb 1 cap cs/\Below w.heap.size w z.w0/\w.heap.size<=z.B)
 case first=>
  go_region_law (first|(refine ay _ (by rfl) _ _ 25 (by rfl) 0 3 iI _ 1 8 underlying25 hI hI0 hI1 hI2 rfl U0 (.slice (some ⟨W1.heap.size,0,none⟩) 0 0) 0 [] (by rfl) (kV EE.out) (.slice IA input.length Sv) input.length (input.map (Value.int .i64)) (by rfl) ES.out (iW input) LN.out.1 LN.out.2 (n0 _) ?_;intro v2 w4 hown2 hgrow2 hat2;rw[Nat.zero_add,List.nil_append]at hown2;obtain⟨HC4,T4⟩:=kJ EE.out hgrow2 T1.out HC3.o U34;have I4:=Hd (gV hown2);obtain⟨A2,c2,rfl⟩:=ownsRow_form hown2;have HC4:=Hd HC4;have T4:=Hd T4;obtain⟨b0,b1,b2,b3,b4,b5,b6,b7,b8⟩:=HC4.o.cells;clear hown2 hgrow2 hat2)|(refine ay _ (by rfl) _ _ 25 (by rfl) 0 3 iI _ 1 8 underlying25 hI hI0 hI1 hI2 rfl U0 (.slice (some ⟨w3.heap.size,0,none⟩) 0 0) 0 [] (by rfl) (kV (af.new w3 _ _ _ rfl)) (.slice IA input.length Sv) input.length (input.map (Value.int .i64)) (by rfl) (ES.out.alloc _) (iW input) LN.out.1 LN.out.2 (n0 _) ?_;intro v2 w4 hown2 hgrow2 hat2;rw[Nat.zero_add,List.nil_append]at hown2;obtain⟨HC4,T4⟩:=kJ (af.new w3 #[] 3 _ rfl) hgrow2 (T1.out.ai (Ba _)) (HC3.o.ai (Ba _)) U34;have I4:=Hd (gV hown2);obtain⟨A2,c2,rfl⟩:=ownsRow_form hown2;have HC4:=Hd HC4;have T4:=Hd T4;obtain⟨b0,b1,b2,b3,b4,b5,b6,b7,b8⟩:=HC4.o.cells;clear hown2 hgrow2 hat2)|(go_simp;go_at_call 23;refine(cO.o _ U44).mono ?_;rintro ev w3 ⟨v1,rfl,T1,hb3⟩;have T1:=Hd T1;have B3:=Hd (show Below W1.heap.size W1 w3 from by first|exact hb3|exact(Below.refl _ _).drew.trans hb3|exact(Ba _).trans (hb3.mono U8)|exact((Ba _).drew).trans (hb3.mono U8));have HC3:=Hd (HC1.o.ai B3.o);obtain⟨a0,a1,a2,a3,a4,a5,a6,a7,a8⟩:=HC3.o.cells;obtain⟨d0,d1,d2,d3,d4,d5,d6,d7,d8⟩:=(HC3.o.ai (Ba (.cells #[] 3))).cells;(try have EE:=Hd (Es hb3));have ES:=Hd (HS.o _ B3.o);clear hb3)|(go_simp;go_at_call 25;refine(Ak w4 0 v1 three T4.out.yz _ input I4.out OQ 9 false false hok.out).mono ?_;rintro ev w5 ⟨mq,z,lb,cap5,cs,rfl,R5,MB5,e5,f5⟩;have R5:=Hd R5;have MB5:=Hd MB5;have EF:=Hd (show Below w.heap.size w z.w0/\w.heap.size<=z.B from by rw[e5,f5];exact⟨HC4.o.B,HC4.o.B.size⟩);clear e5 f5))
  all_goals
   go_wp2_with fail
   go_meet
   have e1:dW (List.replicate (Int.toNat 0) 0) 0 input=[]:=by rw[hin.out];rfl
   have R6:=R5.out;rw[e1]at R6
   first|exact⟨mq,z,lb,cap5,cs,rfl,rfl,R6,MB5.out,EF.out.1,EF.out.2⟩|exact⟨mq,z,lb,cap5,cs,rfl,rfl,R6.drew',MB5.out,EF.out.1,EF.out.2⟩
 case rest=>
  obtain⟨mq,z,lb,cap,cs,rfl,rfl,RR,MB,EB,EL⟩:=hcut;have HR:=Hd RR;have MB:=Hd MB;have EB:=Hd EB;have EL:=Hd EL;clear RR y0 y1 y2 y3 y4 y5 y6 y7 y8 z0 z1 z2 z3 z4 z5 z6 z7 z8 f0 f1 f2 f3 f4 f5 f6 f7 f8 h0 h1 h2 h3 h4 h5 h6 h7 h8 cO HS HC1;go_wp2_with fail
  go_loopw [11] (λi wr=>∃(k n:Nat) (M:MS),k+n=89/\0<n/\i=.int .i64 k/\fM z wr M/\kr n M=true/\sK n M=ME) (λi _=>400-(intOf i).toNat)
  case atStart=>exact⟨0,89,M0,rfl,by decide,rfl,HR.o,Rs,rfl⟩
  case round=>
   obtain⟨k,n,M,hk,hn,rfl,R,ok,en⟩:=hrel;obtain⟨n,rfl⟩:∃m,n=m+1:=⟨n-1,by omega⟩;obtain⟨ho,M',hstep,ok2,en2⟩:=qL ok;have hlt':(k:Int)<400:=by omega
   have hw:wrap64 ((k:Int)+1)=((k+1:Nat):Int):=iN (show k<400 by omega) U0;have hov:=yO ok2;have cM:=Hd (wB R mq lb cap cs (by rw[Cu ok];exact MB.out) 0 0 ho hstep);rw[hov]at cM;have M2:=Hd (iM (show k<400 by omega));have OK2:=Hd ok2;have EN2:=Hd (en2.symm.trans en);clear R ok en ho hstep ok2 en2 hov
   by_cases h0:n=0
   ·subst h0
    have HK:=Hd hk;clear hk hn
    go_wp2_with (go_at_call 9;refine cM.o.q λw4 R4=> ?_)
    go_ret
    have e2:M'=ME:=EN2.out;subst e2
    exact⟨mq,z,lb,cap,cs,rfl,R4,MB.out,EB.out,EL.out⟩
   ·have d0:decide (n=0)=false:=by simp[h0]
    rw[d0]at cM;have NK:=Hd (show k+1+n=89/\0<n from⟨by omega,by omega⟩);clear hk hn h0 d0
    go_wp2_with (go_at_call 9;refine cM.o.q λw4 R4=> ?_;have R4:=Hd R4)
    go_roundw
    case rel=>exact⟨k+1,n,M',NK.out.1,NK.out.2,by first|rw[hw]|simp,R4.out,OK2.out,EN2.out⟩
    case measure=>first|exact M2.out|(rw[hw];simpa using M2.out)
theorem Ia(w:World)(y:Ly)(m:Co)(h:bI w y m):Cs 35 #[ptr y.t] w ↑m.bY λw'=>w=w':=by
 have x5:w.cell? ⟨y.t,5,none⟩=some (ptr y.a):=h.table.cell 5;have cp:=Hd (DF w y.a _ _ _ m.bY h.arena);clear h;go_enter func35,ntmps35
 go_wp2_with (go_at_call 63;refine cp.o.r ?_)
 go_ret
 exact⟨rfl,rfl⟩
theorem Ie(w:World)(y:Ly)(m:Co)(h:bI w y m):Cs 68 #[ptr y.t] w (.int .i64 (used m.Sj)) λw'=>Below w.heap.size w w':=by
 have x5:w.cell? ⟨y.t,5,none⟩=some (ptr y.a):=h.table.cell 5;have cp:=Hd (AZ y.a y.hl m.Sj.length m.Sj w (by have:=h.eZ;have:=h.hlen;omega) h.arena.lt h.Sj.lt (h.arena.cell 0) (λj hj=>by
  rw[h.Sj.cell j];simp[bools,hj]))
 clear h;go_enter func68,ntmps68
 go_wp2_with (go_at_call 108;refine cp.o.q λw1 Sr=> ?_)
 go_ret
 exact⟨rfl,Sr⟩
theorem yE{z:Lay}{w:World}{M:MS}(R:fM z w M)(mq lb cap:Nat)(cs:Array Value)(B:gK z mq lb M.ws.length cap cs):Cs 49 #[ptr mq] w (.int .i64 (used M.co.Sj)) λw'=>Below w.heap.size w w':=by
 have x0:=(R.X B.mX).c0;have c1:=Hd (R.a1 0 B.pos).dZ;obtain⟨bk,ov,gv,g,R⟩:=R;have c2:=Hd (show Calls prog 68 #[ptr z.t] w _ from Ie w (z.y bk ov gv) M.co R.co);clear R B;go_enter func49,ntmps49
 go_wp2_with (first|(go_at_call 34;refine c1.o.r ?_)|(go_at_call 68;refine c2.o.q λw2 hb2=> ?_))
 go_ret
 exact⟨rfl,hb2⟩
theorem Rj{w:World}{g i q j:Nat}{u v:Value}(n:q<g)(h:w.cell? ⟨q,j,none⟩=some u):(w.setCell ⟨g,i,none⟩ v).cell? ⟨q,j,none⟩=some u:=kb ((Below.refl g w).setCell (p:=⟨g,i,none⟩) nr v) n h
theorem GM:(prog.info? 150).map (·.size)=some 4:=by kernel_rfl
theorem Jb(w:World)(q:Nat)(a b c d:Int)(x1:w.cell? ⟨q,1,none⟩=some ↑a)(x2:w.cell? ⟨q,2,none⟩=some ↑b)(x3:w.cell? ⟨q,3,none⟩=some ↑c)(x4:w.cell? ⟨q,4,none⟩=some ↑d):
  Cs 69 #[ptr q] w (.agg #[a,b,c,d]) λw'=>Below w.heap.size w w':=by
 have nq:q<w.heap.size:=bL w _ x1;have g1:=af.new w #[(0:Int),(0:Int),(0:Int),(0:Int)] 150 _ rfl;have bw:Below w.heap.size w (w.alloc (.cells #[(0:Int),(0:Int),(0:Int),(0:Int)] 150)):=Ba _;have x1:(w.alloc (.cells #[(0:Int),(0:Int),(0:Int),(0:Int)] 150)).cell? ⟨q,1,none⟩=some ↑a:=kc x1;have x2:(w.alloc (.cells #[(0:Int),(0:Int),(0:Int),(0:Int)] 150)).cell? ⟨q,2,none⟩=some ↑b:=kc x2;have x3:(w.alloc (.cells #[(0:Int),(0:Int),(0:Int),(0:Int)] 150)).cell? ⟨q,3,none⟩=some ↑c:=kc x3;have x4:(w.alloc (.cells #[(0:Int),(0:Int),(0:Int),(0:Int)] 150)).cell? ⟨q,4,none⟩=some ↑d:=kc x4;go_enter func69,ntmps69;go_upto_region 3 with fail;generalize w.alloc (.cells #[(0:Int),(0:Int),(0:Int),(0:Int)] 150)=W at*;generalize hg:w.heap.size=g at*;have y0:=g1.cell 0;have y1:=g1.cell 1;have y2:=g1.cell 2;have y3:=g1.cell 3;have z3:=g1.fz;simp only[List.getElem?_toArray,List.getElem?_cons_zero,List.getElem?_cons_succ]at y0 y1 y2 y3
 go_region_held3 (λw'=>w'.cell? ⟨q,1,none⟩=some ↑a/\w'.cell? ⟨q,2,none⟩=some ↑b/\w'.cell? ⟨q,3,none⟩=some ↑c/\w'.cell? ⟨q,4,none⟩=some ↑d)
  (((try dsimp only);(try go_split_ands);(repeat' apply And.intro)<;>(repeat(first|(with_reducible assumption)|(with_reducible refine kc ?_)|(with_reducible refine kd ?_)|(with_reducible refine Rj nq ?_)))))
  (fail)
 all_goals
  have Z:=(((g1.set 0 ↑a).set 1 ↑b).set 2 ↑c).set 3 ↑d;have BZ:=(((bw.setCell (p:=⟨g,0,none⟩) nr ↑a).setCell (p:=⟨g,1,none⟩) nr ↑b).setCell (p:=⟨g,2,none⟩) nr ↑c).setCell (p:=⟨g,3,none⟩) nr ↑d;have hl:=run_loadVar_row _ g 150 150 _ (0,0) _ Z underlying150 rfl GM;have hl2:=run_loadVar_row _ g 150 150 _ (0,0) _ Z.drew underlying150 rfl GM;clear y0 y1 y2 y3 z3 g1 Z;go_wp2_with fail
  first
  |exact bodyPost_ret (v:=.agg #[a,b,c,d]) (by simp[results,results69,Act.put,asAddr,hl]) rfl ⟨rfl,by rw[hg];exact BZ⟩
  |exact bodyPost_ret (v:=.agg #[a,b,c,d]) (by simp[results,results69,Act.put,asAddr,hl2]) rfl ⟨rfl,by rw[hg];exact BZ.drew⟩
theorem Oa:(prog.info? 150).map (λi=>(i.zero,i.size,i.bytes))=some (some (.agg #[(0:Int),(0:Int),(0:Int),(0:Int)]),4,32):=by kernel_rfl
def Mx(ev:Ending):Prop:=∃A c,ev=.returned (.slice A 1 c)
theorem wC{z:Lay}{w:World}{M:MS}(R:fM z w M)(h1:M.ws.length=1)(mq lb cap:Nat)(cs:Array Value)(B:gK z mq lb M.ws.length cap cs):Calls prog 50 #[ptr mq] w λev w'=>Mx ev/\Below w.heap.size w w':=by
 obtain⟨i0,hi,hz0,hz1,hz2⟩:=info_parts Oa;have x0:w.cell? ⟨mq,1,none⟩=some (.slice (some ⟨lb,0,none⟩) 1 cap):=by
  have q:=(R.X B.mX).cell 1;rw[h1]at q
  exact q
 have x1:w.cell? ⟨lb,0,none⟩=some (ptr (z.wq 0)):=((R.X B.lX).cell 0).trans (B.row 0 B.pos);obtain⟨l,x,H⟩:∃l x,A1 z l 0 w M.co x:=⟨_,_,R.a1 0 B.pos⟩;have cV:=Hd (Jb w (z.wq 0) _ _ _ _ (H.cell 1 _ rfl) (H.cell 2 _ rfl) (H.cell 3 _ rfl) (H.cell 4 _ rfl));clear H R B h1;generalize x.R8=a1 at*;generalize x.Sa=a2 at*;generalize x.tail=a3 at*;generalize x.ag=a4 at*;go_enter func50,ntmps50;go_wp2_with fail
 go_loopw [3,13] (λs i wr=>(i=.int .i64 0/\s=.slice none 0 0/\wr=w)∨(i=.int .i64 1/\(∃A c,s=.slice A 1 c)/\Below w.heap.size w wr)) (λ_ i _=>1-(intOf i).toNat)
 case atStart=>exact Or.inl ⟨rfl,rfl,rfl⟩
 case round=>
  rcases hrel with⟨rfl,rfl,rfl⟩|⟨rfl,⟨A,c,rfl⟩,hb⟩
  ·go_wp2_with (first|(go_at_call 69;refine cV.o.q λw1 Sr=> ?_;have SR:=Hd (bG w1 #[a1,a2,a3,a4] 150 4 rfl))|(at_builtin;refine bB _ rfl _ _ 94 rfl 0 150 i0 _ 4 32 underlying94 hi hz0 hz1 hz2 rfl U0 (.slice none 0 0) 0 [] rfl (World.ownsRow_nil _ _ _ _) _ 1 _ rfl SR.out U17 U0 U0 (n0 _) ?_;intro v2 w2 hown2 hgrow2 hat2;obtain⟨A2,c2,rfl⟩:=ownsRow_form hown2;have B2:=Hd ((Sr.alloc Sr.size (.cells #[a1,a2,a3,a4] 150)).trans ((Kept.grown hgrow2).below (B:=wr.heap.size) (λk z=>by cases z) (by have:=Sr.size;simp;omega)));clear hown2 hgrow2 hat2))
   go_roundw
   case rel=>exact Or.inr ⟨by first|rfl|simp,⟨_,_,rfl⟩,B2.o⟩
   case measure=>decide
  ·have hge:¬((1:Int)<1):=by decide
   go_wp2_with fail
   go_ret
   exact⟨⟨_,_,rfl⟩,hb⟩
theorem Eu(w:World)(a b:Value)(l:List Int)(ha:aV w a l)(hb:aV w b l)(hn:l.length<=1000):Cs 36 #[a,b] w (.bool true) λw'=>Below w.heap.size w w':=by
 have HA:=Hd ha;have HB:=Hd hb;obtain⟨A,ca,rfl,za⟩:=ha;obtain⟨B,cb,rfl,zb⟩:=hb;clear za zb;have HN:=Hd hn;have mm:min (l.length:Int) (l.length:Int)=(l.length:Int):=Int.min_self _;clear hn;go_enter func36,ntmps36;go_wp2_with fail
 go_loopw [13] (λi wr=>∃k:Nat,k<=l.length/\i=.int .i64 k/\Below w.heap.size w wr) (λi _=>l.length-(intOf i).toNat)
 case atStart=>exact⟨0,n0 _,rfl,Below.refl _ _⟩
 case round=>
  exact Us11
theorem BG(w:World)(a b:Value)(l:List Int)(ha:aV w a l)(hb:aV w b l)(hn:l.length<=1000):Cs 64 #[a,b] w (.tuple #[(0:Int),.bool false]) λw'=>Below w.heap.size w w':=by
 have HA:=Hd ha;have HB:=Hd hb;obtain⟨A,ca,rfl,za⟩:=ha;obtain⟨B,cb,rfl,zb⟩:=hb;clear za zb;have HN:=Hd hn;have mm:min (l.length:Int) (l.length:Int)=(l.length:Int):=Int.min_self _;clear hn;go_enter func64,ntmps64;go_wp2_with fail
 go_loopw [12] (λi wr=>∃k:Nat,k<=l.length/\i=.int .i64 k/\Below w.heap.size w wr) (λi _=>l.length-(intOf i).toNat)
 case atStart=>exact⟨0,n0 _,rfl,Below.refl _ _⟩
 case round=>
  obtain⟨k,hk,rfl,hB⟩:=hrel
  by_cases hlt:k<l.length
  ·have hw:wrap64 ((k:Int)+1)=((k+1:Nat):Int):=iN hlt (nT HN.o U0)
   have hlt':(k:Int)<(l.length:Int):=jJ hlt;obtain⟨b1,o1,rfl,l1,q1⟩:=HA.o.at_ k hlt;obtain⟨b2,o2,rfl,l2,q2⟩:=HB.o.at_ k hlt;have q1:wr.cell? ⟨b1,o1+k,none⟩=some (.int .i64 l[k]):=kb hB l1 q1;have q2:wr.cell? ⟨b2,o2+k,none⟩=some (.int .i64 l[k]):=kb hB l2 q2;have M2:=Hd (iM hlt);have K1:k+1<=l.length:=hlt;have HB2:=Hd hB;clear hB hk HA HB HN;generalize l[k]=v at*;clear hlt;generalize l.length=n at*;go_upto_region 4 with fail
   go_quiet (fail)
   have HB3:=Hd (below_drewN HB2.o nq);generalize wr.drewN nq=w9 at*;go_wp2_with fail
   go_roundw
   case rel=>exact⟨k+1,K1,by first|rw[hw]|simp,HB3.o⟩
   case measure=>first|exact M2.out|(rw[hw];simpa using M2.out)
  ·obtain rfl:k=l.length:=Nat.le_antisymm hk (Nat.le_of_not_lt hlt)
   have hge:¬((l.length:Int)<(l.length:Int)):=Int.lt_irrefl _;clear HA HB;go_wp2_with fail
   go_ret2
   exact⟨rfl,hB⟩
theorem Ee(w:World)(B:Option Addr)(c:Nat):Cs 64 #[.slice none 0 0,.slice B 1 c] w (.tuple #[(0:Int),.bool true]) λw'=>Below w.heap.size w w':=by
 have m1:min (0:Int) 1=0:=by decide
 have h0:¬((0:Int)<0):=by decide
 have h1:¬((0:Int)=1):=by decide
 go_enter func64,ntmps64;go_wp2_with fail
 go_loopw [12] (λi wr=>i=.int .i64 0/\wr=w) (λi _=>0)
 case atStart=>exact⟨rfl,rfl⟩
 case round=>
  obtain⟨rfl,rfl⟩:=hrel;go_wp2_with fail
  go_ret2
  exact⟨rfl,Below.refl _ _⟩
theorem Ew(w:World)(g i h j c d:Nat)(a b:Int)(ne:¬a=b)(x:w.cell? ⟨g,i,none⟩=some ↑a)(y:w.cell? ⟨h,j,none⟩=some ↑b):Cs 36 #[.slice (some ⟨g,i,none⟩) 1 c,.slice (some ⟨h,j,none⟩) 1 d] w (.bool false) λw'=>Below w.heap.size w w':=by
 go_enter func36,ntmps36;go_wp2_with fail
 go_loopw [13] (λi wr=>i=.int .i64 0/\wr=w) (λi _=>0)
 case atStart=>exact⟨rfl,rfl⟩
 case round=>
  obtain⟨rfl,rfl⟩:=hrel;go_upto_region 6 with fail
  go_quiet (fail)
  have HB3:=Hd (below_drewN (Below.refl wr.heap.size wr) nq);generalize wr.drewN nq=w9 at*;go_wp2_with fail
  go_ret
  exact⟨rfl,HB3.o⟩
theorem Us64 {p:Prop} (h:p:=by
 go_enter func37,ntmps37
 go_wp2_with (go_at_call 64;refine c1.o.q λw1 Sr=> ?_)
 go_ret
 exact⟨rfl,Sr⟩):p:=h
theorem Us58 {p:Prop} (h:p:=by
 clear hg hh;go_enter func11,ntmps11
 go_wp2_with (go_at_call 36;refine c1.o.q λw1 Sr=> ?_)
 go_ret
 exact⟨rfl,Sr⟩):p:=h
theorem qN(w:World)(a b:Value)(l:List Int)(ha:aV w a l)(hb:aV w b l)(hn:l.length<=1000):Cs 37 #[a,b] w (.bool true) λw'=>Below w.heap.size w w':=by
 have c1:=Hd (BG w a b l ha hb hn);clear ha hb hn
 exact Us64
theorem OZ(w:World)(B:Option Addr)(c:Nat):Cs 37 #[.slice none 0 0,.slice B 1 c] w (.bool false) λw'=>Below w.heap.size w w':=by
 have c1:=Hd (Ee w B c)
 exact Us64
theorem uC{w:World}{g:Nat}{a:Int}{cs:Array Value}{c:Nat}(h:af w g cs 3)(h0:cs[0]? =some (.int .i64 a)):aV w (.slice (some ⟨g,0,none⟩) 1 c) [a]:=
 ⟨_,_,rfl,λ_=>⟨g,0,rfl,h.lt,λj hj=>by
  match j,hj with
  |0,_=>exact(h.cell 0).trans h0⟩⟩
theorem xN(w:World)(g h:Nat)(hg:af w g #[(1:Int)] 3)(hh:af w h #[(1:Int),(2:Int)] 3):Cs 11 #[.slice (some ⟨g,0,none⟩) 1 1,.slice (some ⟨h,0,none⟩) 2 2] w (.bool true) λw'=>Below w.heap.size w w':=by
 have c1:=Hd (Eu w (.slice (some ⟨g,0,none⟩) 1 1) (.slice (some ⟨h,0,none⟩) 1 2) [1] (uC hg rfl) (uC hh rfl) U0)
 exact Us58
theorem Bl(w:World)(g h:Nat)(hg:af w g #[(2:Int)] 3)(hh:af w h #[(1:Int),(2:Int)] 3):Cs 11 #[.slice (some ⟨g,0,none⟩) 1 1,.slice (some ⟨h,0,none⟩) 2 2] w (.bool false) λw'=>Below w.heap.size w w':=by
 have c1:=Hd (Ew w g 0 h 0 1 2 2 1 U0 (hg.cell 0) (hh.cell 0))
 exact Us58
def CF(v:Value):Value:=.agg #[(1:Int),(0:Int),v,.slice none 0 0,(0:Int),(0:Int),(0:Int),(0:Int),(0:Int),(0:Int),(0:Int)]
def Cv(v:Value):Value:=.agg #[(1:Int),(0:Int),v,.slice none 0 0,(0:Int),(0:Int),(0:Int)]
theorem xL(w:World)(g h:Nat)(hg:af w g #[(1:Int)] 3)(hh:af w h #[(1:Int)] 3):Cs 12 #[CF (.slice (some ⟨g,0,none⟩) 1 1),Cv (.slice (some ⟨h,0,none⟩) 1 1)] w (.int .i64 0) λw'=>Below w.heap.size w w':=by
 have bw:Below w.heap.size w ((w.alloc (.cells #[(1:Int),(0:Int),.slice (some ⟨g,0,none⟩) 1 1,.slice none 0 0,(0:Int),(0:Int),(0:Int),(0:Int),(0:Int),(0:Int),(0:Int)] 42)).alloc (.cells #[(1:Int),(0:Int),.slice (some ⟨h,0,none⟩) 1 1,.slice none 0 0,(0:Int),(0:Int),(0:Int)] 31)):=(Ba _).alloc U8 _;have BX:=Hd ((af.new w #[(1:Int),(0:Int),.slice (some ⟨g,0,none⟩) 1 1,.slice none 0 0,(0:Int),(0:Int),(0:Int),(0:Int),(0:Int),(0:Int),(0:Int)] 42 _ rfl).alloc (.cells #[(1:Int),(0:Int),.slice (some ⟨h,0,none⟩) 1 1,.slice none 0 0,(0:Int),(0:Int),(0:Int)] 31));have OX:=Hd (af.new (w.alloc (.cells #[(1:Int),(0:Int),.slice (some ⟨g,0,none⟩) 1 1,.slice none 0 0,(0:Int),(0:Int),(0:Int),(0:Int),(0:Int),(0:Int),(0:Int)] 42)) #[(1:Int),(0:Int),.slice (some ⟨h,0,none⟩) 1 1,.slice none 0 0,(0:Int),(0:Int),(0:Int)] 31 _ rfl);rw[World.size_alloc]at OX;have c1:=Hd (qN _ _ _ [1] (uC (c:=1) (hg.below bw hg.lt) rfl) (uC (c:=1) (hh.below bw hh.lt) rfl) U0);have c2:=Hd (λw2=>qN w2 (.slice none 0 0) (.slice none 0 0) [] ⟨_,_,rfl,λz=>absurd z U8⟩ ⟨_,_,rfl,λz=>absurd z U8⟩ U0);have BW:=Hd bw;have n1:¬((1:Int)≠1):=by decide
 have n0:¬((0:Int)≠0):=by decide
 clear bw;unfold CF Cv;go_enter func12,ntmps12;go_upto_region 1 with fail;generalize((w.alloc (.cells #[(1:Int),(0:Int),.slice (some ⟨g,0,none⟩) 1 1,.slice none 0 0,(0:Int),(0:Int),(0:Int),(0:Int),(0:Int),(0:Int),(0:Int)] 42)).alloc (.cells #[(1:Int),(0:Int),.slice (some ⟨h,0,none⟩) 1 1,.slice none 0 0,(0:Int),(0:Int),(0:Int)] 31))=W at*;generalize hq:w.heap.size=q at*;have x0:=BX.o.c0;have x1:=BX.o.c1;have x2:=BX.o.c2;have z0:W.cell? ⟨q+1,0,none⟩=some (.int .i64 1):=OX.out.cell 0;have z2:W.cell? ⟨q+1,2,none⟩=some (.slice (some ⟨h,0,none⟩) 1 1):=OX.out.cell 2
 go_upto_region 7 with(go_at_call 37;refine c1.o.q λw1 Sr=> ?_;have B1:=Hd (BW.o.trans (Sr.mono (by have:=BW.o.size;omega)));have x3:w1.cell? ⟨q,3,none⟩=some (.slice none 0 0):=(BX.o.below Sr BX.o.lt).cell 3;have z3:w1.cell? ⟨q+1,3,none⟩=some (.slice none 0 0):=(OX.out.below Sr OX.out.lt).cell 3;clear Sr)
 clear c1
 go_wp2_with (go_at_call 37;refine(c2.o _).q λw2 hb2=> ?_;have B2:=Hd (B1.o.trans (hb2.mono (by have:=B1.o.size;omega))))
 go_ret
 exact⟨rfl,by rw[hq];exact B2.o⟩
theorem Bi(w:World)(h:Nat):Cs 12 #[CF (.slice none 0 0),Cv (.slice (some ⟨h,0,none⟩) 1 1)] w (.int .i64 4) λw'=>Below w.heap.size w w':=by
 have bw:Below w.heap.size w ((w.alloc (.cells #[(1:Int),(0:Int),.slice none 0 0,.slice none 0 0,(0:Int),(0:Int),(0:Int),(0:Int),(0:Int),(0:Int),(0:Int)] 42)).alloc (.cells #[(1:Int),(0:Int),.slice (some ⟨h,0,none⟩) 1 1,.slice none 0 0,(0:Int),(0:Int),(0:Int)] 31)):=(Ba _).alloc U8 _;have BX:=Hd ((af.new w #[(1:Int),(0:Int),.slice none 0 0,.slice none 0 0,(0:Int),(0:Int),(0:Int),(0:Int),(0:Int),(0:Int),(0:Int)] 42 _ rfl).alloc (.cells #[(1:Int),(0:Int),.slice (some ⟨h,0,none⟩) 1 1,.slice none 0 0,(0:Int),(0:Int),(0:Int)] 31));have OX:=Hd (af.new (w.alloc (.cells #[(1:Int),(0:Int),.slice none 0 0,.slice none 0 0,(0:Int),(0:Int),(0:Int),(0:Int),(0:Int),(0:Int),(0:Int)] 42)) #[(1:Int),(0:Int),.slice (some ⟨h,0,none⟩) 1 1,.slice none 0 0,(0:Int),(0:Int),(0:Int)] 31 _ rfl);rw[World.size_alloc]at OX;have c1:=Hd (OZ ((w.alloc (.cells #[(1:Int),(0:Int),.slice none 0 0,.slice none 0 0,(0:Int),(0:Int),(0:Int),(0:Int),(0:Int),(0:Int),(0:Int)] 42)).alloc (.cells #[(1:Int),(0:Int),.slice (some ⟨h,0,none⟩) 1 1,.slice none 0 0,(0:Int),(0:Int),(0:Int)] 31)) (some ⟨h,0,none⟩) 1);have c2:=Hd (λw2=>qN w2 (.slice none 0 0) (.slice none 0 0) [] ⟨_,_,rfl,λz=>absurd z U8⟩ ⟨_,_,rfl,λz=>absurd z U8⟩ U0);have BW:=Hd bw;have n1:¬((1:Int)≠1):=by decide
 have n0:¬((0:Int)≠0):=by decide
 clear bw;unfold CF Cv;go_enter func12,ntmps12;go_upto_region 1 with fail;generalize((w.alloc (.cells #[(1:Int),(0:Int),.slice none 0 0,.slice none 0 0,(0:Int),(0:Int),(0:Int),(0:Int),(0:Int),(0:Int),(0:Int)] 42)).alloc (.cells #[(1:Int),(0:Int),.slice (some ⟨h,0,none⟩) 1 1,.slice none 0 0,(0:Int),(0:Int),(0:Int)] 31))=W at*;generalize hq:w.heap.size=q at*;have x0:=BX.o.c0;have x1:=BX.o.c1;have x2:=BX.o.c2;have z0:W.cell? ⟨q+1,0,none⟩=some (.int .i64 1):=OX.out.cell 0;have z2:W.cell? ⟨q+1,2,none⟩=some (.slice (some ⟨h,0,none⟩) 1 1):=OX.out.cell 2
 go_wp2_with (go_at_call 37;refine c1.o.q λw1 Sr=> ?_;have B1:=Hd (BW.o.trans (Sr.mono (by have:=BW.o.size;omega)));clear Sr)
 go_ret
 exact⟨rfl,by rw[hq];exact B1.o⟩
end Go.Proofs.YteiignfflbmafaaGreat.Tp
