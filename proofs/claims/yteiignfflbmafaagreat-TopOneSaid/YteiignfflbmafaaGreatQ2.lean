/- TopOne, part 2. -/
import Derived.Test.YteiignfflbmafaaGreatQ1
import Derived.Deep.RegionHeld3
import Derived.Deep.DeepCutAuto
import Derived.Deep.CutBlock
import Derived.Deep.RegionWith
set_option linter.unusedVariables false
set_option linter.unusedSimpArgs false
set_option maxRecDepth 100000
set_option maxHeartbeats 8000000
namespace Go.Proofs.YteiignfflbmafaaGreat.Sp
open Go.Proofs.Tryz
open Go.RowKit Go.Proofs.YteiignfflbmafaaGreat.Wr
theorem Us78 {p:Prop} (h:p:=by
 clear hNX hF
 go_wp2_with (first|(go_at_call 214;refine(cK.o _).r ?_))
 all_goals go_meet
 all_goals exact⟨rfl,hfl,U13⟩):p:=h
theorem Us51 {p:Prop} (h:p:=by
 clear hNX hF
 go_upto_region 13 with(first|(go_at_call 214;refine(cK.o _).r ?_))
 go_wp2_with (first|(go_at_call 213;refine(cA.o _).r ?_))
 all_goals go_meet
 all_goals exact⟨rfl,hfl,U13⟩):p:=h
theorem vO{W:World}{g:Nat}{R:Rg}(k:Nat)(hk:k<8)(f0:W.cell? ⟨g,0,none⟩=some ↑R.r0)(f1:W.cell? ⟨g,1,none⟩=some ↑R.r1)(f2:W.cell? ⟨g,2,none⟩=some ↑R.r2)(f3:W.cell? ⟨g,3,none⟩=some ↑R.r3)(f4:W.cell? ⟨g,4,none⟩=some ↑R.r4)(f5:W.cell? ⟨g,5,none⟩=some ↑R.r5)(f6:W.cell? ⟨g,6,none⟩=some ↑R.r6)(f7:W.cell? ⟨g,7,none⟩=some ↑R.r7):
  W.cell? ⟨g,k,none⟩=some (.int .i64 (R.get k)):=by
 have e:k=0∨k=1∨k=2∨k=3∨k=4∨k=5∨k=6∨k=7:=by omega
 rcases e with rfl|rfl|rfl|rfl|rfl|rfl|rfl|rfl<;>assumption
theorem Mj(op A B C pc:Int)(R:Rg)(w:World):
  Calls prog 142 #[.agg #[op,A,B,C],pc,.agg #[R.r0,R.r1,R.r2,R.r3,R.r4,R.r5,R.r6,R.r7]] w λe w'=>e=.returned (.tuple #[.int .i64 (vG op A B C pc R),.agg #[.int .i64 (lN op A B C R).r0,.int .i64 (lN op A B C R).r1,.int .i64 (lN op A B C R).r2,.int .i64 (lN op A B C R).r3,.int .i64 (lN op A B C R).r4,.int .i64 (lN op A B C R).r5,.int .i64 (lN op A B C R).r6,.int .i64 (lN op A B C R).r7],.agg #[.int .i64 (lM op A B C R).kind,.int .i64 (lM op A B C R).at_,.int .i64 (lM op A B C R).value,.int .i64 (lM op A B C R).other,.int .i64 (lM op A B C R).reg],.int .i64 (uw op C R)])/\Below w.heap.size w w':=by
 have hof:=Hd (λw=>yN op A B C R w);have cK:=Hd (λw=>Ce op w);obtain⟨k,hk,hk8⟩:∃k:Nat,Sj A=(k:Int)/\k<8:=⟨(Sj A).toNat,by unfold Sj;omega,by unfold Sj;omega⟩;have cH:=Hd (λw=>bE A w);have cA:=Hd (λw=>uk R A w);have cB:=Hd (λw=>uk R B w);have cC:=Hd (λw=>uk R C w);have cD:=Hd (λw=>NC op (R.at B) (R.at C) w);have HPC:=Hd (show vG op A B C pc R=if faults op (R.at C)=true then pc else Jf op A B pc (R.at A)from rfl);have HRG:=Hd (show lN op A B C R=if faults op (R.at C)=true then R else NV op A B R (R.at B) (R.at C)from rfl);have HEF:=Hd (show lM op A B C R=if faults op (R.at C)=true then rO else yM op A (R.at A) (R.at B) (R.at C) (Sj A)from rfl);have HFT:=Hd (show uw op C R=if faults op (R.at C)=true then Eg op (R.at C)else 0 from rfl);generalize vG op A B C pc R=PC at*;generalize lN op A B C R=RG at*;generalize lM op A B C R=EF at*;generalize uw op C R=FT at*;have HE:=Hd (show yM op A (R.at A) (R.at B) (R.at C) (Sj A)=yM op A (R.at A) (R.at B) (R.at C) (Sj A)from rfl);generalize hE:yM op A (R.at A) (R.at B) (R.at C) (Sj A)=E at hof HEF HE;clear hE HE;have HK:=Hd hk;rw[hk]at cH;clear hk;generalize R.at A=a at*;generalize R.at B=b at*;generalize R.at C=c at*;obtain⟨NX,hNX⟩:∃N,Hid (N=Jf op A B pc a):=⟨_,Hd rfl⟩;obtain⟨F,hF⟩:∃N,Hid (N=NV op A B R b c):=⟨_,Hd rfl⟩;go_enter func142,ntmps142
 go_upto_block 0 with fail
 have HW:=oJ.born w #[op,A,B,C] R 109 174 174 235 269;unfold Rg.arr Z8 Z5 at HW;generalize hW:((((w.alloc (.cells #[op,A,B,C] 109)).alloc (.cells #[R.r0,R.r1,R.r2,R.r3,R.r4,R.r5,R.r6,R.r7] 174)).alloc (.cells #[(0:Int),(0:Int),(0:Int),(0:Int),(0:Int),(0:Int),(0:Int),(0:Int)] 174)).alloc (.cells #[(0:Int),(0:Int),(0:Int),(0:Int),(0:Int)] 235)).alloc (.cells #[R.r0,R.r1,R.r2,R.r3,R.r4,R.r5,R.r6,R.r7] 269)=W at*;generalize hg4:w.heap.size+1+1+1+1=g4 at*;generalize hg3:w.heap.size+1+1+1=g3 at*;generalize hg2:w.heap.size+1+1=g2 at*;generalize hg1:w.heap.size+1=g1 at*;generalize hg:w.heap.size=g at*;clear hW hg1 hg2 hg3 hg4
 go_cut [11] (λs11 wx=>s11=.int .i64 NX/\faults op c=false/\oJ w g g1 g2 g3 g4 #[op,A,B,C] R F wx)
 case first=>
  have x0:W.cell? ⟨g,0,none⟩=some ↑op:=HW.x 0;have x1:W.cell? ⟨g,1,none⟩=some ↑A:=HW.x 1;have x2:W.cell? ⟨g,2,none⟩=some ↑B:=HW.x 2;have x3:W.cell? ⟨g,3,none⟩=some ↑C:=HW.x 3;have f0:W.cell? ⟨g4,0,none⟩=some ↑R.r0:=HW.f 0;have f1:W.cell? ⟨g4,1,none⟩=some ↑R.r1:=HW.f 1;have f2:W.cell? ⟨g4,2,none⟩=some ↑R.r2:=HW.f 2;have f3:W.cell? ⟨g4,3,none⟩=some ↑R.r3:=HW.f 3;have f4:W.cell? ⟨g4,4,none⟩=some ↑R.r4:=HW.f 4;have f5:W.cell? ⟨g4,5,none⟩=some ↑R.r5:=HW.f 5;have f6:W.cell? ⟨g4,6,none⟩=some ↑R.r6:=HW.f 6;have f7:W.cell? ⟨g4,7,none⟩=some ↑R.r7:=HW.f 7;have F4:=HW.EH;have k04:g≠g4:=by have q1:=HW.o1;have q2:=HW.o2;have q3:=HW.o3;have q4:=HW.o4;omega
  have l0:g<W.heap.size:=by have q1:=HW.o1;have q2:=HW.o2;have q3:=HW.o3;have q4:=HW.o4;have ql:=HW.l;omega
  have l4:g4<W.heap.size:=HW.l;have k14:g1≠g4:=by have q1:=HW.o1;have q2:=HW.o2;have q3:=HW.o3;have q4:=HW.o4;omega
  have fk:=vO k hk8 f0 f1 f2 f3 f4 f5 f6 f7;have hk8':(k:Int)<8:=by omega
  clear hof
  by_cases h1:op=1
  ·subst h1
   obtain rfl:NX=wrap64 (pc+1):=by rw[hNX.out];simp[Jf]
   obtain rfl:F=R.set k B:=by rw[hF.out];simp[NV,HK.o]
   clear hNX hF;go_upto_region 3 with fail
   go_region_held3 (λw'=>w'.cell? ⟨g,1,none⟩=some ↑A/\w'.cell? ⟨g,2,none⟩=some ↑B)
    (((try dsimp only);(try go_split_ands);(repeat' apply And.intro)<;>(repeat(first|(with_reducible assumption)|(with_reducible refine kc ?_)|(with_reducible refine kd ?_)|(with_reducible refine ks U64 ?_)|(refine kb U3 U6 ?_)))))
    (first|(go_at_call 212;refine(cH.o _).r ?_))
   all_goals(go_wp2_with fail;go_meet)
   all_goals exact⟨rfl,by simp[faults],U13⟩
  have n1:(op==1)=false:=by simp[h1]
  by_cases h2:op=2
  ·subst h2
   obtain rfl:NX=wrap64 (pc+1):=by rw[hNX.out];simp[Jf]
   obtain rfl:F=R.set k b:=by rw[hF.out];simp[NV,HK.o]
   clear hNX hF;go_upto_region 5 with fail
   go_region_with (first|(go_at_call 212;refine(cH.o _).r ?_)|(go_at_call 213;refine(cB.o _).r ?_))
   all_goals(go_wp2_with fail;go_meet)
   all_goals exact⟨rfl,by simp[faults],U13⟩
  have n2:(op==2)=false:=by simp[h2]
  by_cases hk:3<=op/\op<=12
  ·have nk:decide (3<=op/\op<=12)=true:=by simp[hk]
   obtain rfl:NX=wrap64 (pc+1):=by rw[hNX.out];simp only[Jf];rw[if_neg U2,if_neg U2]
   obtain rfl:F=R.set k (JM op b c):=by rw[hF.out];simp only[NV];rw[if_neg h1,if_neg h2,if_pos hk,HK.o]
   have hfe:faults op c=(Eg op c !=0):=by simp only[faults,nk,Bool.true_and]
   clear hNX hF hk;generalize JM op b c=v at*;generalize Eg op c=ft at*
   go_upto_region 7 with(first|(go_at_call 214;refine(cK.o _).r ?_))
   go_cut [12,13] (λs12 s13 wx=>s12=.int .i64 v/\s13=.int .i64 ft/\oJ w g g1 g2 g3 g4 #[op,A,B,C] R R wx)
   case first=>
    go_region_held3 (λw'=>w'.cell? ⟨g,0,none⟩=some ↑op/\w'.cell? ⟨g,2,none⟩=some ↑B/\w'.cell? ⟨g,3,none⟩=some ↑C/\w'.cell? ⟨g4,0,none⟩=some ↑R.r0/\w'.cell? ⟨g4,1,none⟩=some ↑R.r1/\w'.cell? ⟨g4,2,none⟩=some ↑R.r2/\w'.cell? ⟨g4,3,none⟩=some ↑R.r3/\w'.cell? ⟨g4,4,none⟩=some ↑R.r4/\w'.cell? ⟨g4,5,none⟩=some ↑R.r5/\w'.cell? ⟨g4,6,none⟩=some ↑R.r6/\w'.cell? ⟨g4,7,none⟩=some ↑R.r7)
     (((try dsimp only);(try go_split_ands);(repeat' apply And.intro)<;>(repeat(first|(with_reducible assumption)|(with_reducible refine kc ?_)|(with_reducible refine kd ?_)|(with_reducible refine ks U64 ?_)|(refine kb U3 U6 ?_)))))
     (first|(go_at_call 213;refine(cB.o _).r ?_)|(go_at_call 213;refine(cC.o _).r ?_)|(go_at_call 215;refine(cD.o _).r ?_))
    all_goals(go_wp2_with fail;go_meet)
    all_goals exact⟨rfl,rfl,U13⟩
   case rest=>
    obtain⟨rfl,rfl,HX⟩:=hcut;clear x0 x1 x2 x3 f0 f1 f2 f3 f4 f5 f6 f7 F4 fk l0 l4 HW;have x0:wc.cell? ⟨g,0,none⟩=some ↑op:=HX.x 0;have x1:wc.cell? ⟨g,1,none⟩=some ↑A:=HX.x 1;have x2:wc.cell? ⟨g,2,none⟩=some ↑B:=HX.x 2;have x3:wc.cell? ⟨g,3,none⟩=some ↑C:=HX.x 3;have p0:wc.cell? ⟨g1,0,none⟩=some ↑R.r0:=HX.p 0;have p1:wc.cell? ⟨g1,1,none⟩=some ↑R.r1:=HX.p 1;have p2:wc.cell? ⟨g1,2,none⟩=some ↑R.r2:=HX.p 2;have p3:wc.cell? ⟨g1,3,none⟩=some ↑R.r3:=HX.p 3;have p4:wc.cell? ⟨g1,4,none⟩=some ↑R.r4:=HX.p 4;have p5:wc.cell? ⟨g1,5,none⟩=some ↑R.r5:=HX.p 5;have p6:wc.cell? ⟨g1,6,none⟩=some ↑R.r6:=HX.p 6;have p7:wc.cell? ⟨g1,7,none⟩=some ↑R.r7:=HX.p 7;have f0:wc.cell? ⟨g4,0,none⟩=some ↑R.r0:=HX.f 0;have f1:wc.cell? ⟨g4,1,none⟩=some ↑R.r1:=HX.f 1;have f2:wc.cell? ⟨g4,2,none⟩=some ↑R.r2:=HX.f 2;have f3:wc.cell? ⟨g4,3,none⟩=some ↑R.r3:=HX.f 3;have f4:wc.cell? ⟨g4,4,none⟩=some ↑R.r4:=HX.f 4;have f5:wc.cell? ⟨g4,5,none⟩=some ↑R.r5:=HX.f 5;have f6:wc.cell? ⟨g4,6,none⟩=some ↑R.r6:=HX.f 6;have f7:wc.cell? ⟨g4,7,none⟩=some ↑R.r7:=HX.f 7;have F4:=HX.EH;have l0:g<wc.heap.size:=by have q1:=HX.o1;have q2:=HX.o2;have q3:=HX.o3;have q4:=HX.o4;have ql:=HX.l;omega
    have l4:g4<wc.heap.size:=HX.l;have fk:=vO k hk8 f0 f1 f2 f3 f4 f5 f6 f7
    by_cases hft:ft=0
    ·subst hft
     have hf0:faults op c=false:=by rw[hfe];rfl
     clear HPC HRG HEF HFT hfe p0 p1 p2 p3 p4 p5 p6 p7
     go_wp2_with (first|(go_at_call 212;refine(cH.o _).r ?_))
     all_goals go_meet
     all_goals exact⟨rfl,hf0,(by repeat(first|(with_reducible exact HX)|(with_reducible refine oJ.drew ?_)|(with_reducible refine oJ.drewN ?_ _)|(with_reducible refine oJ.alloc ?_ _)|(refine oJ.set ?_ k hk8 _)))⟩
    ·have nft:(ft==0)=false:=by simp[hft]
     have hf1:faults op c=true:=by rw[hfe];simp[hft]
     obtain rfl:PC=pc:=by rw[HPC.o,hf1];rfl
     obtain rfl:RG=R:=by rw[HRG.o,hf1];rfl
     obtain rfl:EF=rO:=by rw[HEF.o,hf1];rfl
     obtain rfl:FT=ft:=by rw[HFT.o,hf1];rfl
     clear HPC HRG HEF HFT hfe hf1;have y0:wc.cell? ⟨g2,0,none⟩=some (.int .i64 0):=HX.y 0;have y1:wc.cell? ⟨g2,1,none⟩=some (.int .i64 0):=HX.y 1;have y2:wc.cell? ⟨g2,2,none⟩=some (.int .i64 0):=HX.y 2;have y3:wc.cell? ⟨g2,3,none⟩=some (.int .i64 0):=HX.y 3;have y4:wc.cell? ⟨g2,4,none⟩=some (.int .i64 0):=HX.y 4;have y5:wc.cell? ⟨g2,5,none⟩=some (.int .i64 0):=HX.y 5;have y6:wc.cell? ⟨g2,6,none⟩=some (.int .i64 0):=HX.y 6;have y7:wc.cell? ⟨g2,7,none⟩=some (.int .i64 0):=HX.y 7;have z0:wc.cell? ⟨g3,0,none⟩=some (.int .i64 0):=HX.z 0;have z1:wc.cell? ⟨g3,1,none⟩=some (.int .i64 0):=HX.z 1;have z2:wc.cell? ⟨g3,2,none⟩=some (.int .i64 0):=HX.z 2;have z3:wc.cell? ⟨g3,3,none⟩=some (.int .i64 0):=HX.z 3;have z4:wc.cell? ⟨g3,4,none⟩=some (.int .i64 0):=HX.z 4;have uY:=HX.uY;have yw:=HX.yw;have BW:=HX.bw;have b2:w.heap.size<=g2:=by have q1:=HX.o1;have q2:=HX.o2;have q:=HX.b;omega
     have b3:w.heap.size<=g3:=by have q1:=HX.o1;have q2:=HX.o2;have q3:=HX.o3;have q:=HX.b;omega
     have n23:g2≠g3:=by have q3:=HX.o3;omega
     have n12:g1≠g2:=by have q3:=HX.o2;omega
     have n13:g1≠g3:=by have q2:=HX.o2;have q3:=HX.o3;omega
     clear HX;go_upto_region 9 with fail
     go_region
     all_goals
      go_wp2_with fail
      exact bodyPost_ret (v:=.tuple #[PC,.agg #[RG.r0,RG.r1,RG.r2,RG.r3,RG.r4,RG.r5,RG.r6,RG.r7],.agg #[rO.kind,rO.at_,rO.value,rO.other,rO.reg],FT]) (by simp[results,results142,go_sem,y0,y1,y2,y3,y4,y5,y6,y7,z0,z1,z2,z3,z4,uY,yw,n23,n23.symm];trivial) rfl ⟨rfl,by repeat(first|(with_reducible exact BW)|(with_reducible refine Below.setCell ?_ b2 _)|(with_reducible refine Below.setCell ?_ b3 _)|(with_reducible refine Below.drew ?_))⟩
  have nk:decide (3<=op/\op<=12)=false:=by simp[hk]
  obtain rfl:F=R:=by rw[hF.out];simp only[NV];rw[if_neg h1,if_neg h2,if_neg hk]
  have hfl:faults op c=false:=by simp only[faults,nk,Bool.false_and]
  by_cases h18:op=18
  ·subst h18
   obtain rfl:NX=A:=by rw[hNX.out];simp[Jf]
   exact Us78
  have n18:(op==18)=false:=by simp[h18]
  by_cases h19:op=19
  ·subst h19
   have q0:∀(x:Int),x=0->(x==0)=true:=λx h=>by simp[h]
   by_cases ha:a=0
   ·subst ha
    obtain rfl:NX=B:=by rw[hNX.out];simp[Jf]
    exact Us51
   ·have na:(a==0)=false:=by simp[ha]
    obtain rfl:NX=wrap64 (pc+1):=by rw[hNX.out];simp[Jf,ha]
    exact Us51
  have n19:(op==19)=false:=by simp[h19]
  obtain rfl:NX=wrap64 (pc+1):=by rw[hNX.out];simp[Jf,h18,h19]
  exact Us78
 case rest=>
  obtain⟨rfl,hf,HL⟩:=hcut;obtain rfl:PC=NX:=by rw[HPC.o,hNX.out,hf];rfl
  obtain rfl:RG=F:=by rw[HRG.o,hF.out,hf];rfl
  obtain rfl:EF=E:=by rw[HEF.o,hf];rfl
  obtain rfl:FT=0:=by rw[HFT.o,hf];rfl
  clear HPC HRG HEF HFT hNX hF hf HW HK;have x0:wc.cell? ⟨g,0,none⟩=some ↑op:=HL.x 0;have x1:wc.cell? ⟨g,1,none⟩=some ↑A:=HL.x 1;have x2:wc.cell? ⟨g,2,none⟩=some ↑B:=HL.x 2;have x3:wc.cell? ⟨g,3,none⟩=some ↑C:=HL.x 3;have p0:wc.cell? ⟨g1,0,none⟩=some ↑R.r0:=HL.p 0;have p1:wc.cell? ⟨g1,1,none⟩=some ↑R.r1:=HL.p 1;have p2:wc.cell? ⟨g1,2,none⟩=some ↑R.r2:=HL.p 2;have p3:wc.cell? ⟨g1,3,none⟩=some ↑R.r3:=HL.p 3;have p4:wc.cell? ⟨g1,4,none⟩=some ↑R.r4:=HL.p 4;have p5:wc.cell? ⟨g1,5,none⟩=some ↑R.r5:=HL.p 5;have p6:wc.cell? ⟨g1,6,none⟩=some ↑R.r6:=HL.p 6;have p7:wc.cell? ⟨g1,7,none⟩=some ↑R.r7:=HL.p 7;have y0:wc.cell? ⟨g2,0,none⟩=some (.int .i64 0):=HL.y 0;have y1:wc.cell? ⟨g2,1,none⟩=some (.int .i64 0):=HL.y 1;have y2:wc.cell? ⟨g2,2,none⟩=some (.int .i64 0):=HL.y 2;have y3:wc.cell? ⟨g2,3,none⟩=some (.int .i64 0):=HL.y 3;have y4:wc.cell? ⟨g2,4,none⟩=some (.int .i64 0):=HL.y 4;have y5:wc.cell? ⟨g2,5,none⟩=some (.int .i64 0):=HL.y 5;have y6:wc.cell? ⟨g2,6,none⟩=some (.int .i64 0):=HL.y 6;have y7:wc.cell? ⟨g2,7,none⟩=some (.int .i64 0):=HL.y 7;have z0:wc.cell? ⟨g3,0,none⟩=some (.int .i64 0):=HL.z 0;have z1:wc.cell? ⟨g3,1,none⟩=some (.int .i64 0):=HL.z 1;have z2:wc.cell? ⟨g3,2,none⟩=some (.int .i64 0):=HL.z 2;have z3:wc.cell? ⟨g3,3,none⟩=some (.int .i64 0):=HL.z 3;have z4:wc.cell? ⟨g3,4,none⟩=some (.int .i64 0):=HL.z 4;have f0:wc.cell? ⟨g4,0,none⟩=some ↑RG.r0:=HL.f 0;have f1:wc.cell? ⟨g4,1,none⟩=some ↑RG.r1:=HL.f 1;have f2:wc.cell? ⟨g4,2,none⟩=some ↑RG.r2:=HL.f 2;have f3:wc.cell? ⟨g4,3,none⟩=some ↑RG.r3:=HL.f 3
  have f4:wc.cell? ⟨g4,4,none⟩=some ↑RG.r4:=HL.f 4;have f5:wc.cell? ⟨g4,5,none⟩=some ↑RG.r5:=HL.f 5;have f6:wc.cell? ⟨g4,6,none⟩=some ↑RG.r6:=HL.f 6;have f7:wc.cell? ⟨g4,7,none⟩=some ↑RG.r7:=HL.f 7;have uY:=HL.uY;have yw:=HL.yw;have BW:=HL.bw;have l2:g2<wc.heap.size:=by have q3:=HL.o3;have q4:=HL.o4;have ql:=HL.l;omega
  have l3:g3<wc.heap.size:=by have q4:=HL.o4;have ql:=HL.l;omega
  have b2:w.heap.size<=g2:=by have q1:=HL.o1;have q2:=HL.o2;have q:=HL.b;omega
  have b3:w.heap.size<=g3:=by have q1:=HL.o1;have q2:=HL.o2;have q3:=HL.o3;have q:=HL.b;omega
  have n23:g2≠g3:=by have q3:=HL.o3;omega
  have l0:g<wc.heap.size:=by have q1:=HL.o1;have q2:=HL.o2;have q3:=HL.o3;have q4:=HL.o4;have ql:=HL.l;omega
  have l1:g1<wc.heap.size:=by have q1:=HL.o1;have q2:=HL.o2;have q3:=HL.o3;have q4:=HL.o4;have ql:=HL.l;omega
  have l4:g4<wc.heap.size:=by have q1:=HL.o1;have q2:=HL.o2;have q3:=HL.o3;have q4:=HL.o4;have ql:=HL.l;omega
  have n24:g2≠g4:=by have q1:=HL.o1;have q2:=HL.o2;have q3:=HL.o3;have q4:=HL.o4;omega
  have n34:g3≠g4:=by have q1:=HL.o1;have q2:=HL.o2;have q3:=HL.o3;have q4:=HL.o4;omega
  have ng2:g≠g2:=by have q1:=HL.o1;have q2:=HL.o2;have q3:=HL.o3;have q4:=HL.o4;omega
  have ng3:g≠g3:=by have q1:=HL.o1;have q2:=HL.o2;have q3:=HL.o3;have q4:=HL.o4;omega
  have n12:g1≠g2:=by have q1:=HL.o1;have q2:=HL.o2;have q3:=HL.o3;have q4:=HL.o4;omega
  have n13:g1≠g3:=by have q1:=HL.o1;have q2:=HL.o2;have q3:=HL.o3;have q4:=HL.o4;omega
  clear HL;go_upto_region 15 with fail
  go_region_held3 (λw'=>w'.cell? ⟨g,0,none⟩=some ↑op/\w'.cell? ⟨g,1,none⟩=some ↑A/\w'.cell? ⟨g,2,none⟩=some ↑B/\w'.cell? ⟨g,3,none⟩=some ↑C/\w'.cell? ⟨g1,0,none⟩=some ↑R.r0/\w'.cell? ⟨g1,1,none⟩=some ↑R.r1/\w'.cell? ⟨g1,2,none⟩=some ↑R.r2/\w'.cell? ⟨g1,3,none⟩=some ↑R.r3/\w'.cell? ⟨g1,4,none⟩=some ↑R.r4/\w'.cell? ⟨g1,5,none⟩=some ↑R.r5/\w'.cell? ⟨g1,6,none⟩=some ↑R.r6/\w'.cell? ⟨g1,7,none⟩=some ↑R.r7/\w'.cell? ⟨g4,0,none⟩=some ↑RG.r0/\w'.cell? ⟨g4,1,none⟩=some ↑RG.r1/\w'.cell? ⟨g4,2,none⟩=some ↑RG.r2/\w'.cell? ⟨g4,3,none⟩=some ↑RG.r3/\w'.cell? ⟨g4,4,none⟩=some ↑RG.r4/\w'.cell? ⟨g4,5,none⟩=some ↑RG.r5/\w'.cell? ⟨g4,6,none⟩=some ↑RG.r6/\w'.cell? ⟨g4,7,none⟩=some ↑RG.r7)
   (((try dsimp only);(try go_split_ands);(repeat' apply And.intro)<;>(repeat(first|(with_reducible assumption)|(with_reducible refine kc ?_)|(with_reducible refine kd ?_)|(with_reducible refine ks U64 ?_)|(refine kb U3 U6 ?_)))))
   (first|(go_at_call 216;refine(hof.out _).q λw1 Sr=> ?_;have Y0:=kb Sr l2 y0;have Y1:=kb Sr l2 y1;have Y2:=kb Sr l2 y2;have Y3:=kb Sr l2 y3;have Y4:=kb Sr l2 y4;have Y5:=kb Sr l2 y5;have Y6:=kb Sr l2 y6;have Y7:=kb Sr l2 y7;have Z0:=kb Sr l3 z0;have Z1:=kb Sr l3 z1;have Z2:=kb Sr l3 z2;have Z3:=kb Sr l3 z3;have Z4:=kb Sr l3 z4;have F2:=λn=>kz Sr l2 (uY n);have F3:=λn=>kz Sr l3 (yw n)))
  all_goals
   have HB:Below w.heap.size w w1:=by first|exact BW.drew.trans (Sr.mono BW.size)|exact BW.drew.drew.trans (Sr.mono BW.size)
   go_wp2_with fail
   exact bodyPost_ret (v:=.tuple #[PC,.agg #[RG.r0,RG.r1,RG.r2,RG.r3,RG.r4,RG.r5,RG.r6,RG.r7],.agg #[EF.kind,EF.at_,EF.value,EF.other,EF.reg],(0:Int)]) (by simp[results,results142,go_sem,Y0,Y1,Y2,Y3,Y4,Y5,Y6,Y7,Z0,Z1,Z2,Z3,Z4,F2,F3,n23,n23.symm]) rfl ⟨rfl,by repeat(first|(with_reducible exact HB)|(with_reducible refine Below.setCell ?_ b2 _)|(with_reducible refine Below.setCell ?_ b3 _)|(with_reducible refine Below.drew ?_))⟩
theorem Us82 {p:Prop} (h:p:=by
 go_wp2
 all_goals(go_ret;exact⟨ret_bool U107,U1⟩)):p:=h
theorem Us37 {p:Prop} (h:p:=by
 obtain rfl:T=(⟨R.r0,R.r1,R.r2,R.r3,R.r4,R.r5,R.r6,Sl⟩:Rg):=by rw[HT.o];simp[Rg.set]
 clear HT;go_enter func149,ntmps149
 go_wp2_with (first|(go_at_call 212;refine(c1.o _).r ?_))
 exact bodyPost_ret (v:=.agg #[R.r0,R.r1,R.r2,R.r3,R.r4,R.r5,R.r6,Sl]) (by simp[results,results149,go_sem]) rfl ⟨rfl,U1⟩):p:=h
theorem Us36 {p:Prop} (h:p:=by
 obtain rfl:T=(⟨R.r0,R.r1,R.r2,R.r3,R.r4,R.r5,Sl,R.r7⟩:Rg):=by rw[HT.o];simp[Rg.set]
 clear HT;go_enter func149,ntmps149
 go_wp2_with (first|(go_at_call 212;refine(c1.o _).r ?_))
 exact bodyPost_ret (v:=.agg #[R.r0,R.r1,R.r2,R.r3,R.r4,R.r5,Sl,R.r7]) (by simp[results,results149,go_sem]) rfl ⟨rfl,U1⟩):p:=h
theorem Us35 {p:Prop} (h:p:=by
 obtain rfl:T=(⟨R.r0,R.r1,R.r2,R.r3,R.r4,Sl,R.r6,R.r7⟩:Rg):=by rw[HT.o];simp[Rg.set]
 clear HT;go_enter func149,ntmps149
 go_wp2_with (first|(go_at_call 212;refine(c1.o _).r ?_))
 exact bodyPost_ret (v:=.agg #[R.r0,R.r1,R.r2,R.r3,R.r4,Sl,R.r6,R.r7]) (by simp[results,results149,go_sem]) rfl ⟨rfl,U1⟩):p:=h
theorem Us34 {p:Prop} (h:p:=by
 obtain rfl:T=(⟨R.r0,R.r1,R.r2,R.r3,Sl,R.r5,R.r6,R.r7⟩:Rg):=by rw[HT.o];simp[Rg.set]
 clear HT;go_enter func149,ntmps149
 go_wp2_with (first|(go_at_call 212;refine(c1.o _).r ?_))
 exact bodyPost_ret (v:=.agg #[R.r0,R.r1,R.r2,R.r3,Sl,R.r5,R.r6,R.r7]) (by simp[results,results149,go_sem]) rfl ⟨rfl,U1⟩):p:=h
theorem Us33 {p:Prop} (h:p:=by
 obtain rfl:T=(⟨R.r0,R.r1,R.r2,Sl,R.r4,R.r5,R.r6,R.r7⟩:Rg):=by rw[HT.o];simp[Rg.set]
 clear HT;go_enter func149,ntmps149
 go_wp2_with (first|(go_at_call 212;refine(c1.o _).r ?_))
 exact bodyPost_ret (v:=.agg #[R.r0,R.r1,R.r2,Sl,R.r4,R.r5,R.r6,R.r7]) (by simp[results,results149,go_sem]) rfl ⟨rfl,U1⟩):p:=h
theorem Us32 {p:Prop} (h:p:=by
 obtain rfl:T=(⟨R.r0,R.r1,Sl,R.r3,R.r4,R.r5,R.r6,R.r7⟩:Rg):=by rw[HT.o];simp[Rg.set]
 clear HT;go_enter func149,ntmps149
 go_wp2_with (first|(go_at_call 212;refine(c1.o _).r ?_))
 exact bodyPost_ret (v:=.agg #[R.r0,R.r1,Sl,R.r3,R.r4,R.r5,R.r6,R.r7]) (by simp[results,results149,go_sem]) rfl ⟨rfl,U1⟩):p:=h
theorem Us31 {p:Prop} (h:p:=by
 obtain rfl:T=(⟨R.r0,Sl,R.r2,R.r3,R.r4,R.r5,R.r6,R.r7⟩:Rg):=by rw[HT.o];simp[Rg.set]
 clear HT;go_enter func149,ntmps149
 go_wp2_with (first|(go_at_call 212;refine(c1.o _).r ?_))
 exact bodyPost_ret (v:=.agg #[R.r0,Sl,R.r2,R.r3,R.r4,R.r5,R.r6,R.r7]) (by simp[results,results149,go_sem]) rfl ⟨rfl,U1⟩):p:=h
theorem Us30 {p:Prop} (h:p:=by
 obtain rfl:T=(⟨Sl,R.r1,R.r2,R.r3,R.r4,R.r5,R.r6,R.r7⟩:Rg):=by rw[HT.o];simp[Rg.set]
 clear HT;go_enter func149,ntmps149
 go_wp2_with (first|(go_at_call 212;refine(c1.o _).r ?_))
 exact bodyPost_ret (v:=.agg #[Sl,R.r1,R.r2,R.r3,R.r4,R.r5,R.r6,R.r7]) (by simp[results,results149,go_sem]) rfl ⟨rfl,U1⟩):p:=h
def iZ(R:Rg)(kind value reg Sl:Int):Rg:=
 if kind=4 then R.set (Sj reg) (if Sl=value then 1 else 0)else if kind=1∨kind=3 then R.set (Sj reg) Sl else R
theorem wT(R:Rg)(K At V O rg Sl:Int)(w:World):
  Calls prog 149 #[.agg #[R.r0,R.r1,R.r2,R.r3,R.r4,R.r5,R.r6,R.r7],.agg #[K,At,V,O,rg],Sl] w λe w'=>e=.returned (.agg #[.int .i64 (iZ R K V rg Sl).r0,.int .i64 (iZ R K V rg Sl).r1,.int .i64 (iZ R K V rg Sl).r2,.int .i64 (iZ R K V rg Sl).r3,.int .i64 (iZ R K V rg Sl).r4,.int .i64 (iZ R K V rg Sl).r5,.int .i64 (iZ R K V rg Sl).r6,.int .i64 (iZ R K V rg Sl).r7])/\Below w.heap.size w w':=by
 have HT:=Hd (show iZ R K V rg Sl=if K=4 then R.set (Sj rg) (if Sl=V then 1 else 0)else if K=1∨K=3 then R.set (Sj rg) Sl else R from rfl);generalize iZ R K V rg Sl=T at*;have c1:=Hd (λw=>bE rg w);have hc:=qC rg
 by_cases hk:K=4∨K=1∨K=3
 ·generalize Sj rg=k at*
  rcases hc with rfl|rfl|rfl|rfl|rfl|rfl|rfl|rfl
  ·rcases hk with rfl|rfl|rfl
   ·by_cases hg:Sl=V
    ·subst hg
     obtain rfl:T=(⟨1,R.r1,R.r2,R.r3,R.r4,R.r5,R.r6,R.r7⟩:Rg):=by rw[HT.o];simp[Rg.set]
     clear HT;go_enter func149,ntmps149
     go_wp2_with (first|(go_at_call 212;refine(c1.o _).r ?_))
     exact bodyPost_ret (v:=.agg #[(1:Int),R.r1,R.r2,R.r3,R.r4,R.r5,R.r6,R.r7]) (by simp[results,results149,go_sem]) rfl ⟨rfl,U1⟩
    ·have e1:(Sl==V)=false:=by simp[hg]
     obtain rfl:T=(⟨0,R.r1,R.r2,R.r3,R.r4,R.r5,R.r6,R.r7⟩:Rg):=by rw[HT.o];simp[Rg.set,hg]
     clear HT;go_enter func149,ntmps149
     go_wp2_with (first|(go_at_call 212;refine(c1.o _).r ?_))
     exact bodyPost_ret (v:=.agg #[(0:Int),R.r1,R.r2,R.r3,R.r4,R.r5,R.r6,R.r7]) (by simp[results,results149,go_sem]) rfl ⟨rfl,U1⟩
   ·exact Us30
   ·exact Us30
  ·rcases hk with rfl|rfl|rfl
   ·by_cases hg:Sl=V
    ·subst hg
     obtain rfl:T=(⟨R.r0,1,R.r2,R.r3,R.r4,R.r5,R.r6,R.r7⟩:Rg):=by rw[HT.o];simp[Rg.set]
     clear HT;go_enter func149,ntmps149
     go_wp2_with (first|(go_at_call 212;refine(c1.o _).r ?_))
     exact bodyPost_ret (v:=.agg #[R.r0,(1:Int),R.r2,R.r3,R.r4,R.r5,R.r6,R.r7]) (by simp[results,results149,go_sem]) rfl ⟨rfl,U1⟩
    ·have e1:(Sl==V)=false:=by simp[hg]
     obtain rfl:T=(⟨R.r0,0,R.r2,R.r3,R.r4,R.r5,R.r6,R.r7⟩:Rg):=by rw[HT.o];simp[Rg.set,hg]
     clear HT;go_enter func149,ntmps149
     go_wp2_with (first|(go_at_call 212;refine(c1.o _).r ?_))
     exact bodyPost_ret (v:=.agg #[R.r0,(0:Int),R.r2,R.r3,R.r4,R.r5,R.r6,R.r7]) (by simp[results,results149,go_sem]) rfl ⟨rfl,U1⟩
   ·exact Us31
   ·exact Us31
  ·rcases hk with rfl|rfl|rfl
   ·by_cases hg:Sl=V
    ·subst hg
     obtain rfl:T=(⟨R.r0,R.r1,1,R.r3,R.r4,R.r5,R.r6,R.r7⟩:Rg):=by rw[HT.o];simp[Rg.set]
     clear HT;go_enter func149,ntmps149
     go_wp2_with (first|(go_at_call 212;refine(c1.o _).r ?_))
     exact bodyPost_ret (v:=.agg #[R.r0,R.r1,(1:Int),R.r3,R.r4,R.r5,R.r6,R.r7]) (by simp[results,results149,go_sem]) rfl ⟨rfl,U1⟩
    ·have e1:(Sl==V)=false:=by simp[hg]
     obtain rfl:T=(⟨R.r0,R.r1,0,R.r3,R.r4,R.r5,R.r6,R.r7⟩:Rg):=by rw[HT.o];simp[Rg.set,hg]
     clear HT;go_enter func149,ntmps149
     go_wp2_with (first|(go_at_call 212;refine(c1.o _).r ?_))
     exact bodyPost_ret (v:=.agg #[R.r0,R.r1,(0:Int),R.r3,R.r4,R.r5,R.r6,R.r7]) (by simp[results,results149,go_sem]) rfl ⟨rfl,U1⟩
   ·exact Us32
   ·exact Us32
  ·rcases hk with rfl|rfl|rfl
   ·by_cases hg:Sl=V
    ·subst hg
     obtain rfl:T=(⟨R.r0,R.r1,R.r2,1,R.r4,R.r5,R.r6,R.r7⟩:Rg):=by rw[HT.o];simp[Rg.set]
     clear HT;go_enter func149,ntmps149
     go_wp2_with (first|(go_at_call 212;refine(c1.o _).r ?_))
     exact bodyPost_ret (v:=.agg #[R.r0,R.r1,R.r2,(1:Int),R.r4,R.r5,R.r6,R.r7]) (by simp[results,results149,go_sem]) rfl ⟨rfl,U1⟩
    ·have e1:(Sl==V)=false:=by simp[hg]
     obtain rfl:T=(⟨R.r0,R.r1,R.r2,0,R.r4,R.r5,R.r6,R.r7⟩:Rg):=by rw[HT.o];simp[Rg.set,hg]
     clear HT;go_enter func149,ntmps149
     go_wp2_with (first|(go_at_call 212;refine(c1.o _).r ?_))
     exact bodyPost_ret (v:=.agg #[R.r0,R.r1,R.r2,(0:Int),R.r4,R.r5,R.r6,R.r7]) (by simp[results,results149,go_sem]) rfl ⟨rfl,U1⟩
   ·exact Us33
   ·exact Us33
  ·rcases hk with rfl|rfl|rfl
   ·by_cases hg:Sl=V
    ·subst hg
     obtain rfl:T=(⟨R.r0,R.r1,R.r2,R.r3,1,R.r5,R.r6,R.r7⟩:Rg):=by rw[HT.o];simp[Rg.set]
     clear HT;go_enter func149,ntmps149
     go_wp2_with (first|(go_at_call 212;refine(c1.o _).r ?_))
     exact bodyPost_ret (v:=.agg #[R.r0,R.r1,R.r2,R.r3,(1:Int),R.r5,R.r6,R.r7]) (by simp[results,results149,go_sem]) rfl ⟨rfl,U1⟩
    ·have e1:(Sl==V)=false:=by simp[hg]
     obtain rfl:T=(⟨R.r0,R.r1,R.r2,R.r3,0,R.r5,R.r6,R.r7⟩:Rg):=by rw[HT.o];simp[Rg.set,hg]
     clear HT;go_enter func149,ntmps149
     go_wp2_with (first|(go_at_call 212;refine(c1.o _).r ?_))
     exact bodyPost_ret (v:=.agg #[R.r0,R.r1,R.r2,R.r3,(0:Int),R.r5,R.r6,R.r7]) (by simp[results,results149,go_sem]) rfl ⟨rfl,U1⟩
   ·exact Us34
   ·exact Us34
  ·rcases hk with rfl|rfl|rfl
   ·by_cases hg:Sl=V
    ·subst hg
     obtain rfl:T=(⟨R.r0,R.r1,R.r2,R.r3,R.r4,1,R.r6,R.r7⟩:Rg):=by rw[HT.o];simp[Rg.set]
     clear HT;go_enter func149,ntmps149
     go_wp2_with (first|(go_at_call 212;refine(c1.o _).r ?_))
     exact bodyPost_ret (v:=.agg #[R.r0,R.r1,R.r2,R.r3,R.r4,(1:Int),R.r6,R.r7]) (by simp[results,results149,go_sem]) rfl ⟨rfl,U1⟩
    ·have e1:(Sl==V)=false:=by simp[hg]
     obtain rfl:T=(⟨R.r0,R.r1,R.r2,R.r3,R.r4,0,R.r6,R.r7⟩:Rg):=by rw[HT.o];simp[Rg.set,hg]
     clear HT;go_enter func149,ntmps149
     go_wp2_with (first|(go_at_call 212;refine(c1.o _).r ?_))
     exact bodyPost_ret (v:=.agg #[R.r0,R.r1,R.r2,R.r3,R.r4,(0:Int),R.r6,R.r7]) (by simp[results,results149,go_sem]) rfl ⟨rfl,U1⟩
   ·exact Us35
   ·exact Us35
  ·rcases hk with rfl|rfl|rfl
   ·by_cases hg:Sl=V
    ·subst hg
     obtain rfl:T=(⟨R.r0,R.r1,R.r2,R.r3,R.r4,R.r5,1,R.r7⟩:Rg):=by rw[HT.o];simp[Rg.set]
     clear HT;go_enter func149,ntmps149
     go_wp2_with (first|(go_at_call 212;refine(c1.o _).r ?_))
     exact bodyPost_ret (v:=.agg #[R.r0,R.r1,R.r2,R.r3,R.r4,R.r5,(1:Int),R.r7]) (by simp[results,results149,go_sem]) rfl ⟨rfl,U1⟩
    ·have e1:(Sl==V)=false:=by simp[hg]
     obtain rfl:T=(⟨R.r0,R.r1,R.r2,R.r3,R.r4,R.r5,0,R.r7⟩:Rg):=by rw[HT.o];simp[Rg.set,hg]
     clear HT;go_enter func149,ntmps149
     go_wp2_with (first|(go_at_call 212;refine(c1.o _).r ?_))
     exact bodyPost_ret (v:=.agg #[R.r0,R.r1,R.r2,R.r3,R.r4,R.r5,(0:Int),R.r7]) (by simp[results,results149,go_sem]) rfl ⟨rfl,U1⟩
   ·exact Us36
   ·exact Us36
  ·rcases hk with rfl|rfl|rfl
   ·by_cases hg:Sl=V
    ·subst hg
     obtain rfl:T=(⟨R.r0,R.r1,R.r2,R.r3,R.r4,R.r5,R.r6,1⟩:Rg):=by rw[HT.o];simp[Rg.set]
     clear HT;go_enter func149,ntmps149
     go_wp2_with (first|(go_at_call 212;refine(c1.o _).r ?_))
     exact bodyPost_ret (v:=.agg #[R.r0,R.r1,R.r2,R.r3,R.r4,R.r5,R.r6,(1:Int)]) (by simp[results,results149,go_sem]) rfl ⟨rfl,U1⟩
    ·have e1:(Sl==V)=false:=by simp[hg]
     obtain rfl:T=(⟨R.r0,R.r1,R.r2,R.r3,R.r4,R.r5,R.r6,0⟩:Rg):=by rw[HT.o];simp[Rg.set,hg]
     clear HT;go_enter func149,ntmps149
     go_wp2_with (first|(go_at_call 212;refine(c1.o _).r ?_))
     exact bodyPost_ret (v:=.agg #[R.r0,R.r1,R.r2,R.r3,R.r4,R.r5,R.r6,(0:Int)]) (by simp[results,results149,go_sem]) rfl ⟨rfl,U1⟩
   ·exact Us37
   ·exact Us37
 ·have e4:(K==4)=false:=by simp;omega
  have e1:(K==1)=false:=by simp;omega
  have e3:(K==3)=false:=by simp;omega
  obtain rfl:T=R:=by rw[HT.o,if_neg U2,if_neg U2]
  clear HT hk;go_enter func149,ntmps149
  go_wp2_with (first|(go_at_call 212;refine(c1.o _).r ?_))
  exact bodyPost_ret (v:=.agg #[T.r0,T.r1,T.r2,T.r3,T.r4,T.r5,T.r6,T.r7]) (by simp[results,results149,go_sem]) rfl ⟨rfl,U1⟩
theorem pR(K At V O rg:Int)(w:World):
  Calls prog 147 #[.agg #[K,At,V,O,rg]] w λe w'=>e=.returned (.bool (decide (1<=K/\K<=4)))/\Below w.heap.size w w':=by
 by_cases h1:1<=K
 ·have e1:decide (1<=K)=true:=by simp[h1]
  have e2:decide (1<=K/\K<=4)=decide (K<=4):=by simp[h1]
  rw[e2];go_enter func147,ntmps147
  exact Us82
 ·have e1:decide (1<=K)=false:=by simp[h1]
  have e2:decide (1<=K/\K<=4)=false:=by simp[h1]
  rw[e2];go_enter func147,ntmps147
  exact Us82
theorem vN(K At V O rg:Int)(w:World):
  Calls prog 144 #[.agg #[K,At,V,O,rg]] w λe w'=>e=.returned (.bool (decide (7<=K/\K<=12)))/\Below w.heap.size w w':=by
 by_cases h1:7<=K
 ·have e1:decide (7<=K)=true:=by simp[h1]
  have e2:decide (7<=K/\K<=12)=decide (K<=12):=by simp[h1]
  rw[e2];go_enter func144,ntmps144
  exact Us82
 ·have e1:decide (7<=K)=false:=by simp[h1]
  have e2:decide (7<=K/\K<=12)=false:=by simp[h1]
  rw[e2];go_enter func144,ntmps144
  exact Us82
end Go.Proofs.YteiignfflbmafaaGreat.Sp
