/- TopOne, part 1. -/
import Derived.Test.YteiignfflbmafaaGreatRows
import Derived.WalkKit
import Derived.WalkSpells
import Derived.WalkLawsBesides
import Derived.Lib.Hide
import Derived.Deep.QuietTactic
import Derived.BigQuiet
import Derived.Deep.RegionHeld
import Derived.Deep.RegionHeld3
import Derived.Deep.DeepCutAuto
set_option linter.unusedVariables false
set_option linter.unusedSimpArgs false
set_option maxRecDepth 100000
set_option maxHeartbeats 8000000
namespace Go.Proofs.YteiignfflbmafaaGreat
section
variable {p:Prop}
theorem U0(h:p:=by decide):p:=h
theorem U1(h:p:=by repeat(first|exact Below.refl _ _|refine Below.alloc ?_ (by simp;try omega) _|refine Below.setCell ?_ (by simp;try omega) _|refine Below.drew ?_)):p:=h
theorem U2(h:p:=by omega):p:=h
theorem U3(h:p:=by with_reducible assumption):p:=h
theorem U4(h:p:=by first|exact H0.o|exact H0.o.drew|exact H0.o.drew.drew):p:=h
theorem U5(h:p:=by first|exact HC|exact HC.drew|exact HC.drew.drew):p:=h
theorem U6(h:p:=by assumption):p:=h
theorem U8(h:p:=by simp):p:=h
theorem U9(h:p:=by simp;try omega):p:=h
theorem U10(h:p:=by repeat(first|(with_reducible exact HBel)|(with_reducible refine Below.setCell ?_ hgw _)|(with_reducible refine Below.drew ?_))):p:=h
theorem U11(h:p:=by simp[Ly.has]):p:=h
theorem U12(h:p:=by first|exact H0.o|exact H0.o.drew|exact H0.o.drew.drew|exact H0.o.ai B1|exact(H0.o.ai B1).drew|exact(H0.o.ai B1).drew.drew):p:=h
theorem U13(h:p:=by repeat(first|(with_reducible exact HW)|(with_reducible refine oJ.drew ?_)|(with_reducible refine oJ.drewN ?_ _)|(with_reducible refine oJ.alloc ?_ _)|(refine oJ.set ?_ k hk8 _))):p:=h
theorem U14(h:p:=by rcases h2 with r|r<;>subst r<;>decide):p:=h
theorem U15(h:p:=by first|exact HC|exact HC.drew):p:=h
theorem U16(h:p:=by first|exact H0.o|exact H0.o.drew|exact H0.o.ai Sr|exact(H0.o.drew).ai Sr|exact(H0.o.drew.drew).ai Sr|exact H0.o.drew.drew):p:=h
theorem U17(h:p:=by simp[Value.oneCell']):p:=h
theorem U18(h:p:=by first|exact(H0.o.ai B1).RY|exact(H0.o.ai B1).drew.RY|exact(H0.o.ai B1).drew.drew.RY):p:=h
theorem U19(h:p:=by first|exact hb|exact kd hb|exact kd (kd hb)):p:=h
theorem U20(h:p:=by simp[Ly.has,e]):p:=h
theorem U21(h:p:=by rw[<-hx];rfl):p:=h
theorem U22(h:p:=by first|exact hS|exact hS.drew|exact hS.drew.drew):p:=h
theorem U23(h:p:=by first|exact y5|exact kd y5):p:=h
theorem U24(h:p:=by first|exact h0|assumption):p:=h
theorem U25(h:p:=by unfold Pl.ok at h;omega):p:=h
theorem U26(h:p:=by decide+kernel):p:=h
theorem U27(h:p:=by first|exact hb.core|exact hb.core.drew|exact hb.core.drew.drew):p:=h
theorem U28(h:p:=by first|exact(Ba _)|exact(Ba _).drew|exact((Below.refl _ _).drew.alloc nr _)):p:=h
theorem U29(h:p:=by first|exact(H0.o.ai B2).RY|exact(H0.o.ai B2).drew.RY):p:=h
theorem U30(h:p:=by first|exact H3|exact H3.drew):p:=h
theorem U31(h:p:=by simpa using q):p:=h
theorem U32(h:p:=by show 0<=x.ag/\x.ag<=tm+1;omega):p:=h
theorem U33(h:p:=by first|exact hS.ai Sr|exact hS.drew.ai Sr|exact hS.drew.drew.ai Sr):p:=h
theorem U34(h:p:=by first|exact HC1.o.B.size|exact nT HC1.o.B.size B3.o.size):p:=h
theorem U35(h:p:=by rw[<-hpa];rfl):p:=h
theorem U36(h:p:=by rw[List.getElem_set_self];exact Or.inr (Or.inr (Or.inr (Or.inr ⟨⟨i,q⟩,Or.inr rfl⟩)))):p:=h
theorem U37(h:p:=by rw[e_1];exact h1):p:=h
theorem U38(h:p:=by first|exact hq|exact hq.drew|exact hq.drew.drew):p:=h
theorem U40(h:p:=by rw[<-HW.o];exact cell_new _ _ _ _ _ (by rw[<-HG2.o];simp)):p:=h
theorem U41(h:p:=by simp;omega):p:=h
theorem U42(h:p:=by first|exact hb.data|exact hb.data.drew|exact hb.data.drew.drew):p:=h
theorem U44(h:p:=by first|exact Below.refl _ _|exact(Below.refl _ _).drew|exact Ba _|exact(Ba _).drew):p:=h
theorem U45(h:p:=by have:=D.sv;omega):p:=h
theorem U46(h:p:=by rw[Co.dE hp fl];rfl):p:=h
theorem U47(h:p:=by cases z):p:=h
theorem U48(h:p:=by first|exact H2|exact H2.drew):p:=h
theorem U49(h:p:=by first|exact s0|exact s0.drew|exact s0.drew.drew):p:=h
theorem U50(h:p:=by first|exact b0|exact b0.drew|exact b0.drew.drew):p:=h
theorem U51(h:p:=by first|exact h1.ai hb2|exact h1.drew.ai hb2|exact h1.drew.drew.ai hb2):p:=h
theorem U52(h:p:=by first|exact h.ai Sr|exact h.drew.ai Sr|exact h.drew.drew.ai Sr):p:=h
theorem U53(h:p:=by first|exact H0.o|exact H0.o.drew):p:=h
theorem U54(h:p:=by obtain⟨_,_,_,_,_,_,_,_,_,_,_,q,_⟩:=H3.o.jV i _ HX.o;exact q):p:=h
theorem U55(h:p:=by unfold maxLen;decide):p:=h
theorem U56(h:p:=by first|exact Below.refl _ _|exact(Below.refl _ _).drew):p:=h
theorem U57(h:p:=by rw[<-hg1];simp):p:=h
theorem U58(h:p:=by rw[hp];exact h.bU):p:=h
theorem U59(h:p:=by unfold Vw.kd at*;rw[q2];exact d):p:=h
theorem U60(h:p:=by first|exact h2|exact h2.drew|exact h2.drew.drew):p:=h
theorem U61(h:p:=by first|exact g1|exact g1.drew|exact g1.drew.drew):p:=h
theorem U62(h:p:=by exact SR.out):p:=h
theorem U63(h:p:=by rw[q2];exact c):p:=h
theorem U64(h:p:=by first|assumption|exact Ne.symm (by assumption)):p:=h
theorem U65(h:p:=by rw[q];exact λz=>by cases z):p:=h
theorem U66(h:p:=by rw[(List.getElem?_eq_some_iff.1 HX.o).2];rfl):p:=h
theorem U67(h:p:=by rw[<-hk];rfl):p:=h
theorem U68(h:p:=by rw[hev];exact Int.le_trans (by decide) sr.1):p:=h
theorem U69(h:p:=by have:=F.bd f a;omega):p:=h
theorem U70(h:p:=by rw[<-HG2.o];simp):p:=h
theorem U71(h:p:=by unfold maxLen;omega):p:=h
theorem U72(h:p:=by have:=bw.size;omega):p:=h
theorem U73(h:p:=by first|exact Or.inl rfl|exact Or.inr rfl):p:=h
theorem U74(h:p:=by rw[z1];simp[Ly.has,Lay.y]):p:=h
theorem U75(h:p:=by simp[Nx.sI]):p:=h
theorem U76(h:p:=by rw[hpl];exact List.mem_append_left _ (MemPlace.mem_row.2 ⟨0,by omega,by simp⟩)):p:=h
theorem U77(h:p:=by rw[c];exact hj):p:=h
theorem U78(h:p:=by rw[HM];rfl):p:=h
theorem U79(h:p:=by simp[results,results51,Act.put,asAddr,hl,lL]):p:=h
theorem U80(h:p:=by first|exact HC.RY|exact HC.drew.RY|exact HC.drew.drew.RY):p:=h
theorem U81(h:p:=by simp[Lay.y]at*;omega):p:=h
theorem U82(h:p:=by simpa using hi):p:=h
theorem U83(h:p:=by simp[results,results22,Act.put,asAddr,hl]):p:=h
theorem U84(h:p:=by first|exact H5|exact H5.drew):p:=h
theorem U85(h:p:=by first|exact B1.o|exact B2.o):p:=h
theorem U86(h:p:=by rw[<-heh];rfl):p:=h
theorem U88(h:p:=by rw[<-c2];exact c4):p:=h
theorem U89(h:p:=by rw[gQ f n hf,Nat.mul_comm];exact Nat.le_refl _):p:=h
theorem U90(h:p:=by rw[e_2];exact h1):p:=h
theorem U91(h:p:=by have:=c.ht;omega):p:=h
theorem U92(h:p:=by first|exact hb5|exact(Below.refl _ _).drew.trans hb5):p:=h
theorem U93(h:p:=by first|exact hb2|exact(Below.refl _ _).drew.trans hb2):p:=h
theorem U94(h:p:=by simpa using hgb):p:=h
theorem U96(h:p:=by rw[e3,Pl.pu (show r.p=m.pl from hP.1)];rfl):p:=h
theorem U97(h:p:=by rw[LK.out];exact hown2):p:=h
theorem U98(h:p:=by rw[T.2.2];show 0<=x.ag/\x.ag<=tm+1;omega):p:=h
theorem U99(h:p:=by dsimp only at a;rw[a];exact λz=>by cases z):p:=h
theorem U100(h:p:=by rw[Co.bJ o1 hh,Co.bJ j1 hoj];rfl):p:=h
theorem U101(h:p:=by rw[<-hpa3];rfl):p:=h
theorem U102(h:p:=by rw[hz2];omega):p:=h
theorem U103(h:p:=by have q:=h.jr i hi;rw[frpi]at q;exact q):p:=h
theorem U104(h:p:=by rintro rfl;rw[q2]at h;cases h;exact hu rfl):p:=h
theorem U105(h:p:=by have q:=h.jr i hi;rw[fri]at q;exact q):p:=h
theorem U106(h:p:=by unfold vU;decide):p:=h
theorem U107(h:p:=by simp<;>omega):p:=h
theorem U108(h:p:=by rw[z];decide):p:=h
theorem U109(h:p:=by have:=BX.o.lt;omega):p:=h
theorem U110(h:p:=by have:=B0.size;omega):p:=h
theorem U111(h:p:=by show 0<=x.ag+1/\x.ag+1<=tm+1;omega):p:=h
theorem U112(h:p:=by rw[hln];exact HT.o):p:=h
theorem U113(h:p:=by rw[<-hg];rfl):p:=h
theorem U114(h:p:=by rw[w];omega):p:=h
theorem U115(h:p:=by rw[fri];rfl):p:=h
theorem U116(h:p:=by rintro rfl;rw[q2]at r2;cases r2;omega):p:=h
end
end Go.Proofs.YteiignfflbmafaaGreat
namespace Go.Proofs.YteiignfflbmafaaGreat
open Go.Proofs.Tryz
open Go.RowKit
theorem Hd{p:Prop}(h:p):Go.RowKit.Hid p:=h
theorem _root_.Go.RowKit.Hid.o{p:Prop}(h:Go.RowKit.Hid p):p:=h.out
theorem _root_.Go.Shut.o{p:Prop}(h:Go.Shut p):p:=h.out
theorem _root_.Go.Calls.r{P:Program}{f:FuncId}{a:Array Value}{w:World}{w1:World}{v:Value}{K:Ending->World->Prop}(h:Calls P f a w λe w'=>e= .returned v/\w1=w')(k:K (.returned v) w1):Calls P f a w K:=h.mono λe w' ⟨x,y⟩=>by subst x;subst y;exact k
theorem _root_.Go.Calls.q{P:Program}{f:FuncId}{a:Array Value}{w:World}{v:Value}{R:World->Prop}{K:Ending->World->Prop}(h:Calls P f a w λe w'=>e= .returned v/\R w')(k:∀w',R w'->K (.returned v) w'):Calls P f a w K:=h.mono λe w' ⟨x,y⟩=>by subst x;exact k w' y
instance : Coe Int Value:=⟨λn=> .int .i64 n⟩
instance : Coe Nat Value:=⟨λn=> .int .i64 n⟩
theorem ret_int{k:IntKind}{a b:Int}(h:a=b):Ending.returned (.int k a)=.returned (.int k b):=by rw[h]
theorem ret_bool{a b:Bool}(h:a=b):Ending.returned (.bool a)=.returned (.bool b):=by rw[h]
theorem quiet_same{P:Program}{f:FuncId}{args:Array Value}{w:World}{n:Nat}{v:Value}
  (h:Calls P f args (w.drewN n) λe w'=>e=.returned v/\w.drewN n=w'):Calls P f args (w.drewN n) λe w''=>e=.returned v/\∃m,w''=w.drewN m:=
 h.mono λ_ _ ⟨he,hm⟩=>⟨he,n,hm.symm⟩
theorem below_drewN{B:Nat}{a w:World}(h:Below B a w)(n:Nat):Below B a (w.drewN n):=by
 exact⟨h.os,h.tape,h.output,h.size,h.block⟩
theorem cell_new(w:World)(cs:Array Value)(t:TypeId)(g i:Nat)(hg:g=w.heap.size):(w.alloc (.cells cs t)).cell? ⟨g,i,none⟩=cs[i]? :=by
 subst hg;simp[World.cell?_alloc_new]
theorem kc{w:World}{a:Addr}{v:Value}{o:Obj}(h:w.cell? a=some v):(w.alloc o).cell? a=some v:=by
 rw[World.cell?_alloc_lt w o a (World.block_lt_of_cell? w _ h)];exact h
theorem kd{w:World}{a:Addr}{v:Value}(h:w.cell? a=some v):w.drew.cell? a=some v:=h
theorem kn{w:World}{a:Addr}{v:Value}{n:Nat}(h:w.cell? a=some v):(w.drewN n).cell? a=some v:=h
theorem ks{w:World}{a p:Addr}{u v:Value}(hne:p.block≠a.block)(h:w.cell? a=some v):(w.setCell p u).cell? a=some v:=
 (World.cell?_setCell_far w p a u hne).trans h
theorem kb{B:Nat}{w w1:World}{a:Addr}{v:Value}(hb:Below B w w1)(hl:a.block<B)(h:w.cell? a=some v):w1.cell? a=some v:=(hb.cell hl).trans h
theorem kz{B:Nat}{w w1:World}{a:Addr}(hb:Below B w w1)(hl:a.block<B)(h:w.frozen? a=false):w1.frozen? a=false:=(hb.frozen hl).trans h
end Go.Proofs.YteiignfflbmafaaGreat
namespace Go.Proofs.YteiignfflbmafaaGreat.Wr
open Go.RowKit
def Rb(b:Bool):Int:=if b=true then 1 else 0
def JM(op a b:Int):Int:=
 if op=3 then wrap64 (a+b)else if op=4 then wrap64 (a-b)else if op=5 then wrap64 (a*b)
 else if op=6 then(if b=0 then 0 else wrap64 (a.tdiv b))else if op=7 then(if b=0 then 0 else a.tmod b)
 else if op=8 then Rb (decide (a<b))else if op=9 then Rb (a==b)
 else if op=10 then bits .and .i64 a b else if op=11 then bits .or .i64 a b else if op=12 then bits .xor .i64 a b else 0
def Eg(op b:Int):Int:=if(op=6∨op=7)/\b=0 then 1 else 0
theorem wrap_i64(n:Int):IntKind.i64.wrap n=wrap64 n:=by rw[IntKind.wrap_i64,wrap64]
end Go.Proofs.YteiignfflbmafaaGreat.Wr
namespace Go.Proofs.YteiignfflbmafaaGreat.Sp
open Go.RowKit Go.Proofs.YteiignfflbmafaaGreat.Wr
structure Rg where
 r0:Int
 r1:Int
 r2:Int
 r3:Int
 r4:Int
 r5:Int
 r6:Int
 r7:Int
def Rg.get(R:Rg)(k:Int):Int:=
 if k=0 then R.r0 else if k=1 then R.r1 else if k=2 then R.r2 else if k=3 then R.r3 else if k=4 then R.r4 else if k=5 then R.r5 else if k=6 then R.r6 else R.r7
def Rg.set(R:Rg)(k v:Int):Rg:=
 if k=0 then{R with r0:=v}else if k=1 then{R with r1:=v}else if k=2 then{R with r2:=v}else if k=3 then{R with r3:=v}
 else if k=4 then{R with r4:=v}else if k=5 then{R with r5:=v}else if k=6 then{R with r6:=v}else{R with r7:=v}
def Sj(n:Int):Int:=min (max n 0) 7
theorem qC(n:Int):Sj n=0∨Sj n=1∨Sj n=2∨Sj n=3∨Sj n=4∨Sj n=5∨Sj n=6∨Sj n=7:=by unfold Sj;omega
def Rg.at(R:Rg)(n:Int):Int:=R.get (Sj n)
structure Ef where
 kind:Int
 at_:Int
 value:Int
 other:Int
 reg:Int
def rO:Ef:=⟨0,0,0,0,0⟩
def yM(op A a b c ra:Int):Ef:=
 if op=13 then⟨1,b,0,0,ra⟩else if op=14 then⟨2,a,b,0,0⟩else if op=15 then⟨3,b,c,0,ra⟩else if op=16 then⟨4,b,a,c,ra⟩
 else if op=17 then⟨5,0,a,0,0⟩else if op=20 then⟨6,0,A,0,0⟩else if op=21 then⟨7,0,0,0,0⟩else if op=22 then⟨8,0,A,0,0⟩
 else if op=23 then⟨9,0,a,0,0⟩else if op=24 then⟨10,0,a,0,0⟩else if op=25 then⟨11,0,0,0,0⟩else if op=0 then⟨12,0,0,0,0⟩else rO
end Go.Proofs.YteiignfflbmafaaGreat.Sp
namespace Go.Proofs.YteiignfflbmafaaGreat.Wr
open Go.Proofs.Tryz
open Go.RowKit
theorem Us8 {p:Prop} (h:p:=by
 go_enter func215,ntmps215
 go_wp2_with (first|(go_at_call 263;refine(Bb _ _).r ?_))
 go_ret2
 exact⟨by simp[JM,Eg],rfl⟩):p:=h
theorem Bb(b:Bool)(w:World):
  Calls prog 263 #[.bool b] w λe w'=>e=.returned (.int .i64 (Rb b))/\w=w':=by
 cases b
 all_goals
  go_enter func263,ntmps263
  go_wp2
  go_ret
  exact⟨rfl,rfl⟩
theorem xX(op a b:Int)(w:World)(ho:op=6∨op=7):
  Calls prog 262 #[op,a,b] w λe w'=>e=.returned (.tuple #[.int .i64 (JM op a b),.int .i64 (Eg op b)])/\w=w':=by
 by_cases hb:b=0
 ·subst hb
  rcases ho with rfl|rfl
  all_goals
   go_enter func262,ntmps262
   go_wp2
   go_ret2
   exact⟨rfl,rfl⟩
 ·have hb':(b==0)=false:=by simp[hb]
  rcases ho with rfl|rfl
  all_goals
   go_enter func262,ntmps262
   go_wp2
   go_ret2
   exact⟨by simp[JM,Eg,hb],rfl⟩
theorem NC(op a b:Int)(w:World):
  Calls prog 215 #[op,a,b] w λe w'=>e=.returned (.tuple #[.int .i64 (JM op a b),.int .i64 (Eg op b)])/\w=w':=by
 by_cases h6:op=6∨op=7
 ·rcases h6 with rfl|rfl
  all_goals
   go_enter func215,ntmps215
   go_wp2_with (first|(go_at_call 262;refine(xX _ _ _ _ U0).r ?_))
   go_ret2
   exact⟨rfl,rfl⟩
 ·have n6:(op==6)=false:=by simp;omega
  have n7:(op==7)=false:=by simp;omega
  have hf:Eg op b=0:=by simp[Eg];omega
  by_cases h3:op=3
  ·subst h3
   exact Us8
  have n3:(op==3)=false:=by simp[h3]
  by_cases h4:op=4
  ·subst h4
   exact Us8
  have n4:(op==4)=false:=by simp[h4]
  by_cases h5:op=5
  ·subst h5
   exact Us8
  have n5:(op==5)=false:=by simp[h5]
  by_cases h8:op=8
  ·subst h8
   exact Us8
  have n8:(op==8)=false:=by simp[h8]
  by_cases h9:op=9
  ·subst h9
   exact Us8
  have n9:(op==9)=false:=by simp[h9]
  by_cases h10:op=10
  ·subst h10
   exact Us8
  have n10:(op==10)=false:=by simp[h10]
  by_cases h11:op=11
  ·subst h11
   exact Us8
  have n11:(op==11)=false:=by simp[h11]
  by_cases h12:op=12
  ·subst h12
   exact Us8
  have n12:(op==12)=false:=by simp[h12]
  have hv:JM op a b=0:=by simp[JM,h3,h4,h5,h8,h9,h10,h11,h12];omega
  clear h3 h4 h5 h6 h8 h9 h10 h11 h12;go_enter func215,ntmps215
  go_wp2_with (first|(go_at_call 263;refine(Bb _ _).r ?_))
  go_ret2
  exact⟨by rw[hv,hf];rfl,rfl⟩
theorem Ce(op:Int)(w:World):
  Calls prog 214 #[op] w λe w'=>e=.returned (.bool (decide (3<=op/\op<=12)))/\w=w':=by
 go_enter func214,ntmps214
 go_wp2
 all_goals(go_ret;exact⟨ret_bool U9,rfl⟩)
end Go.Proofs.YteiignfflbmafaaGreat.Wr
namespace Go.Proofs.YteiignfflbmafaaGreat.Sp
open Go.Proofs.Tryz
open Go.RowKit Go.Proofs.YteiignfflbmafaaGreat.Wr
theorem bE(n:Int)(w:World):
  Calls prog 212 #[n] w λe w'=>e=.returned (.int .i64 (Sj n))/\w=w':=by
 go_enter func212,ntmps212
 go_wp2
 all_goals(go_ret;exact⟨ret_int (by unfold Sj;omega),rfl⟩)
theorem uk(R:Rg)(n:Int)(w:World):
  Calls prog 213 #[.agg #[R.r0,R.r1,R.r2,R.r3,R.r4,R.r5,R.r6,R.r7],n] w λe w'=>e=.returned (.int .i64 (R.at n))/\w.alloc (.cells #[R.r0,R.r1,R.r2,R.r3,R.r4,R.r5,R.r6,R.r7] 269)=w':=by
 have HA:Hid (R.at n=R.get (Sj n)):=rfl;have hc:=qC n;have c1:=Hd (λw=>bE n w)
 rcases hc with h|h|h|h|h|h|h|h
 all_goals
  rw[h]at HA c1;clear h;go_enter func213,ntmps213
  go_wp2_with (go_at_call 212;refine(c1.o _).r ?_)
  go_ret
  exact⟨by rw[HA.o];rfl,rfl⟩
theorem yN(op A B C:Int)(R:Rg)(w:World):
  Calls prog 216 #[.agg #[op,A,B,C],.agg #[R.r0,R.r1,R.r2,R.r3,R.r4,R.r5,R.r6,R.r7]] w λe w'=>e=.returned (.agg #[.int .i64 (yM op A (R.at A) (R.at B) (R.at C) (Sj A)).kind,.int .i64 (yM op A (R.at A) (R.at B) (R.at C) (Sj A)).at_,.int .i64 (yM op A (R.at A) (R.at B) (R.at C) (Sj A)).value,.int .i64 (yM op A (R.at A) (R.at B) (R.at C) (Sj A)).other,.int .i64 (yM op A (R.at A) (R.at B) (R.at C) (Sj A)).reg])/\Below w.heap.size w w':=by
 obtain⟨a,ha⟩:∃a,R.at A=a:=⟨_,rfl⟩;obtain⟨b,hb⟩:∃a,R.at B=a:=⟨_,rfl⟩;obtain⟨c,hc⟩:∃a,R.at C=a:=⟨_,rfl⟩;rw[ha,hb,hc];go_enter func216,ntmps216;go_upto_region 1 with fail;generalize hW:((w.alloc (.cells #[op,A,B,C] 109)).alloc (.cells #[R.r0,R.r1,R.r2,R.r3,R.r4,R.r5,R.r6,R.r7] 269)).alloc (.cells #[(0:Int),(0:Int),(0:Int),(0:Int),(0:Int)] 235)=W;generalize hg2:w.heap.size+1+1=g2;generalize hg1:w.heap.size+1=g1;generalize hg:w.heap.size=g;have h0:W.cell? ⟨g,0,none⟩=some ↑op:=by rw[<-hW];exact kc (kc (cell_new _ _ _ _ _ hg.symm))
 have h1:W.cell? ⟨g,1,none⟩=some ↑A:=by rw[<-hW];exact kc (kc (cell_new _ _ _ _ _ hg.symm))
 have h2:W.cell? ⟨g,2,none⟩=some ↑B:=by rw[<-hW];exact kc (kc (cell_new _ _ _ _ _ hg.symm))
 have h3:W.cell? ⟨g,3,none⟩=some ↑C:=by rw[<-hW];exact kc (kc (cell_new _ _ _ _ _ hg.symm))
 have h4:W.cell? ⟨g1,0,none⟩=some ↑R.r0:=by rw[<-hW];exact kc (cell_new _ _ _ _ _ U57)
 have h5:W.cell? ⟨g1,1,none⟩=some ↑R.r1:=by rw[<-hW];exact kc (cell_new _ _ _ _ _ U57)
 have h6:W.cell? ⟨g1,2,none⟩=some ↑R.r2:=by rw[<-hW];exact kc (cell_new _ _ _ _ _ U57)
 have h7:W.cell? ⟨g1,3,none⟩=some ↑R.r3:=by rw[<-hW];exact kc (cell_new _ _ _ _ _ U57)
 have h8:W.cell? ⟨g1,4,none⟩=some ↑R.r4:=by rw[<-hW];exact kc (cell_new _ _ _ _ _ U57)
 have h9:W.cell? ⟨g1,5,none⟩=some ↑R.r5:=by rw[<-hW];exact kc (cell_new _ _ _ _ _ U57)
 have h10:W.cell? ⟨g1,6,none⟩=some ↑R.r6:=by rw[<-hW];exact kc (cell_new _ _ _ _ _ U57)
 have h11:W.cell? ⟨g1,7,none⟩=some ↑R.r7:=by rw[<-hW];exact kc (cell_new _ _ _ _ _ U57)
 have HW:=Hd hW;have HG:=Hd hg;have HG1:=Hd hg1;have HG2:=Hd hg2;clear hW hg hg1 hg2
 go_cut [5,6,7] (λs5 s6 s7 wx=>s5=.int .i64 a/\s6=.int .i64 b/\s7=.int .i64 c/\Below W.heap.size W wx)
 case first=>
  go_region_held3 (λw'=>w'.cell? ⟨g,0,none⟩=some ↑op/\w'.cell? ⟨g,1,none⟩=some ↑A/\w'.cell? ⟨g,2,none⟩=some ↑B/\w'.cell? ⟨g,3,none⟩=some ↑C/\w'.cell? ⟨g1,0,none⟩=some ↑R.r0/\w'.cell? ⟨g1,1,none⟩=some ↑R.r1/\w'.cell? ⟨g1,2,none⟩=some ↑R.r2/\w'.cell? ⟨g1,3,none⟩=some ↑R.r3/\w'.cell? ⟨g1,4,none⟩=some ↑R.r4/\w'.cell? ⟨g1,5,none⟩=some ↑R.r5/\w'.cell? ⟨g1,6,none⟩=some ↑R.r6/\w'.cell? ⟨g1,7,none⟩=some ↑R.r7)
   (((try dsimp only);(try go_split_ands);(repeat' apply And.intro)<;>(repeat(first|assumption|refine kc ?_|refine kd ?_))))
   (first|(go_at_call 213;refine(uk _ _ _).r ?_))
  all_goals(go_wp2_with fail;go_meet)
  all_goals exact⟨rfl,rfl,rfl,(by repeat(first|exact Below.refl _ _|refine Below.alloc ?_ U9 _|refine Below.drew ?_))⟩
 case rest=>
  obtain⟨rfl,rfl,rfl,Sr⟩:=hcut;have hgw0:W.heap.size=w.heap.size+3:=by rw[<-HW.o];simp
  have hl2:g2<W.heap.size:=by have:=HG2.o;omega
  have hl1:g1<W.heap.size:=by have:=HG1.o;omega
  have hl:g<W.heap.size:=by have:=HG.o;omega
  have HBel:Below w.heap.size w wc:=Below.trans (by rw[<-HW.o];exact(((Below.refl _ _).alloc (Nat.le_refl _) _).alloc U8 _).alloc U41 _) (Sr.mono U2);have hgw:w.heap.size<=g2:=by have:=HG2.o;omega
  have hsz:g<wc.heap.size:=Nat.lt_of_lt_of_le hl Sr.size;have hsz2:g2<wc.heap.size:=Nat.lt_of_lt_of_le hl2 Sr.size;have x0:wc.cell? ⟨g,0,none⟩=some ↑op:=(Sr.cell (p:=⟨g,0,none⟩) hl).trans h0;have x1:wc.cell? ⟨g,1,none⟩=some ↑A:=(Sr.cell (p:=⟨g,1,none⟩) hl).trans h1;have y0:wc.cell? ⟨g2,0,none⟩=some (.int .i64 0):=(Sr.cell (p:=⟨g2,0,none⟩) hl2).trans U40;have y1:wc.cell? ⟨g2,1,none⟩=some (.int .i64 0):=(Sr.cell (p:=⟨g2,1,none⟩) hl2).trans U40;have y2:wc.cell? ⟨g2,2,none⟩=some (.int .i64 0):=(Sr.cell (p:=⟨g2,2,none⟩) hl2).trans U40;have y3:wc.cell? ⟨g2,3,none⟩=some (.int .i64 0):=(Sr.cell (p:=⟨g2,3,none⟩) hl2).trans U40;have y4:wc.cell? ⟨g2,4,none⟩=some (.int .i64 0):=(Sr.cell (p:=⟨g2,4,none⟩) hl2).trans U40;have z:∀n,wc.frozen? ⟨g2,n,none⟩=false:=λn=>(Sr.frozen (p:=⟨g2,n,none⟩) hl2).trans (by rw[<-HW.o];exact World.frozen?_alloc_at _ _ _ _ U70);clear ha hb hc h0 h1 h2 h3 h4 h5 h6 h7 h8 h9 h10 h11 Sr hgw0
  by_cases h13:op=13
  ·subst h13
   go_wp2_with (first|(go_at_call 212;refine(bE _ _).r ?_))
   exact bodyPost_ret (v:=.agg #[(1:Int),b,(0:Int),(0:Int),.int .i64 (Sj A)]) (by simp[results,results216,go_sem,y0,y1,y2,y3,y4,z]) rfl ⟨rfl,U10⟩
  have n13:(op==13)=false:=by simp[h13]
  by_cases h14:op=14
  ·subst h14
   go_wp2_with (first|(go_at_call 212;refine(bE _ _).r ?_))
   exact bodyPost_ret (v:=.agg #[(2:Int),a,b,(0:Int),(0:Int)]) (by simp[results,results216,go_sem,y0,y1,y2,y3,y4,z]) rfl ⟨rfl,U10⟩
  have n14:(op==14)=false:=by simp[h14]
  by_cases h15:op=15
  ·subst h15
   go_wp2_with (first|(go_at_call 212;refine(bE _ _).r ?_))
   exact bodyPost_ret (v:=.agg #[(3:Int),b,c,(0:Int),.int .i64 (Sj A)]) (by simp[results,results216,go_sem,y0,y1,y2,y3,y4,z]) rfl ⟨rfl,U10⟩
  have n15:(op==15)=false:=by simp[h15]
  by_cases h16:op=16
  ·subst h16
   go_wp2_with (first|(go_at_call 212;refine(bE _ _).r ?_))
   exact bodyPost_ret (v:=.agg #[(4:Int),b,a,c,.int .i64 (Sj A)]) (by simp[results,results216,go_sem,y0,y1,y2,y3,y4,z]) rfl ⟨rfl,U10⟩
  have n16:(op==16)=false:=by simp[h16]
  by_cases h17:op=17
  ·subst h17
   go_wp2_with (first|(go_at_call 212;refine(bE _ _).r ?_))
   exact bodyPost_ret (v:=.agg #[(5:Int),(0:Int),a,(0:Int),(0:Int)]) (by simp[results,results216,go_sem,y0,y1,y2,y3,y4,z]) rfl ⟨rfl,U10⟩
  have n17:(op==17)=false:=by simp[h17]
  by_cases h20:op=20
  ·subst h20
   go_wp2_with (first|(go_at_call 212;refine(bE _ _).r ?_))
   exact bodyPost_ret (v:=.agg #[(6:Int),(0:Int),A,(0:Int),(0:Int)]) (by simp[results,results216,go_sem,y0,y1,y2,y3,y4,z]) rfl ⟨rfl,U10⟩
  have n20:(op==20)=false:=by simp[h20]
  by_cases h21:op=21
  ·subst h21
   go_wp2_with (first|(go_at_call 212;refine(bE _ _).r ?_))
   exact bodyPost_ret (v:=.agg #[(7:Int),(0:Int),(0:Int),(0:Int),(0:Int)]) (by simp[results,results216,go_sem,y0,y1,y2,y3,y4,z]) rfl ⟨rfl,U10⟩
  have n21:(op==21)=false:=by simp[h21]
  by_cases h22:op=22
  ·subst h22
   go_wp2_with (first|(go_at_call 212;refine(bE _ _).r ?_))
   exact bodyPost_ret (v:=.agg #[(8:Int),(0:Int),A,(0:Int),(0:Int)]) (by simp[results,results216,go_sem,y0,y1,y2,y3,y4,z]) rfl ⟨rfl,U10⟩
  have n22:(op==22)=false:=by simp[h22]
  by_cases h23:op=23
  ·subst h23
   go_wp2_with (first|(go_at_call 212;refine(bE _ _).r ?_))
   exact bodyPost_ret (v:=.agg #[(9:Int),(0:Int),a,(0:Int),(0:Int)]) (by simp[results,results216,go_sem,y0,y1,y2,y3,y4,z]) rfl ⟨rfl,U10⟩
  have n23:(op==23)=false:=by simp[h23]
  by_cases h24:op=24
  ·subst h24
   go_wp2_with (first|(go_at_call 212;refine(bE _ _).r ?_))
   exact bodyPost_ret (v:=.agg #[(10:Int),(0:Int),a,(0:Int),(0:Int)]) (by simp[results,results216,go_sem,y0,y1,y2,y3,y4,z]) rfl ⟨rfl,U10⟩
  have n24:(op==24)=false:=by simp[h24]
  by_cases h25:op=25
  ·subst h25
   go_wp2_with (first|(go_at_call 212;refine(bE _ _).r ?_))
   exact bodyPost_ret (v:=.agg #[(11:Int),(0:Int),(0:Int),(0:Int),(0:Int)]) (by simp[results,results216,go_sem,y0,y1,y2,y3,y4,z]) rfl ⟨rfl,U10⟩
  have n25:(op==25)=false:=by simp[h25]
  by_cases h0:op=0
  ·subst h0
   go_wp2_with (first|(go_at_call 212;refine(bE _ _).r ?_))
   exact bodyPost_ret (v:=.agg #[(12:Int),(0:Int),(0:Int),(0:Int),(0:Int)]) (by simp[results,results216,go_sem,y0,y1,y2,y3,y4,z]) rfl ⟨rfl,U10⟩
  have n0:(op==0)=false:=by simp[h0]
  have HE:Hid (yM op A a b c (Sj A)=rO):=by apply Hd;simp[yM,h13,h14,h15,h16,h17,h20,h21,h22,h23,h24,h25,h0]
  clear h13 h14 h15 h16 h17 h20 h21 h22 h23 h24 h25 h0
  go_wp2_with (first|(go_at_call 212;refine(bE _ _).r ?_))
  exact bodyPost_ret (v:=.agg #[(0:Int),(0:Int),(0:Int),(0:Int),(0:Int)]) (by simp[results,results216,go_sem,y0,y1,y2,y3,y4,z]) rfl ⟨by rw[HE.o];rfl,U10⟩
theorem Us42 {p:Prop} (h:p:=by
 rcases i with _|_|_|_|_|_|_|_|i
 all_goals simp[Rg.arr]):p:=h
def Rg.arr(R:Rg):Array Value:= #[R.r0,R.r1,R.r2,R.r3,R.r4,R.r5,R.r6,R.r7]
def Z8:Array Value:= #[(0:Int),(0:Int),(0:Int),(0:Int),(0:Int),(0:Int),(0:Int),(0:Int)]
def Z5:Array Value:= #[(0:Int),(0:Int),(0:Int),(0:Int),(0:Int)]
theorem Jk(R:Rg)(k:Nat)(hk:k<8)(v:Int)(i:Nat):(R.set k v).arr[i]? =if i=k then some ↑v else R.arr[i]? :=by
 have e:k=0∨k=1∨k=2∨k=3∨k=4∨k=5∨k=6∨k=7:=by omega
 rcases e with rfl|rfl|rfl|rfl|rfl|rfl|rfl|rfl
 ·rw[show R.set ((0:Nat):Int) v=(⟨v,R.r1,R.r2,R.r3,R.r4,R.r5,R.r6,R.r7⟩:Rg)from rfl]
  exact Us42
 ·rw[show R.set ((1:Nat):Int) v=(⟨R.r0,v,R.r2,R.r3,R.r4,R.r5,R.r6,R.r7⟩:Rg)from rfl]
  exact Us42
 ·rw[show R.set ((2:Nat):Int) v=(⟨R.r0,R.r1,v,R.r3,R.r4,R.r5,R.r6,R.r7⟩:Rg)from rfl]
  exact Us42
 ·rw[show R.set ((3:Nat):Int) v=(⟨R.r0,R.r1,R.r2,v,R.r4,R.r5,R.r6,R.r7⟩:Rg)from rfl]
  exact Us42
 ·rw[show R.set ((4:Nat):Int) v=(⟨R.r0,R.r1,R.r2,R.r3,v,R.r5,R.r6,R.r7⟩:Rg)from rfl]
  exact Us42
 ·rw[show R.set ((5:Nat):Int) v=(⟨R.r0,R.r1,R.r2,R.r3,R.r4,v,R.r6,R.r7⟩:Rg)from rfl]
  exact Us42
 ·rw[show R.set ((6:Nat):Int) v=(⟨R.r0,R.r1,R.r2,R.r3,R.r4,R.r5,v,R.r7⟩:Rg)from rfl]
  exact Us42
 ·rw[show R.set ((7:Nat):Int) v=(⟨R.r0,R.r1,R.r2,R.r3,R.r4,R.r5,R.r6,v⟩:Rg)from rfl]
  exact Us42
theorem Nb(R:Rg)(k:Nat)(hk:k<8):∃u,R.arr[k]? =some u:=by
 have e:k=0∨k=1∨k=2∨k=3∨k=4∨k=5∨k=6∨k=7:=by omega
 rcases e with rfl|rfl|rfl|rfl|rfl|rfl|rfl|rfl<;>exact⟨_,rfl⟩
structure oJ(w:World)(g g1 g2 g3 g4:Nat)(X:Array Value)(R F:Rg)(W:World):Prop where
 bw:Below w.heap.size w W
 x:∀i,W.cell? ⟨g,i,none⟩=X[i]?
 p:∀i,W.cell? ⟨g1,i,none⟩=R.arr[i]?
 y:∀i,W.cell? ⟨g2,i,none⟩=Z8[i]?
 z:∀i,W.cell? ⟨g3,i,none⟩=Z5[i]?
 f:∀i,W.cell? ⟨g4,i,none⟩=F.arr[i]?
 uY:∀n,W.frozen? ⟨g2,n,none⟩=false
 yw:∀n,W.frozen? ⟨g3,n,none⟩=false
 EH:∀n,W.frozen? ⟨g4,n,none⟩=false
 b:w.heap.size<=g
 o1:g<g1
 o2:g1<g2
 o3:g2<g3
 o4:g3<g4
 l:g4<W.heap.size
theorem oJ.alloc{w W:World}{g g1 g2 g3 g4:Nat}{X:Array Value}{R F:Rg}(h:oJ w g g1 g2 g3 g4 X R F W)(o:Obj):oJ w g g1 g2 g3 g4 X R F (W.alloc o):=
 have q1:=h.o1;have q2:=h.o2;have q3:=h.o3;have q4:=h.o4;have ql:=h.l
 {bw:=h.bw.alloc h.bw.size o
  x:=λi=>(World.cell?_alloc_lt W o _ (by show g<_;omega)).trans (h.x i)
  p:=λi=>(World.cell?_alloc_lt W o _ (by show g1<_;omega)).trans (h.p i)
  y:=λi=>(World.cell?_alloc_lt W o _ (by show g2<_;omega)).trans (h.y i)
  z:=λi=>(World.cell?_alloc_lt W o _ (by show g3<_;omega)).trans (h.z i)
  f:=λi=>(World.cell?_alloc_lt W o _ (by show g4<_;omega)).trans (h.f i)
  uY:=λn=>(World.frozen?_alloc_past o _ _ U2).trans (h.uY n)
  yw:=λn=>(World.frozen?_alloc_past o _ _ U2).trans (h.yw n)
  EH:=λn=>(World.frozen?_alloc_past o _ _ U2).trans (h.EH n)
  b:=h.b,o1:=q1,o2:=q2,o3:=q3,o4:=q4
  l:=by simp;omega}
theorem oJ.drew{w W:World}{g g1 g2 g3 g4:Nat}{X:Array Value}{R F:Rg}(h:oJ w g g1 g2 g3 g4 X R F W):oJ w g g1 g2 g3 g4 X R F W.drew:=
 {bw:=h.bw.drew,x:=h.x,p:=h.p,y:=h.y,z:=h.z,f:=h.f,uY:=h.uY,yw:=h.yw,EH:=h.EH,b:=h.b,o1:=h.o1,o2:=h.o2,o3:=h.o3,o4:=h.o4,l:=h.l}
theorem oJ.drewN{w W:World}{g g1 g2 g3 g4:Nat}{X:Array Value}{R F:Rg}(h:oJ w g g1 g2 g3 g4 X R F W)(n:Nat):oJ w g g1 g2 g3 g4 X R F (W.drewN n):=
 {bw:=below_drewN h.bw n,x:=h.x,p:=h.p,y:=h.y,z:=h.z,f:=h.f,uY:=h.uY,yw:=h.yw,EH:=h.EH,b:=h.b,o1:=h.o1,o2:=h.o2,o3:=h.o3,o4:=h.o4,l:=h.l}
theorem oJ.set{w W:World}{g g1 g2 g3 g4:Nat}{X:Array Value}{R F:Rg}(h:oJ w g g1 g2 g3 g4 X R F W)(k:Nat)(hk:k<8)(v:Int):
  oJ w g g1 g2 g3 g4 X R (F.set k v) (W.setCell ⟨g4,k,none⟩ ↑v):=
 have q1:=h.o1;have q2:=h.o2;have q3:=h.o3;have q4:=h.o4;have ql:=h.l;have qb:=h.b
 {bw:=h.bw.setCell (p:=⟨g4,k,none⟩) (by show _<=g4;omega) _
  x:=λi=>(World.cell?_setCell_far W _ _ _ (by show g4≠g;omega)).trans (h.x i)
  p:=λi=>(World.cell?_setCell_far W _ _ _ (by show g4≠g1;omega)).trans (h.p i)
  y:=λi=>(World.cell?_setCell_far W _ _ _ (by show g4≠g2;omega)).trans (h.y i)
  z:=λi=>(World.cell?_setCell_far W _ _ _ (by show g4≠g3;omega)).trans (h.z i)
  f:=λi=>by
   rw[Jk F k hk v i]
   by_cases e:i=k
   ·subst e
    obtain⟨u,hu⟩:=Nb F i hk;rw[if_pos rfl]
    exact World.cell?_setCell_same _ _ _ ((h.f i).trans hu)
   ·rw[if_neg e]
    exact(World.cell?_setCell_other _ _ _ _ U9).trans (h.f i)
  uY:=λn=>by rw[World.frozen?_setCell];exact h.uY n
  yw:=λn=>by rw[World.frozen?_setCell];exact h.yw n
  EH:=λn=>by rw[World.frozen?_setCell];exact h.EH n
  b:=qb,o1:=q1,o2:=q2,o3:=q3,o4:=q4
  l:=by simp;omega}
theorem oJ.born(w:World)(X:Array Value)(R:Rg)(t t1 t2 t3 t4:TypeId):
  oJ w w.heap.size (w.heap.size+1) (w.heap.size+1+1) (w.heap.size+1+1+1) (w.heap.size+1+1+1+1) X R R
   (((((w.alloc (.cells X t)).alloc (.cells R.arr t1)).alloc (.cells Z8 t2)).alloc (.cells Z5 t3)).alloc (.cells R.arr t4)):=
 {bw:=(((((Below.refl _ _).alloc (Nat.le_refl _) _).alloc U8 _).alloc U41 _).alloc U41 _).alloc U41 _
  x:=λi=>by rw[World.cell?_alloc_lt _ _ _ U9,World.cell?_alloc_lt _ _ _ U9,World.cell?_alloc_lt _ _ _ U9,World.cell?_alloc_lt _ _ _ U9];exact cell_new _ _ _ _ _ rfl
  p:=λi=>by rw[World.cell?_alloc_lt _ _ _ U9,World.cell?_alloc_lt _ _ _ U9,World.cell?_alloc_lt _ _ _ U9];exact cell_new _ _ _ _ _ U8
  y:=λi=>by rw[World.cell?_alloc_lt _ _ _ U9,World.cell?_alloc_lt _ _ _ U9];exact cell_new _ _ _ _ _ U8
  z:=λi=>by rw[World.cell?_alloc_lt _ _ _ U9];exact cell_new _ _ _ _ _ U8
  f:=λi=>cell_new _ _ _ _ _ U8
  uY:=λn=>by rw[World.frozen?_alloc_past _ _ _ U9,World.frozen?_alloc_past _ _ _ U9];exact World.frozen?_alloc_at _ _ _ _ U8
  yw:=λn=>by rw[World.frozen?_alloc_past _ _ _ U9];exact World.frozen?_alloc_at _ _ _ _ U8
  EH:=λn=>World.frozen?_alloc_at _ _ _ _ U8
  b:=Nat.le_refl _,o1:=by omega,o2:=by omega,o3:=by omega,o4:=by omega
  l:=by simp}
def faults(op c:Int):Bool:=decide (3<=op/\op<=12)&&Eg op c !=0
def Jf(op A B pc a:Int):Int:=if op=18 then A else if op=19/\a=0 then B else wrap64 (pc+1)
def NV(op A B:Int)(R:Rg)(b c:Int):Rg:=
 if op=1 then R.set (Sj A) B else if op=2 then R.set (Sj A) b else if 3<=op/\op<=12 then R.set (Sj A) (JM op b c)else R
def vG(op A B C pc:Int)(R:Rg):Int:=if faults op (R.at C)=true then pc else Jf op A B pc (R.at A)
def lN(op A B C:Int)(R:Rg):Rg:=if faults op (R.at C)=true then R else NV op A B R (R.at B) (R.at C)
def lM(op A B C:Int)(R:Rg):Ef:=if faults op (R.at C)=true then rO else yM op A (R.at A) (R.at B) (R.at C) (Sj A)
def uw(op C:Int)(R:Rg):Int:=if faults op (R.at C)=true then Eg op (R.at C)else 0
end Go.Proofs.YteiignfflbmafaaGreat.Sp
