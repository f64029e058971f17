/- TopOne, part 22. -/
import Derived.Test.YteiignfflbmafaaGreatQ21
import Derived.WalkHide
set_option linter.unusedVariables false
set_option linter.unusedSimpArgs false
set_option maxRecDepth 100000
set_option maxHeartbeats 8000000
namespace Go.Proofs.YteiignfflbmafaaGreat.Tp
open Go.Proofs.Tryz
open Go.RowKit Go.Proofs.YteiignfflbmafaaGreat.Tok
theorem Us80 {p:Prop} (h:p:=by
 clear b1;go_enter func75,ntmps75;go_wp2_with fail
 go_ret
 exact⟨⟨_,rfl⟩,B1⟩):p:=h
theorem Us79 {p:Prop} (h:p:=by
 clear bx;go_enter func121,ntmps121;go_wp2_with fail
 go_ret
 exact⟨⟨_,rfl⟩,B1⟩):p:=h
theorem Us66 {p:Prop} (h:p:=by
 go_wp2_with fail
 go_ret
 exact⟨⟨_,rfl⟩,by first|exact HB3.o|(rw[hg];exact HB3.o)⟩):p:=h
theorem Us50 {p:Prop} (h:p:=by
 go_wp2_with fail
 go_ret
 exact⟨⟨_,rfl⟩,by first|exact HB.o|(rw[hg];exact HB.o)⟩):p:=h
theorem Us48 {p:Prop} (h:p:=by
 go_wp2_with fail
 go_roundw
 case rel=>exact⟨k+1,K1,by first|rw[hw]|simp,HB4.o⟩
 case measure=>first|exact M2.out|(rw[hw];simpa using M2.out)):p:=h
theorem Us16 {p:Prop} (h:p:=by
 go_quiet (fail)
 all_goals go_wp2_with fail
 all_goals go_meet
 all_goals exact⟨⟨_,rfl⟩,⟨_,rfl⟩⟩):p:=h
theorem Gm(s:ByteArray)(w:World):Calls prog 201 #[.string s] w λev w'=>∃a b:Int,ev=.returned (.tuple #[a,b])/\w=w':=by
 go_enter func201,ntmps201;go_wp2_with fail
 ·exact bodyPost_ret (v:=.tuple #[(0:Int),(7:Int)]) U43 rfl ⟨_,_,rfl,rfl⟩
 ·exact bodyPost_ret (v:=.tuple #[(0:Int),(15:Int)]) U43 rfl ⟨_,_,rfl,rfl⟩
 ·exact bodyPost_ret (v:=.tuple #[(0:Int),(199:Int)]) U43 rfl ⟨_,_,rfl,rfl⟩
 ·exact bodyPost_ret (v:=.tuple #[.int .i64 (-32768),(32767:Int)]) U43 rfl ⟨_,_,rfl,rfl⟩
def Mh(e:Ending):Prop:=∃r:Bool,e=.returned (.bool r)
theorem CP(a b c d:Int)(w:World):Calls prog 76 #[.agg #[a,b,c,d]] w λev w'=>Mh ev/\Below w.heap.size w w':=by
 have B:=(Below.refl w.heap.size w).alloc nr (.cells #[a,b,c,d] 167)
 by_cases h1:1<=a
 case neg=>go_enter func76,ntmps76;go_wp2_with fail;go_ret;exact⟨⟨_,rfl⟩,B⟩
 by_cases h2:a<=64
 case neg=>go_enter func76,ntmps76;go_wp2_with fail;go_ret;exact⟨⟨_,rfl⟩,B⟩
 by_cases h3:1<=b
 case neg=>go_enter func76,ntmps76;go_wp2_with fail;go_ret;exact⟨⟨_,rfl⟩,B⟩
 by_cases h4:b<=256
 case neg=>go_enter func76,ntmps76;go_wp2_with fail;go_ret;exact⟨⟨_,rfl⟩,B⟩
 by_cases h5:1<=c
 case neg=>go_enter func76,ntmps76;go_wp2_with fail;go_ret;exact⟨⟨_,rfl⟩,B⟩
 by_cases h6:c<=64
 case neg=>go_enter func76,ntmps76;go_wp2_with fail;go_ret;exact⟨⟨_,rfl⟩,B⟩
 by_cases h7:2<=d
 case neg=>go_enter func76,ntmps76;go_wp2_with fail;go_ret;exact⟨⟨_,rfl⟩,B⟩
 go_enter func76,ntmps76;go_wp2_with fail;go_ret;exact⟨⟨_,rfl⟩,B⟩
theorem Gn(op:Int)(h:0<=op/\op<=25)(w:World):Calls prog 200 #[op] w λev w'=>(∃s:ByteArray,ev=.returned (.string s)/\s.size<=3)/\Below w.heap.size w w':=by
 have c1:Hid (∀w,Calls prog 258 #[] w λev w'=>∃g,ev=.returned (.slice (some ⟨g,0,none⟩) 26 26)/\(∀k,k<26->∃s:ByteArray,w'.cell? ⟨g,k,none⟩=some (.string s)/\s.size<=3)/\Below w.heap.size w w'):=Hd (λw=>by
  go_enter func258,ntmps258;go_wp2_with fail
  go_ret
  refine⟨_,rfl,λk hk=>?_,Ba _⟩;have q:k=0∨k=1∨k=2∨k=3∨k=4∨k=5∨k=6∨k=7∨k=8∨k=9∨k=10∨k=11∨k=12∨k=13∨k=14∨k=15∨k=16∨k=17∨k=18∨k=19∨k=20∨k=21∨k=22∨k=23∨k=24∨k=25:=by omega
  clear hk
  rcases q with rfl|rfl|rfl|rfl|rfl|rfl|rfl|rfl|rfl|rfl|rfl|rfl|rfl|rfl|rfl|rfl|rfl|rfl|rfl|rfl|rfl|rfl|rfl|rfl|rfl|rfl
  all_goals exact⟨_,(af.new w _ _ _ rfl).cell _,by decide⟩)
 obtain⟨h1,h2⟩:=h;obtain⟨n,rfl⟩:=Int.eq_ofNat_of_zero_le h1;have hn:n<26:=by omega
 have d1:¬((n:Int)<0):=by omega
 have d2:¬((25:Int)<(n:Int)):=by omega
 have d3:(n:Int)<26:=by omega
 clear h1 h2;go_enter func200,ntmps200
 go_wp2_with (go_at_call 258;refine(c1.o _).mono ?_;rintro ev w1 ⟨g,rfl,hg,hb⟩;obtain⟨s,hs,h3⟩:=hg n hn)
 go_ret
 exact⟨⟨s,rfl,h3⟩,hb⟩
theorem KR(x:Is)(w:World):Calls prog 121 #[x.v] w λev w'=>(∃e:Int,ev=.returned ↑e)/\Below w.heap.size w w':=by
 obtain⟨o,a,b,c⟩:=x;unfold Is.v;dsimp only;have bx:=af.new w #[o,a,b,c] 109 _ rfl;have B1:Below w.heap.size w (w.alloc (.cells #[o,a,b,c] 109)):=Ba _
 by_cases h1:o<0
 ·exact Us79
 by_cases h2:25<o
 ·exact Us79
 have c1:=Hd (λw=>Gn o U2 w);have c2:=Hd (λs w=>Gm s w);go_enter func121,ntmps121;go_upto_region 1 with fail;generalize w.alloc (.cells #[o,a,b,c] 109)=W at*;generalize hg:w.heap.size=g at*;have x0:=bx.c0
 go_upto_region 4 with(go_at_call 200;refine(c1.o _).mono ?_;rintro ev w1 ⟨⟨s,rfl,hs⟩,Sr⟩)
 have B2:Below g w w1:=B1.trans (Sr.mono (Nat.le_of_lt bx.lt));have bx:=bx.below Sr bx.lt;have y1:=bx.c1;have y2:=bx.c2;have y3:=bx.c3;have l1:g<=w1.heap.size:=Nat.le_of_lt bx.lt;go_upto_region 5 with fail;have HB:=Hd (B2.alloc l1 (.cells #[a,b,c] 3));have HZ:Hid (∀k,k<3->∃x:Int,(w1.alloc (.cells #[a,b,c] 3)).cell? ⟨w1.heap.size,k,none⟩=some ↑x):=Hd (λk hk=>by
  have q:k=0∨k=1∨k=2:=by omega
  rcases q with rfl|rfl|rfl<;>exact⟨_,(af.new w1 _ _ _ rfl).cell _⟩)
 clear B2 bx y1 y2 y3 l1 x0 Sr B1 c1;generalize w1.alloc (.cells #[a,b,c] 3)=W2 at*;generalize w1.heap.size=q at*;generalize hn:s.size=n at*;go_wp2_with fail
 go_loopw [5] (λi wr=>∃k:Nat,k<=n/\i=.int .i64 k/\wr=W2) (λi _=>n-(intOf i).toNat)
 case atStart=>exact⟨0,n0 _,rfl,rfl⟩
 case round=>
  obtain⟨k,hk,rfl,rfl⟩:=hrel
  by_cases hlt:k<n
  ·have hw:wrap64 ((k:Int)+1)=((k+1:Nat):Int):=iN hlt U2
   have hlt':(k:Int)<(n:Int):=jJ hlt;obtain⟨x,hx⟩:=HZ.o k U2;have M2:=Hd (iM hlt);have K1:k+1<=n:=hlt;have k3:(k:Int)<3:=by omega
   go_upto_region 9 with(go_at_call 201;refine(c2.o _ _).mono ?_;rintro ev w1 ⟨le,ge,rfl,rfl⟩)
   clear hlt
   by_cases d1:x<le
   ·exact Us50
   by_cases d2:ge<x
   ·exact Us50
   go_wp2_with fail
   go_roundw
   case rel=>exact⟨k+1,K1,by first|rw[hw]|simp,by first|rfl|trivial⟩
   case measure=>first|exact M2.out|(rw[hw];simpa using M2.out)
  ·obtain rfl:k=n:=Nat.le_antisymm hk (Nat.le_of_not_lt hlt)
   have hge:¬((k:Int)<(k:Int)):=Int.lt_irrefl _;go_wp2_with fail
   go_loopw [8] (λi wi=>∃m:Nat,m<=3/\i=.int .i64 m/\wi=wr) (λi _=>3-(intOf i).toNat)
   case atStart=>exact⟨k,by omega,rfl,rfl⟩
   case round=>
    obtain⟨m,hm,rfl,rfl⟩:=hrel
    by_cases hlt2:m<3
    ·have hw:wrap64 ((m:Int)+1)=((m+1:Nat):Int):=iN hlt2 U2
     have hlt':(m:Int)<3:=by omega
     obtain⟨x,hx⟩:=HZ.o m hlt2;have M2:=Hd (iM hlt2);have K1:m+1<=3:=hlt2;clear hlt2 hm
     by_cases d1:x=0
     ·subst d1
      go_wp2_with fail
      go_roundw
      case rel=>exact⟨m+1,K1,by first|rw[hw]|simp,by first|rfl|trivial⟩
      case measure=>first|exact M2.out|(rw[hw];simpa using M2.out)
     ·exact Us50
    ·obtain rfl:m=3:=by omega
     exact Us50
def PM(v:Value):Prop:=∃r:Bool,v=.bool r
theorem Qn{n:Nat}(h:0<n)(h2:(n:Int)<=200):wrap64 ((n:Int)-1)=((n-1:Nat):Int):=(xG _ U2).trans U2
theorem Ri{n:Nat}(h:0<n):(((n-1:Nat):Nat):Int)<(n:Int):=by omega
theorem Qm{n:Nat}{m:Int}(h:(n:Int)<=m)(hm:m<=1000000):n<=1000000:=by omega
theorem Ml{w W:World}{b g:Nat}{v:Value}{o:Nat}(h:w.cell? ⟨b,o,none⟩=some v)(B:Below g w W)(hg:w.heap.size=g):b<W.heap.size/\b<g:=by
 have h:=bL w _ h;have h:b<w.heap.size:=h
 have:=B.size
 omega
theorem Gy(w:World)(M:Int)(fv:Value)(code:List (List Is))(h:aP w fv code):Calls prog 75 #[.agg #[M,fv]] w λev w'=>(∃e:Int,ev=.returned ↑e)/\Below w.heap.size w w':=by
 obtain⟨A,cap,rfl,h1,h2,hc⟩:=h;have c1:=Hd (λn m w=>Gq n m w);have c2:=Hd (λx w=>KR x w);have b1:=af.new w #[M,.slice A code.length cap] 24 _ rfl;have B1:Below w.heap.size w (w.alloc (.cells #[M,.slice A code.length cap] 24)):=Ba _
 by_cases m1:M<0
 ·exact Us80
 by_cases m2:256<M
 ·exact Us80
 have HC:=Hd hc
 by_cases m0:fw code.length 16=0
 case neg=>
  have C1:=Hd (c1.o code.length 16);clear hc c1 b1;generalize fw code.length 16=e at*;go_enter func75,ntmps75
  go_wp2_with (go_at_call 120;refine(C1.out _).r ?_)
  go_ret
  exact⟨⟨_,rfl⟩,B1⟩
 have l16:=(nO m0).2;have CL:=Hd (Qm l16 U0);have C1:=Hd (c1.o code.length 16);rw[m0]at C1;clear m0 hc;go_enter func75,ntmps75;go_upto_region 1 with fail;generalize w.alloc (.cells #[M,.slice A code.length cap] 24)=W at*;generalize hg:w.heap.size=g at*;have x0:=b1.c0;have x1:=b1.c1
 go_wp2_with (go_at_call 120;refine(C1.out _).r ?_)
 go_loopw [4] (λi wr=>∃k:Nat,k<=code.length/\i=.int .i64 k/\Below W.heap.size W wr) (λi _=>code.length-(intOf i).toNat)
 case atStart=>exact⟨0,n0 _,rfl,Below.refl _ _⟩
 case round=>
  obtain⟨k,hk,rfl,hB⟩:=hrel;have HBW:=Hd (show Below g w wr from B1.trans (hB.mono (Nat.le_of_lt b1.lt)));have x1':wr.cell? ⟨g,1,none⟩=some (.slice A code.length cap):=kb hB b1.lt x1
  by_cases hlt:k<code.length
  ·have hw:wrap64 ((k:Int)+1)=((k+1:Nat):Int):=iN hlt CL.out
   have hlt':(k:Int)<(code.length:Int):=jJ hlt;obtain⟨b,o,rfl,q⟩:=HC.o (tX hlt);obtain⟨v',q1,q2⟩:=q k hlt;have q2:=(q2.ai (by rw[hg];exact B1)).ai hB;have q1:=kb hB (Ml q1 B1 hg).1 (kb B1 (Ml q1 B1 hg).2 q1);obtain⟨A',c',rfl⟩:=q2.form;have M2:=Hd (iM hlt);have K1:k+1<=code.length:=hlt;have HB:=Hd hB;have HI:=Hd q2;clear q2 hB HC q h1 h2 hk;generalize hx:code[k]=l at*;clear hx;clear hlt
   by_cases m0:fw l.length 200=0
   case neg=>
    have C1:=Hd (c1.o l.length 200);clear c1;generalize fw l.length 200=e at*
    go_wp2_with (go_at_call 120;refine(C1.out _).r ?_)
    go_ret
    exact⟨⟨_,rfl⟩,by first|exact HBW.o|(rw[hg];exact HBW.o)⟩
   obtain⟨l0,l200⟩:=nO m0;have C1:=Hd (c1.o l.length 200);rw[m0]at C1;clear c1 m0
   go_wp2_with (go_at_call 120;refine(C1.out _).r ?_)
   have gl:g<wr.heap.size:=bL _ _ x1';have hsub:wrap64 ((l.length:Int)-1)=((l.length-1:Nat):Int):=Qn l0 l200;have LL:=Hd (Qm l200 U0);have HBT:=Hd (λwi (hb:Below wr.heap.size wr wi)=>HB.o.trans (hb.mono HB.o.size))
   go_loopw [7] (λi wi=>∃j:Nat,j<=l.length/\i=.int .i64 j/\Below wr.heap.size wr wi) (λi _=>l.length-(intOf i).toNat)
   case atStart=>exact⟨0,n0 _,rfl,Below.refl _ _⟩
   case round=>
    obtain⟨j,hj,rfl,hB2⟩:=hrel;have x1':=kb hB2 gl x1'
    by_cases hlt:j<l.length
    ·have hw2:wrap64 ((j:Int)+1)=((j+1:Nat):Int):=iN hlt LL.out
     have hlt':(j:Int)<(l.length:Int):=jJ hlt;obtain⟨b2,o2,rfl,hb2,q0,q1,q2,q3⟩:=(HI.o.ai hB2).cell j hlt;have M3:=Hd (iM hlt);have K2:j+1<=l.length:=hlt;have HQ:=Hd (λw2 (hb:Below wr.heap.size wr w2)=>(⟨kb hb hb2 q0,kb hb hb2 q1,kb hb hb2 q2,kb hb (nL gl hB2.size) x1'⟩:w2.cell? ⟨b2,o2+j*4,none⟩=some (.int .i64 l[j].op)/\w2.cell? ⟨b2,o2+j*4+1,none⟩=some (.int .i64 l[j].a)/\w2.cell? ⟨b2,o2+j*4+2,none⟩=some (.int .i64 l[j].b)/\w2.cell? ⟨g,1,none⟩=some (.slice (some ⟨b,o,none⟩) code.length cap)));have HX:=Hd (λw2 (hb:Below wr.heap.size wr w2)=>hB2.trans (hb.mono hB2.size));have HY:=Hd (λw2 (hb:Below wr.heap.size wr w2)=>(show Below g w w2 from HBW.o.trans ((hB2.trans (hb.mono hB2.size)).mono (Nat.le_of_lt gl))));have C2:=Hd (c2.o l[j]);clear HI hB2 hj l200 l0 c2;generalize hx:l[j]=x at*;clear hx;clear hlt;obtain⟨o0,a0,b0,c0⟩:=x;unfold Is.v at C2;dsimp only at q0 q1 q2 q3 C2 HQ;generalize l.length=n at*
     go_upto_region 17 with(go_at_call 121;refine(C2.out _).mono ?_;rintro ev w2 ⟨⟨e,rfl⟩,hb⟩;have HB2:=Hd (HX.o _ hb);have HB3:=Hd (HY.o _ hb);obtain⟨r0,r1,r2,r3⟩:=HQ.o _ hb;clear hb)
     clear HX HY HQ
     by_cases e0:e=0
     case neg=>
      exact Us66
     subst e0;go_upto_region 19 with fail
     go_cut [117]from 57 to 117 (λs wx=>PM s/\∃nq,wx=w2.drewN nq)
     case first=>
      by_cases o18:o0=18
      ·subst o18
       by_cases d:(n:Int)<=a0
       ·exact Us16
       ·exact Us16
      by_cases o19:o0=19
      ·subst o19
       by_cases d:(n:Int)<=b0
       ·exact Us16
       ·exact Us16
      by_cases o20:o0=20
      ·subst o20
       by_cases d:(code.length:Int)<=a0
       ·exact Us16
       ·exact Us16
      by_cases o22:o0=22
      ·subst o22
       by_cases d:(code.length:Int)<=a0
       ·exact Us16
       ·exact Us16
      ·exact Us16
     case rest=>
      obtain⟨⟨r,rfl⟩,nq,rfl⟩:=hcut;have HB2:=Hd (Below.drewN HB2.o nq);have HB3:=Hd (Below.drewN HB3.o nq);generalize w2.drewN nq=w3 at*;clear r0 r1 r2 r3 q0 q1 q2 q3
      cases r with
      |true=>
       exact Us66
      |false=>
       go_wp2_with fail
       go_roundw
       case rel=>exact⟨j+1,K2,by first|rw[hw2]|simp,HB2.o⟩
       case measure=>first|exact M3.out|(rw[hw2];simpa using M3.out)
    ·obtain rfl:j=l.length:=Nat.le_antisymm hj (Nat.le_of_not_lt hlt)
     have hge:¬((l.length:Int)<(l.length:Int)):=Int.lt_irrefl _;have e0:l.length-1<l.length:=Nat.sub_lt l0 U0;obtain⟨b2,o2,rfl,hb2,q0,qa,qb,qc⟩:=(HI.o.ai hB2).cell (l.length-1) e0;have lm:(((l.length-1:Nat):Nat):Int)<(l.length:Int):=Ri l0;have HB3:=Hd (show Below g w wr from HBW.o.trans (hB2.mono (Nat.le_of_lt gl)));have HB4:=Hd (HBT.o _ hB2);clear HI hB2 c2 C1 hj hlt qa qb qc l200;generalize(l[l.length-1]'e0).op=op at*;clear e0;generalize l.length=n at*
     by_cases o1:op=0
     ·subst o1
      exact Us48
     by_cases o2:op=18
     ·subst o2
      exact Us48
     by_cases o3:op=25
     ·subst o3
      exact Us48
     have d1:(op !=0)=true:=by simp[o1]
     have d2:(op !=18)=true:=by simp[o2]
     have d3:(op !=25)=true:=by simp[o3]
     exact Us66
  ·obtain rfl:k=code.length:=Nat.le_antisymm hk (Nat.le_of_not_lt hlt)
   have hge:¬((code.length:Int)<(code.length:Int)):=Int.lt_irrefl _;clear HC c1 c2 C1;go_wp2_with fail
   go_ret
   exact⟨⟨_,rfl⟩,by first|exact HBW.o|(rw[hg];exact HBW.o)⟩
end Go.Proofs.YteiignfflbmafaaGreat.Tp
