/- TopOne, part 26. -/
import Derived.Test.YteiignfflbmafaaGreatQ25
set_option linter.unusedVariables false
set_option linter.unusedSimpArgs false
set_option maxRecDepth 100000
set_option maxHeartbeats 8000000
namespace Go.Proofs.YteiignfflbmafaaGreat.Tp
open Go.Proofs.Tryz
open Go.RowKit Go.Proofs.YteiignfflbmafaaGreat.Tok
theorem Us73 {p:Prop} (h:p:=by
 have itb:(xi==yi)=false:=by simp[it]
 go_quiet (fail)
 all_goals go_wp2_with fail
 all_goals go_meet
 all_goals exact⟨by rw[LEq.out];simp[it],_,rfl⟩):p:=h
theorem Us46 {p:Prop} (h:p:=by
 go_quiet (fail)
 have CY:=Hd (below_drewN CY.out nq);generalize w3.drewN nq=w4 at*;go_wp2_with fail
 go_roundw
 case rel=>exact⟨j+1,J1,by rw[LS.out],by rw[FS.o,FEq.out];simp[it],by rw[BS.o],by first|rw[hwj]|simp,CY.out⟩
 case measure=>first|exact M3.out|(rw[hwj];simpa using M3.out)):p:=h
theorem Us26 {p:Prop} (h:p:=by
 go_quiet (fail)
 all_goals go_wp2_with fail
 all_goals go_meet
 all_goals exact⟨by rw[LEq.out];simp,_,rfl⟩):p:=h
theorem Us14 {p:Prop} (h:p:=by
 go_quiet (fail)
 have CY:=Hd (below_drewN CY.out nq);generalize w3.drewN nq=w4 at*;go_wp2_with fail
 go_roundw
 case rel=>exact⟨j+1,J1,by rw[LS.out],by rw[FS.o,FEq.out];simp,by rw[BS.o],by first|rw[hwj]|simp,CY.out⟩
 case measure=>first|exact M3.out|(rw[hwj];simpa using M3.out)):p:=h
theorem yY(w:World)(v:Value)(l:List Ev)(h:fJ w v l)(hn:l.length<=1000000)(hl:cZ l):Cs 15 #[v,(1:Int)] w (.bool true) λw'=>Below w.heap.size w w':=by
 have ha:=h;obtain⟨A,cap,rfl,hc⟩:=ha;have HE:=Hd (λw2 (b:Below w.heap.size w w2)=>h.ai b nr);have HN:=Hd hn;have HL:=Hd hl;clear h hc hn hl;go_enter func15,ntmps15;go_wp2_with fail
 go_loopw [5] (λi wr=>∃k:Nat,k<=l.length/\i=.int .i64 k/\Below w.heap.size w wr) (λi _=>l.length-(intOf i).toNat)
 case atStart=>exact⟨0,n0 _,rfl,Below.refl _ _⟩
 case round=>
  obtain⟨i,hi,rfl,C⟩:=hrel
  by_cases hlt:i<l.length
  ·have hw:wrap64 ((i:Int)+1)=((i+1:Nat):Int):=iN hlt HN.o
   have hlt':(i:Int)<(l.length:Int):=jJ hlt;obtain⟨b,o,rfl,q0,q1,q2⟩:=(HE.o wr C).at_ i hlt;have M2:=Hd (iM hlt);have K1:i+1<=l.length:=hlt;have CX:=Hd C;have HT:=Hd hlt;have SO:=Hd (λ(z:(jK l i).kind=1)=>(by have e:=oV hlt;rw[e]at z⊢;exact yZ HL.o i hlt z:je l (jK l i) i=(jK l i).iter/\iC l (jK l i) i=true/\mI l (jK l i) i=true/\0<=(jK l i).iter/\(jK l i).iter<=i));clear C hi;clear hlt;generalize hy:jK l i=y at*;generalize hln:l.length=n at*
   by_cases k1:y.kind=1
   case neg=>
    go_wp2_with fail
    go_roundw
    case rel=>exact⟨i+1,K1,by first|rw[hw]|simp,CX.out⟩
    case measure=>first|exact M2.out|(rw[hw];simpa using M2.out)
   obtain⟨s1,s2,s3,s4,s5⟩:=SO.out k1;rw[k1]at q0;have S1:=Hd s1;have S2:=Hd s2;have S3:=Hd s3;have WI:wrap64 (y.iter-1)=y.iter-1:=QO ⟨s4,s5⟩ HT.o HN.o;clear s1 s2 s3 s4 s5 SO;go_upto_region 5 with fail
   go_quiet (fail)
   have CX:=Hd (below_drewN CX.out nq);replace q0:(wr.drewN nq).cell? ⟨b,o+i*4,none⟩=some (.int .i64 1):=q0;replace q1:(wr.drewN nq).cell? ⟨b,o+i*4+1,none⟩=some ↑y.loop:=q1;replace q2:(wr.drewN nq).cell? ⟨b,o+i*4+2,none⟩=some ↑y.iter:=q2;generalize wr.drewN nq=w1 at*;go_wp2_with fail
   go_loopw [6,7,8,9] (λa f c k wr=>∃j:Nat,j<=i/\a=.bool (iC l y j)/\f=.bool (mI l y j)/\c=.int .i64 (je l y j)/\k=.int .i64 j/\Below w.heap.size w wr) (λ_ _ _ k _=>i-(intOf k).toNat)
   case atStart=>exact⟨0,n0 _,rfl,rfl,rfl,rfl,CX.out⟩
   case round=>
    obtain⟨j,hj,rfl,rfl,rfl,rfl,CJ⟩:=hrel
    by_cases hji:j<i
    ·have hwj:wrap64 ((j:Int)+1)=((j+1:Nat):Int):=iN hji (Nat.le_of_lt (nL HT.o HN.o))
     have hji':(j:Int)<(i:Int):=jJ hji;have M3:=Hd (iM hji);have J1:j+1<=i:=hji;have hjn:(j:Int)<(n:Int):=NY (Nat.lt_trans hji HT.o);obtain⟨_,_,e1,r0,r1,r2⟩:=(HE.o wr CJ).at_ j (by rw[hln];exact Nat.lt_trans hji HT.o)
     cases e1
     obtain⟨_,_,e1,q0,q1,q2⟩:=(HE.o wr CJ).at_ i U112
     cases e1
     rw[hy]at q0 q1 q2;rw[k1]at q0;have CY:=Hd CJ;have BW:=Hd (QN (Jl l y j i (Nat.le_of_lt hji) U112) HT.o HN.o);have LS:=Hd (show iC l y (j+1)=if(jK l j).loop=y.loop then iC l y j||qH y (jK l j)else iC l y j from rfl)
     have FS:=Hd (show mI l y (j+1)=if(jK l j).loop=y.loop then mI l y j||Ex y (jK l j)else mI l y j from rfl)
     have BS:=Hd (show je l y (j+1)=if(jK l j).loop=y.loop then(if(jK l j).kind=1 then je l y j+1 else je l y j)else je l y j from rfl);clear CJ hj S1 S2 S3 hy;clear hji;generalize jK l j=x at*;generalize iC l y j=A at*;generalize mI l y j=F at*;generalize je l y j=Bf at*;obtain⟨xk,xl,xi,xs⟩:=x;dsimp only at r0 r1 r2 LS FS BS;have LEq:=Hd (show qH y ⟨xk,xl,xi,xs⟩=(decide (xi=y.iter-1)&&(decide (xk=3)||decide (xk=6)||decide (xk=4)))from rfl)
     have FEq:=Hd (show Ex y ⟨xk,xl,xi,xs⟩=(decide (xi=y.iter-1)&&decide (xk=4))from rfl);have WI2:=WI;clear WI;obtain⟨yi,hyi⟩:∃z,y.iter-1=z:=⟨_,rfl⟩;rw[hyi]at LEq FEq;have WI:wrap64 (y.iter-1)=yi:=WI2.trans hyi;have WIk:IntKind.i64.wrap (y.iter-1)=yi:=Py WI;clear WI2 hyi;generalize hyl:y.loop=yl at*;clear hyl;go_upto_region 9 with fail
     go_quiet (fail)
     have CY:=Hd (below_drewN CY.out nq);replace q0:(wr.drewN nq).cell? ⟨b,o+i*4,none⟩=some (.int .i64 1):=q0;replace q1:(wr.drewN nq).cell? ⟨b,o+i*4+1,none⟩=some ↑yl:=q1;replace q2:(wr.drewN nq).cell? ⟨b,o+i*4+2,none⟩=some ↑y.iter:=q2;replace r0:(wr.drewN nq).cell? ⟨b,o+j*4,none⟩=some ↑xk:=r0;replace r1:(wr.drewN nq).cell? ⟨b,o+j*4+1,none⟩=some ↑xl:=r1;replace r2:(wr.drewN nq).cell? ⟨b,o+j*4+2,none⟩=some ↑xi:=r2;generalize wr.drewN nq=w2 at*;clear nq
     by_cases lp:xl=yl
     case neg=>
      rw[if_neg lp]at LS FS BS;go_wp2_with fail
      go_roundw
      case rel=>exact⟨j+1,J1,by rw[LS.out],by rw[FS.o],by rw[BS.o],by first|rw[hwj]|simp,CY.out⟩
      case measure=>first|exact M3.out|(rw[hwj];simpa using M3.out)
     rw[if_pos lp]at LS FS BS;subst lp
     by_cases kx:xk=1
     ·rw[if_pos kx]at BS
      subst kx;have bw:=BW.o;clear BW;go_upto_region 12 with fail;rw[<-bw]at BS;clear bw;generalize wrap64 (Bf+1)=B1 at*;simp only[bne_self_eq_false]
      go_cut [6]from 59 to 97 (λs wx=>s=.bool (A||qH y ⟨1,xl,xi,xs⟩)/\∃nq,wx=w2.drewN nq)
      case first=>
       cases A with
       |true=>
        exact Us26
       |false=>
        by_cases it:xi=yi
        ·subst it
         exact Us26
        ·exact Us73
      case rest=>
       obtain⟨rfl,nq,rfl⟩:=hcut;have CY:=Hd (below_drewN CY.out nq);replace q0:(w2.drewN nq).cell? ⟨b,o+i*4,none⟩=some (.int .i64 1):=q0;replace q1:(w2.drewN nq).cell? ⟨b,o+i*4+1,none⟩=some ↑xl:=q1;replace q2:(w2.drewN nq).cell? ⟨b,o+i*4+2,none⟩=some ↑y.iter:=q2;replace r0:(w2.drewN nq).cell? ⟨b,o+j*4,none⟩=some (.int .i64 1):=r0;replace r1:(w2.drewN nq).cell? ⟨b,o+j*4+1,none⟩=some ↑xl:=r1;replace r2:(w2.drewN nq).cell? ⟨b,o+j*4+2,none⟩=some ↑xi:=r2;generalize w2.drewN nq=w3 at*;clear nq;go_upto_region 13 with fail
       cases F with
       |true=>
        exact Us14
       |false=>
        by_cases it:xi=yi
        ·subst it
         exact Us14
        ·exact Us46
     ·rw[if_neg kx]at BS
      clear BW;have kz:(xk==1)=false:=by simp[kx]
      go_upto_region 12 with fail;clear kz;simp only[bne_self_eq_false]
      go_cut [6]from 59 to 97 (λs wx=>s=.bool (A||qH y ⟨xk,xl,xi,xs⟩)/\∃nq,wx=w2.drewN nq)
      case first=>
       cases A with
       |true=>
        exact Us26
       |false=>
        by_cases it:xi=yi
        ·subst it
         by_cases k3:xk=3
         ·subst k3
          exact Us26
         by_cases k6:xk=6
         ·subst k6
          exact Us26
         by_cases k4:xk=4
         ·subst k4
          exact Us26
         go_quiet (fail)
         all_goals go_wp2_with fail
         all_goals go_meet
         all_goals exact⟨by rw[LEq.out];simp[k3,k6,k4],_,rfl⟩
        ·exact Us73
      case rest=>
       obtain⟨rfl,nq,rfl⟩:=hcut;have CY:=Hd (below_drewN CY.out nq);replace q0:(w2.drewN nq).cell? ⟨b,o+i*4,none⟩=some (.int .i64 1):=q0;replace q1:(w2.drewN nq).cell? ⟨b,o+i*4+1,none⟩=some ↑xl:=q1;replace q2:(w2.drewN nq).cell? ⟨b,o+i*4+2,none⟩=some ↑y.iter:=q2;replace r0:(w2.drewN nq).cell? ⟨b,o+j*4,none⟩=some ↑xk:=r0;replace r1:(w2.drewN nq).cell? ⟨b,o+j*4+1,none⟩=some ↑xl:=r1;replace r2:(w2.drewN nq).cell? ⟨b,o+j*4+2,none⟩=some ↑xi:=r2;generalize w2.drewN nq=w3 at*;clear nq;go_upto_region 13 with fail
       cases F with
       |true=>
        exact Us14
       |false=>
        by_cases it:xi=yi
        ·subst it
         by_cases k4:xk=4
         ·subst k4
          exact Us14
         go_quiet (fail)
         have CY:=Hd (below_drewN CY.out nq);generalize w3.drewN nq=w4 at*;go_wp2_with fail
         go_roundw
         case rel=>exact⟨j+1,J1,by rw[LS.out],by rw[FS.o,FEq.out];simp[k4],by rw[BS.o],by first|rw[hwj]|simp,CY.out⟩
         case measure=>first|exact M3.out|(rw[hwj];simpa using M3.out)
        ·exact Us46
    ·obtain rfl:j=i:=Nat.le_antisymm hj (Nat.le_of_not_lt hji)
     have hge:¬((j:Int)<(j:Int)):=Int.lt_irrefl _;obtain⟨_,_,e1,q0,q1,q2⟩:=(HE.o wr CJ).at_ j U112
     cases e1
     rw[hy]at q0 q1 q2;rw[k1]at q0;rw[S1.out,S2.out,S3.out];have CY:=Hd CJ;clear CJ hj hji hy
     exact Us76
  ·obtain rfl:i=l.length:=Nat.le_antisymm hi (Nat.le_of_not_lt hlt)
   have hge:¬((l.length:Int)<(l.length:Int)):=Int.lt_irrefl _;have CX:=Hd C;clear C;go_wp2_with fail
   go_ret
   exact⟨rfl,CX.out⟩
end Go.Proofs.YteiignfflbmafaaGreat.Tp
