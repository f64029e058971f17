/- TopOne, part 8. -/
import Derived.Test.YteiignfflbmafaaGreatQ7
set_option linter.unusedVariables false
set_option linter.unusedSimpArgs false
set_option maxRecDepth 100000
set_option maxHeartbeats 8000000
namespace Go.Proofs.YteiignfflbmafaaGreat.Tp
open Go.Proofs.Tryz
open Go.RowKit Go.Proofs.YteiignfflbmafaaGreat.Tok
variable {z:Lay} {l:List WS} {k:Nat} {w:World} {m:Co} {x:WS}
theorem Us44 {p:Prop} (h:p:=by
 have q3:=gB p h;have q4:(jc id 1 p.fr-1)*p.room<=(p.fr-1)*p.room:=Int.mul_le_mul_of_nonneg_right U2 q3.1;have q5:(p.fr-1)*p.room=p.fr*p.room-p.room:=by rw[Int.sub_mul];omega
 have q6:6<=p.room:=by unfold Pl.ok at h;unfold Pl.room;omega
 unfold Pl.frame at q0;unfold Pl.size at hL
 omega):p:=h
theorem jC(p:Pl)(h:p.ok)(id:Int)(L:List Int)(hL:(L.length:Int)=p.size):p.fN id<L.length:=by
 have q0:=kP p h id;have q1:=lJ id 1 p.fr U25;have q2:=jB p h
 exact Us44
theorem bX(p:Pl)(hp:p.ok)(id:Int)(w:World):
  Cs 129 #[p.v,id] w (.int .i64 (p.fN id)) λw'=>Below w.heap.size w w':=by
 rw[<-kP p hp]
 exact mJ p hp id w
theorem A1.rq(h:A1 z l k w m x)(id:Int):Cs 88 #[ptr (z.wq k),id] w (.tuple #[]) λw'=>A1 z l k w' m {x with Sa:=id,R8:=4}:=by
 have x1:=h.cell 1 _ rfl;have x2:=h.cell 2 _ rfl;have gz:=h.fz;have H:=Hd (((h).set 2 ↑id {x with Sa:=id} ⟨rfl,rfl,rfl,rfl,rfl⟩ (λ_ _ _ _ _ _=>rfl)).set 1 (.int .i64 4) {x with Sa:=id,R8:=4} ⟨rfl,rfl,rfl,rfl,rfl⟩ (λ_ _ _ _ _ _=>rfl));clear h;generalize z.wq k=q at*;go_enter func88,ntmps88;go_wp2_with fail
 go_end0
 exact⟨rfl,H.o⟩
theorem A1.uT(h:A1 z l k w m x)(id:Int):Cs 211 #[ptr (z.wq k),id] w (.tuple #[]) λw'=>A1 z l k w' m {x with Sa:=id,R8:=19}:=by
 have x1:=h.cell 1 _ rfl;have x2:=h.cell 2 _ rfl;have gz:=h.fz;have H:=Hd (((h).set 2 ↑id {x with Sa:=id} ⟨rfl,rfl,rfl,rfl,rfl⟩ (λ_ _ _ _ _ _=>rfl)).set 1 (.int .i64 19) {x with Sa:=id,R8:=19} ⟨rfl,rfl,rfl,rfl,rfl⟩ (λ_ _ _ _ _ _=>rfl));clear h;generalize z.wq k=q at*;go_enter func211,ntmps211;go_wp2_with fail
 go_end0
 exact⟨rfl,H.o⟩
theorem A1.aT(h:A1 z l k w m x)(i:Nat)(hi:m.ok i)(hx:x.Sa=i):Cs 139 #[ptr (z.wq k),ptr z.c] w (.pointer (some ⟨z.fr,19*i,none⟩)) λw'=>w=w':=by
 have x2:w.cell? ⟨z.wq k,2,none⟩=some ↑i:=h.cell 2 _ U21;have c1:=Hd (h.at_ i hi);clear h hi hx;generalize z.wq k=q at*;go_enter func139,ntmps139
 go_wp2_with (go_at_call 141;refine c1.o.r ?_)
 go_ret
 exact⟨rfl,rfl⟩
def WS.takes(x:WS)(id kind:Int):WS:=if kind=3 then{x with Sa:=id,R8:=19}else{x with Sa:=id,R8:=4}
theorem A1.uW(h:A1 z l k w m x)(i:Nat)(hi:m.ok i):Cs 135 #[ptr (z.wq k),ptr z.c,i] w (.tuple #[]) λw'=>A1 z l k w' m (x.takes i (m.fr i).kind):=by
 have c0:=Hd h.dZ;have c1:=Hd (h.RV i hi);have c2:=Hd (h.rq i);have c3:=Hd (h.uT i);have xk:w.cell? ⟨z.fr,19*i,none⟩=some (.int .i64 (m.fr i).kind):=h.frame i hi 0 U0 _ rfl;have HT:=Hd (show x.takes i (m.fr i).kind=if(m.fr i).kind=3 then{x with Sa:=i,R8:=19}else{x with Sa:=i,R8:=4}from rfl);generalize x.takes i (m.fr i).kind=X at*;clear h hi;generalize 19*i=P at*
 by_cases hk:(m.fr i).kind=3
 ·rw[if_pos hk]at HT
  rw[hk]at xk;clear hk;go_enter func135,ntmps135
  go_wp2_with (first|(go_at_call 34;refine c0.o.r ?_)|(go_at_call 210;refine c1.o.r ?_)|(go_at_call 211;refine c3.o.q λw1 h1=> ?_))
  (try simp only[Exit.inBlock,Exit.then]);refine bodyPost_ret (results_none rfl _ _ _) rfl ?_
  exact⟨rfl,HT.o▸h1⟩
 ·rw[if_neg hk]at HT
  have hk2:((m.fr i).kind==3)=false:=by simp[hk]
  generalize(m.fr i).kind=kd at*;go_enter func135,ntmps135
  go_wp2_with (first|(go_at_call 34;refine c0.o.r ?_)|(go_at_call 210;refine c1.o.r ?_)|(go_at_call 88;refine c2.o.q λw1 h1=> ?_))
  go_end0
  exact⟨rfl,HT.o▸h1⟩
theorem A1.Na(h:A1 z l k w m x):∃v,w.cell? ⟨z.wq k,5,none⟩=some v:=by
 obtain⟨bk,ov,gv,g,R,hk,⟨dv,tv,rv,pv,kv,nv,hb,_⟩,C⟩:=h.parts
 exact⟨_,hb.cell 5⟩
def WS.goes(x:WS)(p:Pl):WS:={x with Sa:=0,R8:=2,dq:=some (DW.pop p x.Sq x.tail)}
theorem A1.q9(h:A1 z l k w m x):Cs 146 #[ptr (z.wq k),ptr z.c] w (.tuple #[]) λw'=>A1 z l k w' m (x.goes m.pl):=by
 have x1:=h.cell 1 _ rfl;have x2:=h.cell 2 _ rfl;have gz:=h.fz;have H:=((h).set 2 (.int .i64 0) {x with Sa:=0} ⟨rfl,rfl,rfl,rfl,rfl⟩ (λ_ _ _ _ _ _=>rfl)).set 1 (.int .i64 2) {x with Sa:=0,R8:=2} ⟨rfl,rfl,rfl,rfl,rfl⟩ (λ_ _ _ _ _ _=>rfl);have K:=λ(w1 w3:World) (b1:Below ((w.setCell ⟨z.wq k,2,none⟩ (.int .i64 0)).setCell ⟨z.wq k,1,none⟩ (.int .i64 2)).heap.size ((w.setCell ⟨z.wq k,2,none⟩ (.int .i64 0)).setCell ⟨z.wq k,1,none⟩ (.int .i64 2)) w3) (b:Nat) (hb) (hO)=>H.yJ (w:=w3) b1 b hb (DW.pop m.pl x.Sq x.tail) hO;go_enter func146,ntmps146;go_upto_region 1 with fail;generalize(w.setCell ⟨z.wq k,2,none⟩ (.int .i64 0)).setCell ⟨z.wq k,1,none⟩ (.int .i64 2)=W at*;clear x1 x2 gz;have x0:W.cell? ⟨z.wq k,0,none⟩=some ↑x.Sq:=H.cell 0 _ rfl;have x3:W.cell? ⟨z.wq k,3,none⟩=some ↑x.tail:=H.cell 3 _ rfl;have l0:=H.lt;have c1:=Hd (λw h=>A1.fP (z:=z) (l:=l) (k:=k) (w:=w) (m:=m) (x:={x with Sa:=0,R8:=2}) h);have c2:=Hd (λw=>Eh m.pl.wk m.pl.fr m.pl.th m.pl.dq x.Sq x.tail w);have H0:=Hd H;unfold Pl.v at c1
 go_region_held3 (λw'=>w'.cell? ⟨z.wq k,0,none⟩=some ↑x.Sq/\w'.cell? ⟨z.wq k,3,none⟩=some ↑x.tail)
  (exact U159)
  (first|(go_at_call 91;refine(c1.o _ U4).q λw1 Sr=> ?_;have l1:=nL l0 Sr.size)|(go_at_call 218;refine(c2.o _).mono ?_;rintro ev w2 ⟨b,rfl,hO,hbn,hb2⟩;have l2:=nL l1 hb2.size;have B1:=(by first|exact Sr|exact(Below.refl _ W).drew.trans Sr|exact(Below.refl _ W).drew.drew.trans Sr:Below W.heap.size W w1);have B2:=(by first|exact B1.trans (hb2.mono B1.size)|exact B1.drew.trans (hb2.mono B1.size):Below W.heap.size W w2);have z2:=(H0.o.ai B2).fz;have y5:=(H0.o.ai B2).Na;obtain⟨v5,y5⟩:=y5))
 all_goals
  have Q:=K w1 w2 B2 b (nT B1.size hbn) hO;go_wp2_with fail
  go_end0
  exact⟨rfl,by first|exact Q|exact Q.drew⟩
theorem A1.sep(h:A1 z l k w m x):¬z.wq k=z.wd/\True:=by
 obtain⟨bk,ov,gv,g,R,hk,⟨dv,tv,rv,pv,kv,nv,hb,_⟩,C⟩:=h.parts
 exact⟨hb.ne C.RY.ws U0,trivial⟩
theorem A1.oN(h:A1 z l k w m x):¬z.wq k=z.fr/\¬z.fr=z.wq k:=by
 obtain⟨bk,ov,gv,g,R,hk,⟨dv,tv,rv,pv,kv,nv,hb,_⟩,C⟩:=h.parts
 exact⟨hb.ne C.frames U0,C.frames.ne hb U0⟩
def Co.leave(m:Co)(id:Int):Co:={m with RY:=m.RY.set (m.pl.fN id) (wrap64 (m.RY.getD (m.pl.fN id) 0+ -1))}
def Co.again(m:Co)(id:Int):Co:={m with RY:=m.RY.set (m.pl.fN id) 1}
def Co.spawn(m:Co)(id:Int):Co:={m with RY:=m.RY.set (m.pl.fN id) (wrap64 (m.RY.getD (m.pl.fN id) 0+1))}
def Co.last(m:Co)(id:Int):Bool:=m.RY.getD (m.pl.fN id) 0==1
theorem A1.Iu(h:A1 z l k w m x)(i:Nat)(hi:m.ok i)(hx:x.Sa=i):Cs 98 #[ptr (z.wq k),ptr z.c] w (.tuple #[]) λw'=>A1 z l k w' ((m.again i).ak i {m.fr i with az:=false}) {x with R8:=4}:=by
 have HI:=Hd hi;have HX:=Hd hx;have c1:=Hd (λw (h:A1 z l k w m x)=>h.fP);have c2:=Hd (λw=>bX m.pl h.bQ (i:Int) w);have c3:=Hd (λw hS=>sW w z.ws z.wd m.RY (m.pl.fN (i:Int)) (jC _ h.bQ (i:Int) m.RY h.bU) hS);have c4:=Hd (λw (h:A1 z l k w m x)=>h.aN);have H0:=Hd h;have l0:=h.lt;have xc:w.cell? ⟨z.wq k,2,none⟩=some (.int .i64 (i:Int)):=h.cell 2 _ U21;clear h hi hx;go_enter func98,ntmps98;go_upto_region 0 with fail
 go_region_held3 (λw'=>w'.cell? ⟨z.wq k,2,none⟩=some (.int .i64 (i:Int)))
  (exact U159)
  (first|(go_at_call 93;refine(c4.o _ U16).r ?_)|(go_at_call 91;refine(c1.o _ U4).q λw1 Sr=> ?_;have l1:=nL l0 Sr.size)|(go_at_call 129;refine(c2.o _).q λw2 hb2=> ?_;have l2:=nL l1 hb2.size;have B1:=(by first|exact Sr|exact(Below.refl _ w).drew.trans Sr|exact(Below.refl _ w).drew.drew.trans Sr:Below w.heap.size w w1);have B2:=(by first|exact B1.trans (hb2.mono B1.size)|exact B1.drew.trans (hb2.mono B1.size):Below w.heap.size w w2))|(go_at_call 152;refine(c3.o _ U29).mono ?_;rintro ev w3 ⟨rfl,s3,k3⟩;have nwq:=(λz1=>(H0.o.sep).1 z1:¬One z.wd (z.wq k));have l3:=nL l2 k3.size))
 all_goals
  have K3:Kept (One z.wd) w w3:=by first|exact(Kept.ob B2).trans k3|exact(Kept.ob B2).drew.trans k3
  have H3:A1 z l k w3 (m.again (i:Int)) x:=H0.o.aC _ s3 U8 K3;have z3:=H3.fz;have zf:=H3.sM;have y1:=H3.cell 1 _ rfl;have y5:=H3.frame i HI.o 12 U0 _ rfl;have H4:=(H3.aF i HI.o 12 U0 (.bool false) {m.fr i with az:=false} rfl).set 1 (.int .i64 4) {x with R8:=4} ⟨rfl,rfl,rfl,rfl,rfl⟩ (λ_ _ _ _ _ _=>rfl);have nf:=H3.oN;have c5:=Hd (λw (h:A1 z l k w (m.again i) x)=>h.aT i (show(m.again i).ok i from HI.o) HX.o)
  go_wp2_with (go_at_call 139;refine(c5.o _ U30).r ?_)
  go_end0
  exact⟨rfl,by first|exact H4|exact H4.drew⟩
theorem A1.Ih(h:A1 z l k w m x):Cs 100 #[ptr (z.wq k),ptr z.c] w (.tuple #[]) λw'=>(if m.last x.other=true then A1 z l k w' (m.leave x.other) {x with R8:=8}else A1 z l k w' (m.leave x.other) (x.goes m.pl)):=by
 have c1:=Hd (λw (h:A1 z l k w m x)=>h.fP);have c2:=Hd (λw=>bX m.pl h.bQ x.other w);have c3:=Hd (λw hS=>eG w z.ws z.wd m.RY (m.pl.fN x.other) (jC _ h.bQ x.other m.RY h.bU) hS);have c4:=Hd (λw (h:A1 z l k w m x)=>h.aN);have H0:=Hd h;have l0:=h.lt;have xc:w.cell? ⟨z.wq k,7,none⟩=some ↑x.other:=h.cell 7 _ rfl;have HLS:=Hd (show m.last x.other=(m.RY.getD (m.pl.fN x.other) 0==1)from rfl);rw[<-HLS.o]at c3
 cases hlast:m.last x.other
 all_goals
  rw[hlast]at c3;clear hlast HLS;simp only[if_true,if_false,Bool.false_eq_true,reduceIte];clear h;go_enter func100,ntmps100;go_upto_region 0 with fail
  go_region_held3 (λw'=>w'.cell? ⟨z.wq k,7,none⟩=some ↑x.other)
   (exact U159)
   (first|(go_at_call 93;refine(c4.o _ U16).r ?_)|(go_at_call 91;refine(c1.o _ U4).q λw1 Sr=> ?_;have l1:=nL l0 Sr.size)|(go_at_call 129;refine(c2.o _).q λw2 hb2=> ?_;have l2:=nL l1 hb2.size;have B1:=(by first|exact Sr|exact(Below.refl _ w).drew.trans Sr|exact(Below.refl _ w).drew.drew.trans Sr:Below w.heap.size w w1);have B2:=(by first|exact B1.trans (hb2.mono B1.size)|exact B1.drew.trans (hb2.mono B1.size):Below w.heap.size w w2))|(go_at_call 145;refine(c3.o _ U29).mono ?_;rintro ev w3 ⟨rfl,s3,k3⟩;have nwq:=(λz1=>(H0.o.sep).1 z1:¬One z.wd (z.wq k));have l3:=nL l2 k3.size))
 ·all_goals
   have K3:Kept (One z.wd) w w3:=by first|exact(Kept.ob B2).trans k3|exact(Kept.ob B2).drew.trans k3
   have H3:A1 z l k w3 (m.leave x.other) x:=H0.o.aC _ s3 U8 K3;have c5:=Hd (λw (h:A1 z l k w (m.leave x.other) x)=>h.q9)
   go_wp2_with (go_at_call 146;refine(c5.o _ U30).q λw4 H4=> ?_)
   go_end0
   exact⟨rfl,H4⟩
 ·all_goals
   have K3:Kept (One z.wd) w w3:=by first|exact(Kept.ob B2).trans k3|exact(Kept.ob B2).drew.trans k3
   have H3:A1 z l k w3 (m.leave x.other) x:=H0.o.aC _ s3 U8 K3;have z3:=H3.fz;have y1:=H3.cell 1 _ rfl;have H4:=H3.set 1 (.int .i64 8) {x with R8:=8} ⟨rfl,rfl,rfl,rfl,rfl⟩ (λ_ _ _ _ _ _=>rfl);go_wp2_with fail
   (try simp only[Exit.inBlock,Exit.then]);refine bodyPost_ret (results_none rfl _ _ _) rfl ?_
   exact⟨rfl,by first|exact H4|exact H4.drew⟩
theorem A1.Im(h:A1 z l k w m x):Cs 176 #[ptr (z.wq k),ptr z.c] w (.tuple #[]) λw'=>(if m.last x.other=true then A1 z l k w' (m.leave x.other) {x with Sa:=x.other,R8:=18}else A1 z l k w' (m.leave x.other) (x.goes m.pl)):=by
 have c1:=Hd (λw (h:A1 z l k w m x)=>h.fP);have c2:=Hd (λw=>bX m.pl h.bQ x.other w);have c3:=Hd (λw hS=>eG w z.ws z.wd m.RY (m.pl.fN x.other) (jC _ h.bQ x.other m.RY h.bU) hS);have c4:=Hd (λw (h:A1 z l k w m x)=>h.aN);have H0:=Hd h;have l0:=h.lt;have xc:w.cell? ⟨z.wq k,7,none⟩=some ↑x.other:=h.cell 7 _ rfl;have HLS:=Hd (show m.last x.other=(m.RY.getD (m.pl.fN x.other) 0==1)from rfl);rw[<-HLS.o]at c3
 cases hlast:m.last x.other
 all_goals
  rw[hlast]at c3;clear hlast HLS;simp only[if_true,if_false,Bool.false_eq_true,reduceIte];clear h;go_enter func176,ntmps176;go_upto_region 0 with fail
  go_region_held3 (λw'=>w'.cell? ⟨z.wq k,7,none⟩=some ↑x.other)
   (exact U159)
   (first|(go_at_call 93;refine(c4.o _ U16).r ?_)|(go_at_call 91;refine(c1.o _ U4).q λw1 Sr=> ?_;have l1:=nL l0 Sr.size)|(go_at_call 129;refine(c2.o _).q λw2 hb2=> ?_;have l2:=nL l1 hb2.size;have B1:=(by first|exact Sr|exact(Below.refl _ w).drew.trans Sr|exact(Below.refl _ w).drew.drew.trans Sr:Below w.heap.size w w1);have B2:=(by first|exact B1.trans (hb2.mono B1.size)|exact B1.drew.trans (hb2.mono B1.size):Below w.heap.size w w2))|(go_at_call 145;refine(c3.o _ U29).mono ?_;rintro ev w3 ⟨rfl,s3,k3⟩;have nwq:=(λz1=>(H0.o.sep).1 z1:¬One z.wd (z.wq k));have l3:=nL l2 k3.size))
 ·all_goals
   have K3:Kept (One z.wd) w w3:=by first|exact(Kept.ob B2).trans k3|exact(Kept.ob B2).drew.trans k3
   have H3:A1 z l k w3 (m.leave x.other) x:=H0.o.aC _ s3 U8 K3;have c5:=Hd (λw (h:A1 z l k w (m.leave x.other) x)=>h.q9)
   go_wp2_with (go_at_call 146;refine(c5.o _ U30).q λw4 H4=> ?_)
   go_end0
   exact⟨rfl,H4⟩
 ·all_goals
   have K3:Kept (One z.wd) w w3:=by first|exact(Kept.ob B2).trans k3|exact(Kept.ob B2).drew.trans k3
   have H3:A1 z l k w3 (m.leave x.other) x:=H0.o.aC _ s3 U8 K3;have z3:=H3.fz;have y1:=H3.cell 1 _ rfl;have y7:=H3.cell 7 _ rfl;have y2:=H3.cell 2 _ rfl;have H4:=(H3.set 2 ↑x.other {x with Sa:=x.other} ⟨rfl,rfl,rfl,rfl,rfl⟩ (λ_ _ _ _ _ _=>rfl)).set 1 (.int .i64 18) {x with Sa:=x.other,R8:=18} ⟨rfl,rfl,rfl,rfl,rfl⟩ (λ_ _ _ _ _ _=>rfl);go_wp2_with fail
   (try simp only[Exit.inBlock,Exit.then]);refine bodyPost_ret (results_none rfl _ _ _) rfl ?_
   exact⟨rfl,by first|exact H4|exact H4.drew⟩
theorem ja(p:Pl)(h:p.ok)(id:Int)(it:Nat)(n:Int)(hn:0<=n/\n<=3)(L:List Int)(hL:(L.length:Int)=p.size):p.wN id it n<L.length:=by
 have q0:=gY p h id it n hn.1;have q1:=lJ id 1 p.fr U25;have q3:=gB p h;have q4:(jc id 1 p.fr-1)*p.room<=(p.fr-1)*p.room:=Int.mul_le_mul_of_nonneg_right U2 q3.1;have q5:(p.fr-1)*p.room=p.fr*p.room-p.room:=by rw[Int.sub_mul];omega
 have q6:p.room=2+4*(p.th+1):=rfl;have q7:=Int.emod_lt_of_pos (max (it:Int) 0) (show 0<p.th+1 by unfold Pl.ok at h;omega);unfold Pl.word Pl.frame at q0;unfold Pl.size at hL
 omega
theorem Mm(p:Pl)(h:p.ok)(id:Int)(L:List Int)(hL:(L.length:Int)=p.size):p.nN id<L.length:=by
 have q0:=oZ p h id;have q1:=lJ id 1 p.fr U25
 exact Us44
def Co.bM(m:Co)(i p:Nat)(kind:Int):Co:={m with log:=m.log++[⟨kind,(m.fr p).ae,(m.fr i).index,(m.fr i).Sc⟩]}
theorem A1.l8(h:A1 z l k w m x)(i p:Nat)(hi:m.ok i)(hx:x.Sa=i)(hp:m.ok p)(hpa:(m.fr i).Sg=p)(hl:m.log.length<100000)(kind:Int):Cs 158 #[ptr (z.wq k),ptr z.c,kind] w (.tuple #[]) λw'=>A1 z l k w' (m.bM i p kind) x:=by
 have c0:=Hd (h.aT i hi hx);have c1:=Hd (λw (h:A1 z l k w m x)=>h.Jp);have c2:=Hd (λw (h:A1 z l k w m x)=>h.at_ p hp);have c3:=Hd (λw (h:A1 z l k w m x)=>(h.note ⟨kind,(m.fr p).ae,(m.fr i).index,(m.fr i).Sc⟩ hl).mono (R':=λe w'=>e=.returned (.tuple #[])/\A1 z l k w' (m.bM i p kind) x) (λ_ _ q=>q));have xa:w.cell? ⟨z.fr,19*i+11,none⟩=some ↑p:=h.frame i hi 11 U0 _ U35;have xb:w.cell? ⟨z.fr,19*i+14,none⟩=some (.int .i64 (m.fr i).index):=h.frame i hi 14 U0 _ rfl;have xc:w.cell? ⟨z.fr,19*i+15,none⟩=some (.int .i64 (m.fr i).Sc):=h.frame i hi 15 U0 _ rfl;have xd:w.cell? ⟨z.fr,19*p+18,none⟩=some (.int .i64 (m.fr p).ae):=h.frame p hp 18 U0 _ rfl;have FF:=Hd (λ(w2:World) (H2:A1 z l k w2 (m.bM i p kind) x)=>(show w2.cell? ⟨z.fr,19*i+11,none⟩=some ↑p/\w2.cell? ⟨z.fr,19*i+14,none⟩=some (.int .i64 (m.fr i).index)/\w2.cell? ⟨z.fr,19*i+15,none⟩=some (.int .i64 (m.fr i).Sc)/\w2.cell? ⟨z.fr,19*p+18,none⟩=some (.int .i64 (m.fr p).ae)from
  ⟨H2.frame i hi 11 U0 _ U35,H2.frame i hi 14 U0 _ rfl,H2.frame i hi 15 U0 _ rfl,H2.frame p hp 18 U0 _ rfl⟩))
 have H0:=Hd h;generalize m.bM i p kind=M at*;clear h hx hpa hi hp;dsimp only at c3;generalize(m.fr p).ae=sr at*;generalize(m.fr i).index=ix at*;generalize(m.fr i).Sc=sg at*;generalize 19*i=I at*;generalize 19*p=P at*;go_enter func158,ntmps158
 go_upto_region 1 with(go_at_call 139;refine c0.o.r ?_)
 go_region_held3 (λw'=>w'.cell? ⟨z.fr,I+11,none⟩=some ↑p/\w'.cell? ⟨z.fr,I+14,none⟩=some ↑ix/\w'.cell? ⟨z.fr,I+15,none⟩=some ↑sg/\w'.cell? ⟨z.fr,P+18,none⟩=some ↑sr)
  (((try dsimp only);(try go_split_ands);(repeat' apply And.intro)<;>(repeat(first|(with_reducible assumption)|(with_reducible refine kc ?_)|(with_reducible refine kd ?_)|trivial)))
   )
  (first|(go_at_call 38;refine(c1.o _ U4).r ?_)|(go_at_call 141;refine(c2.o _ U4).r ?_)|(go_at_call 140;refine(c3.o _ U4).q λw2 H2=> ?_;have F2:=FF.out w2 H2;obtain⟨f1,f2,f3,f4⟩:=F2))
 all_goals
  go_wp2_with fail
  go_end0
  exact⟨rfl,by first|exact H2|exact H2.drew⟩
theorem A1.Il(h:A1 z l k w m x)(i:Nat)(hi:m.ok i)(hx:x.Sa=i):Cs 170 #[ptr (z.wq k),ptr z.c] w (.tuple #[]) λw'=>A1 z l k w' (m.ak i {m.fr i with due:=true}) {x with R8:=4}:=by
 have c0:=Hd (h.aT i hi hx);have zf:=h.sM;have z3:=h.fz;have y1:=h.cell 1 _ rfl;have y5:=h.frame i hi 13 U0 _ rfl;have nf:=h.oN;have H4:=Hd ((h.aF i hi 13 U0 (.bool true) {m.fr i with due:=true} rfl).set 1 (.int .i64 4) {x with R8:=4} ⟨rfl,rfl,rfl,rfl,rfl⟩ (λ_ _ _ _ _ _=>rfl));clear h hx;generalize 19*i=I at*;go_enter func170,ntmps170
 go_wp2_with (go_at_call 139;refine c0.o.r ?_)
 go_end0
 exact⟨rfl,H4.o⟩
def WS.checks(x:WS)(p:Pl)(id au:Int)(it:Nat)(why cn:Int):WS:={x with gy:=why,R8:=11,rt:=some ⟨p,id,au,it+1,cn,0,0,0,false⟩}
theorem A1.PZ(h:A1 z l k w m x):∃v,w.cell? ⟨z.wq k,16,none⟩=some v:=by
 obtain⟨bk,ov,gv,g,R,hk,⟨dv,tv,rv,pv,kv,nv,hb,_⟩,C⟩:=h.parts
 exact⟨_,hb.cell 16⟩
theorem A1.qZ(h:A1 z l k w m x)(i p:Nat)(hi:m.ok i)(hx:x.Sa=i)(hp:m.ok p)(hpa:(m.fr i).Sg=p)(hix:(m.fr i).index<=100000)(why cn:Int):Cs 162 #[ptr (z.wq k),ptr z.c,why,cn] w (.tuple #[]) λw'=>A1 z l k w' m (x.checks m.pl p (m.fr p).ae (m.fr i).index why cn):=by
 have c0:=Hd (h.aT i hi hx);have y1:=h.cell 1 _ rfl;have y11:=h.cell 11 _ rfl;have gz:=h.fz;have H:=((h).set 11 ↑why {x with gy:=why} ⟨rfl,rfl,rfl,rfl,rfl⟩ (λ_ _ _ _ _ _=>rfl)).set 1 (.int .i64 11) {x with gy:=why,R8:=11} ⟨rfl,rfl,rfl,rfl,rfl⟩ (λ_ _ _ _ _ _=>rfl);have K:=λ(w3:World) (b1:Below ((w.setCell ⟨z.wq k,11,none⟩ ↑why).setCell ⟨z.wq k,1,none⟩ (.int .i64 11)).heap.size ((w.setCell ⟨z.wq k,11,none⟩ ↑why).setCell ⟨z.wq k,1,none⟩ (.int .i64 11)) w3) (b:Nat) (hb) (hO)=>H.Ow (w:=w3) b1 b hb ⟨m.pl,p,(m.fr p).ae,(m.fr i).index+1,cn,0,0,0,false⟩ hO;go_enter func162,ntmps162
 go_upto_region 2 with(go_at_call 139;refine c0.o.r ?_)
 generalize(w.setCell ⟨z.wq k,11,none⟩ ↑why).setCell ⟨z.wq k,1,none⟩ (.int .i64 11)=W at*;have xa:W.cell? ⟨z.fr,19*i+11,none⟩=some ↑p:=H.frame i hi 11 U0 _ U35;have xb:W.cell? ⟨z.fr,19*i+14,none⟩=some (.int .i64 (m.fr i).index):=H.frame i hi 14 U0 _ rfl;have c1:=Hd (λw (h:A1 z l k w m {x with gy:=why,R8:=11})=>h.fE p hp);have c2:=Hd (λw=>FK m.pl.wk m.pl.fr m.pl.th m.pl.dq p (m.fr p).ae (m.fr i).index cn U2 w);unfold fZ at c1;have H0:=Hd H;have lf:z.fr<W.heap.size:=bL W _ xa;have nfq:=H.oN.2;clear h hx hpa hix gz y1 y11 H;generalize 19*i=I at*
 go_region_held3 (λw'=>w'.cell? ⟨z.fr,I+11,none⟩=some ↑p/\w'.cell? ⟨z.fr,I+14,none⟩=some (.int .i64 (m.fr i).index))
  (((try dsimp only);(try go_split_ands);(repeat' apply And.intro)<;>(repeat(first|(with_reducible assumption)|(with_reducible refine kc ?_)|(with_reducible refine kd ?_)|(refine kb U3 U6 ?_)|(refine(World.cell?_setCell_far _ _ _ _ (show z.wq k≠z.fr from λe=>nfq e.symm)).trans ?_)))))
  (first|(go_at_call 156;refine(c1.o _ U4).q λw1 Sr=> ?_;have l1:=nL lf Sr.size)|(go_at_call 228;refine(c2.o _).mono ?_;rintro ev w2 ⟨b,rfl,hO,hbn,hb2⟩;have l2:=nL l1 hb2.size;have B1:=(by first|exact Sr|exact(Below.refl _ W).drew.trans Sr|exact(Below.refl _ W).drew.drew.trans Sr:Below W.heap.size W w1);have B2:=(by first|exact B1.trans (hb2.mono B1.size)|exact B1.drew.trans (hb2.mono B1.size):Below W.heap.size W w2);have z2:=(H0.o.ai B2).fz;have y16:=(H0.o.ai B2).PZ;obtain⟨v16,y16⟩:=y16))
 all_goals
  have Q:=K w2 B2 b (nT B1.size hbn) hO;go_wp2_with fail
  go_end0
  exact⟨rfl,by first|exact Q|exact Q.drew⟩
theorem A1.yV(h:A1 z l k w m x):¬z.fr=z.wd:=by
 obtain⟨bk,ov,gv,g,R,hk,W,C⟩:=h.parts
 exact C.frames.ne C.RY.ws U0
def Co.counts(m:Co)(i j:Nat):Co:={m with RY:=m.RY.set (m.pl.wN i (m.fr j).index 0) 0}
theorem A1.LH(h:A1 z l k w m x)(i j:Nat)(hi:m.ok i)(hx:x.Sa=i)(hj:m.ok j)(ho:x.other=j):Cs 181 #[ptr (z.wq k),ptr z.c] w (.tuple #[]) λw'=>A1 z l k w' (m.counts i j) {x with R8:=23}:=by
 have x2:w.cell? ⟨z.wq k,2,none⟩=some ↑i:=h.cell 2 _ U21;have x7:w.cell? ⟨z.wq k,7,none⟩=some ↑j:=h.cell 7 _ (by rw[<-ho];rfl);have xj:w.cell? ⟨z.fr,19*j+14,none⟩=some (.int .i64 (m.fr j).index):=h.frame j hj 14 U0 _ rfl;have c1:=Hd (λw (h:A1 z l k w m x)=>h.fE i hi);have c2:=Hd (λw (h:A1 z l k w m x)=>h.aN);have c3:=Hd (λw (h:A1 z l k w m x)=>h.at_ j hj);have c4:=Hd (λw hS=>nS m.pl h.bQ i (m.fr i).ae (m.fr j).index 0 z.ws z.wd m.RY (ja _ h.bQ i _ 0 U0 m.RY h.bU) w hS);have FF:=Hd (λ(w3:World) (K:Kept (One z.wd) w w3) (s3:aD w3 z.ws z.wd (m.RY.set (m.pl.wN i (m.fr j).index 0) 0))=>(show A1 z l k w3 (m.counts i j) x from h.aC _ s3 U8 K));unfold fZ at c1;have H0:=Hd h;have lq:=h.lt;have lf:z.fr<w.heap.size:=bL w _ xj;have nfd:¬One z.wd z.fr:=h.yV;have nqd:¬One z.wd (z.wq k):=h.sep.1;clear h hx ho;generalize m.counts i j=M at*;generalize(m.fr i).ae=sr at*;generalize(m.fr j).index=ix at*;generalize 19*j=J at*;go_enter func181,ntmps181;go_upto_region 0 with fail
 go_region_held3 (λw'=>w'.cell? ⟨z.wq k,2,none⟩=some ↑i/\w'.cell? ⟨z.wq k,7,none⟩=some ↑j/\w'.cell? ⟨z.fr,J+14,none⟩=some ↑ix)
  (exact U158)
  (first|(go_at_call 156;refine(c1.o _ U4).q λw1 Sr=> ?_;have l1:=nL lf Sr.size;have lq1:=nL lq Sr.size;have B1:=(by first|exact Sr|exact(Below.refl _ w).drew.trans Sr|exact(Below.refl _ w).drew.drew.trans Sr:Below w.heap.size w w1))|(go_at_call 93;refine(c2.o _ U12).r ?_)|(go_at_call 141;refine(c3.o _ U12).r ?_)|(go_at_call 157;refine(c4.o _ U18).mono ?_;rintro ev w3 ⟨rfl,s3,k3⟩;have lf3:=nL l1 k3.size;have lq3:=nL lq1 k3.size))
 all_goals
  have K3:Kept (One z.wd) w w3:=by first|exact(Kept.ob B1).trans k3|exact(Kept.ob B1).drew.trans k3|exact(Kept.ob B1).drew.drew.trans k3
  have H3:=FF.out w3 K3 s3;have z3:=H3.fz;have y1:=H3.cell 1 _ rfl;have H4:=(H3).set 1 (.int .i64 23) {x with R8:=23} ⟨rfl,rfl,rfl,rfl,rfl⟩ (λ_ _ _ _ _ _=>rfl);go_wp2_with fail
  go_end0
  exact⟨rfl,by first|exact H4|exact H4.drew⟩
def Co.names(m:Co)(i j:Nat):Co:={m with RY:=m.RY.set (m.pl.wN i (m.fr j).index 2) j}
theorem A1.Po(h:A1 z l k w m x)(i j:Nat)(hi:m.ok i)(hx:x.Sa=i)(hj:m.ok j)(ho:x.other=j):Cs 182 #[ptr (z.wq k),ptr z.c] w (.tuple #[]) λw'=>A1 z l k w' (m.names i j) {x with R8:=24}:=by
 have x2:w.cell? ⟨z.wq k,2,none⟩=some ↑i:=h.cell 2 _ U21;have x7:w.cell? ⟨z.wq k,7,none⟩=some ↑j:=h.cell 7 _ (by rw[<-ho];rfl);have xj:w.cell? ⟨z.fr,19*j+14,none⟩=some (.int .i64 (m.fr j).index):=h.frame j hj 14 U0 _ rfl;have c1:=Hd (λw (h:A1 z l k w m x)=>h.fE i hi);have c2:=Hd (λw (h:A1 z l k w m x)=>h.aN);have c3:=Hd (λw (h:A1 z l k w m x)=>h.at_ j hj);have c4:=Hd (λw hS=>Kj m.pl h.bQ i (m.fr i).ae (m.fr j).index j z.ws z.wd m.RY (ja _ h.bQ i _ 2 U0 m.RY h.bU) w hS);have FF:=Hd (λ(w3:World) (K:Kept (One z.wd) w w3) (s3:aD w3 z.ws z.wd (m.RY.set (m.pl.wN i (m.fr j).index 2) j))=>(show A1 z l k w3 (m.names i j) x from h.aC _ s3 U8 K));unfold fZ at c1;have H0:=Hd h;have lq:=h.lt;have lf:z.fr<w.heap.size:=bL w _ xj;have nfd:¬One z.wd z.fr:=h.yV;have nqd:¬One z.wd (z.wq k):=h.sep.1;clear h hx ho;generalize m.names i j=M at*;generalize(m.fr i).ae=sr at*;generalize(m.fr j).index=ix at*;generalize 19*j=J at*;go_enter func182,ntmps182;go_upto_region 0 with fail
 go_region_held3 (λw'=>w'.cell? ⟨z.wq k,2,none⟩=some ↑i/\w'.cell? ⟨z.wq k,7,none⟩=some ↑j/\w'.cell? ⟨z.fr,J+14,none⟩=some ↑ix)
  (exact U158)
  (first|(go_at_call 156;refine(c1.o _ U4).q λw1 Sr=> ?_;have l1:=nL lf Sr.size;have lq1:=nL lq Sr.size;have B1:=(by first|exact Sr|exact(Below.refl _ w).drew.trans Sr|exact(Below.refl _ w).drew.drew.trans Sr:Below w.heap.size w w1))|(go_at_call 93;refine(c2.o _ U12).r ?_)|(go_at_call 141;refine(c3.o _ U12).r ?_)|(go_at_call 248;refine(c4.o _ U18).mono ?_;rintro ev w3 ⟨rfl,s3,k3⟩;have lf3:=nL l1 k3.size;have lq3:=nL lq1 k3.size))
 all_goals
  have K3:Kept (One z.wd) w w3:=by first|exact(Kept.ob B1).trans k3|exact(Kept.ob B1).drew.trans k3|exact(Kept.ob B1).drew.drew.trans k3
  have H3:=FF.out w3 K3 s3;have z3:=H3.fz;have y1:=H3.cell 1 _ rfl;have H4:=(H3).set 1 (.int .i64 24) {x with R8:=24} ⟨rfl,rfl,rfl,rfl,rfl⟩ (λ_ _ _ _ _ _=>rfl);go_wp2_with fail
  go_end0
  exact⟨rfl,by first|exact H4|exact H4.drew⟩
theorem A1.LJ(h:A1 z l k w m x)(i j p:Nat)(hi:m.ok i)(hx:x.Sa=i)(hj:m.ok j)(ho:x.other=j)(hp:m.ok p)(hpa:(m.fr j).Sg=p)(hl:m.log.length+1<100000):Cs 183 #[ptr (z.wq k),ptr z.c] w (.tuple #[]) λw'=>A1 z l k w' (((m.spawn i).bM j p 1).bM j p 2) {x with Sa:=j,R8:=4}:=by
 have c1:=Hd (λw (h:A1 z l k w m x)=>h.fP);have c2:=Hd (λw=>bX m.pl h.bQ (i:Int) w);have c3:=Hd (λw hS=>sZ w z.ws z.wd m.RY (m.pl.fN (i:Int)) (jC _ h.bQ (i:Int) m.RY h.bU) hS);have c4:=Hd (λw (h:A1 z l k w m x)=>h.aN);have H0:=Hd h;have l0:=h.lt;have xc:w.cell? ⟨z.wq k,2,none⟩=some (.int .i64 (i:Int)):=h.cell 2 _ U21;have HO:=Hd ho;have c5:=Hd (λw (h:A1 z l k w (m.spawn i) x)=>h.rq j);have c6:=Hd (λw (h:A1 z l k w (m.spawn i) {x with Sa:=(j:Int),R8:=4})=>h.l8 j p hj rfl hp hpa (show m.log.length<100000 by omega) 1);have c7:=Hd (λw (h:A1 z l k w ((m.spawn i).bM j p 1) {x with Sa:=(j:Int),R8:=4})=>h.l8 j p hj rfl hp hpa (show(m.log++[_]).length<100000 by simp;omega) 2);clear h hi hx hj ho hp hpa hl;go_enter func183,ntmps183;go_upto_region 0 with fail
 go_region_held3 (λw'=>w'.cell? ⟨z.wq k,2,none⟩=some (.int .i64 (i:Int)))
  (exact U159)
  (first|(go_at_call 93;refine(c4.o _ U16).r ?_)|(go_at_call 91;refine(c1.o _ U4).q λw1 Sr=> ?_;have l1:=nL l0 Sr.size)|(go_at_call 129;refine(c2.o _).q λw2 hb2=> ?_;have l2:=nL l1 hb2.size;have B1:=(by first|exact Sr|exact(Below.refl _ w).drew.trans Sr|exact(Below.refl _ w).drew.drew.trans Sr:Below w.heap.size w w1);have B2:=(by first|exact B1.trans (hb2.mono B1.size)|exact B1.drew.trans (hb2.mono B1.size):Below w.heap.size w w2))|(go_at_call 153;refine(c3.o _ U29).mono ?_;rintro ev w3 ⟨rfl,s3,k3⟩;have nwq:=(λz1=>(H0.o.sep).1 z1:¬One z.wd (z.wq k));have l3:=nL l2 k3.size))
 all_goals
  have K3:Kept (One z.wd) w w3:=by first|exact(Kept.ob B2).trans k3|exact(Kept.ob B2).drew.trans k3
  have H3:A1 z l k w3 (m.spawn (i:Int)) x:=H0.o.aC _ s3 U8 K3;have y7:w3.cell? ⟨z.wq k,7,none⟩=some ↑j:=H3.cell 7 _ (by rw[<-HO.o];rfl)
  go_upto_region 2 with(go_at_call 88;refine(c5.o _ U30).q λw4 H4=> ?_)
  go_upto_region 3 with(go_at_call 158;refine(c6.o _ H4).q λw5 H5=> ?_)
  go_wp2_with (go_at_call 158;refine(c7.o _ H5).q λw6 H6=> ?_)
  go_end0
  exact⟨rfl,H6⟩
theorem A1.Iy(h:A1 z l k w m x)(i:Nat)(hi:m.ok i)(hx:x.other=i):Cs 101 #[ptr (z.wq k),ptr z.c] w (.tuple #[]) λw'=>A1 z l k w' ((m.again i).ak i {m.fr i with az:=false}) {x with Sa:=i,R8:=4}:=by
 have HI:=Hd hi;have HX:=Hd hx;have c1:=Hd (λw (h:A1 z l k w m x)=>h.fP);have c2:=Hd (λw=>bX m.pl h.bQ (i:Int) w);have c3:=Hd (λw hS=>sW w z.ws z.wd m.RY (m.pl.fN (i:Int)) (jC _ h.bQ (i:Int) m.RY h.bU) hS);have c4:=Hd (λw (h:A1 z l k w m x)=>h.aN);have H0:=Hd h;have l0:=h.lt;have xc:w.cell? ⟨z.wq k,7,none⟩=some (.int .i64 (i:Int)):=h.cell 7 _ U21;have c5:=Hd (λw (h:A1 z l k w (m.again i) x)=>h.at_ i hi);have c6:=Hd (λw (h:A1 z l k w ((m.again i).ak i {m.fr i with az:=false}) x)=>h.rq i);clear h hi hx;go_enter func101,ntmps101;go_upto_region 0 with fail
 go_region_held3 (λw'=>w'.cell? ⟨z.wq k,7,none⟩=some (.int .i64 (i:Int)))
  (exact U159)
  (first|(go_at_call 93;refine(c4.o _ U16).r ?_)|(go_at_call 91;refine(c1.o _ U4).q λw1 Sr=> ?_;have l1:=nL l0 Sr.size)|(go_at_call 129;refine(c2.o _).q λw2 hb2=> ?_;have l2:=nL l1 hb2.size;have B1:=(by first|exact Sr|exact(Below.refl _ w).drew.trans Sr|exact(Below.refl _ w).drew.drew.trans Sr:Below w.heap.size w w1);have B2:=(by first|exact B1.trans (hb2.mono B1.size)|exact B1.drew.trans (hb2.mono B1.size):Below w.heap.size w w2))|(go_at_call 152;refine(c3.o _ U29).mono ?_;rintro ev w3 ⟨rfl,s3,k3⟩;have nwq:=(λz1=>(H0.o.sep).1 z1:¬One z.wd (z.wq k));have l3:=nL l2 k3.size))
 all_goals
  have K3:Kept (One z.wd) w w3:=by first|exact(Kept.ob B2).trans k3|exact(Kept.ob B2).drew.trans k3
  have H3:A1 z l k w3 (m.again (i:Int)) x:=H0.o.aC _ s3 U8 K3;have y7:w3.cell? ⟨z.wq k,7,none⟩=some ↑i:=H3.cell 7 _ (by rw[<-HX.o];rfl);have zf:=H3.sM;have y5:=H3.frame i HI.o 12 U0 _ rfl;have H4:=H3.aF i HI.o 12 U0 (.bool false) {m.fr i with az:=false} rfl;have nf:=H3.oN.2;have nf2:=H3.oN.1
  go_wp2_with (first|(go_at_call 141;refine(c5.o _ U30).r ?_)|(go_at_call 88;refine(c6.o _ (by first|exact H4|exact H4.drew)).q λw5 H5=> ?_))
  go_end0
  exact⟨rfl,H5⟩
theorem zY:∀(a b c d e:Int)(f g:Bool)(w:World),Sem.run prog (Instr.field 27 (.agg #[a,b,c,d,e,.bool f,.bool g]) 0) w=.ok ↑a w:=λ_ _ _ _ _ _ _ _=>by kernel_rfl
theorem JQ:∀(a b c d e:Int)(f g:Bool)(w:World),Sem.run prog (Instr.field 27 (.agg #[a,b,c,d,e,.bool f,.bool g]) 1) w=.ok ↑b w:=λ_ _ _ _ _ _ _ _=>by kernel_rfl
theorem uB:∀(a b c d e:Int)(f g:Bool)(w:World),Sem.run prog (Instr.field 27 (.agg #[a,b,c,d,e,.bool f,.bool g]) 5) w=.ok (.bool f) w:=λ_ _ _ _ _ _ _ _=>by kernel_rfl
theorem JR:∀(a b c d e:Int)(f g:Bool)(w:World),Sem.run prog (Instr.field 27 (.agg #[a,b,c,d,e,.bool f,.bool g]) 6) w=.ok (.bool g) w:=λ_ _ _ _ _ _ _ _=>by kernel_rfl
def Co.aL(m:Co)(x:WS)(i p:Nat):WS:=if m.lazy=true then{x with R8:=10}else x.checks m.pl p (m.fr p).ae (m.fr i).index 0 x.aB
theorem A1.nZ(h:A1 z l k w m x)(i p:Nat)(hi:m.ok i)(hx:x.Sa=i)(hp:m.ok p)(hpa:(m.fr i).Sg=p)(hix:(m.fr i).index<=100000):Cs 159 #[ptr (z.wq k),ptr z.c] w (.tuple #[]) λw'=>A1 z l k w' m (m.aL x i p):=by
 have c1:=Hd (λw (h:A1 z l k w m x)=>h.jf);have c2:=Hd (λw (h:A1 z l k w m x)=>h.qZ i p hi hx hp hpa hix 0 x.aB);have HL:=Hd (show m.aL x i p=if m.lazy=true then{x with R8:=10}else x.checks m.pl p (m.fr p).ae (m.fr i).index 0 x.aB from rfl);unfold Co.gU at c1;have hf6:=JR;generalize m.aL x i p=X at*;generalize x.checks m.pl p (m.fr p).ae (m.fr i).index 0 x.aB=X2 at*;have H0:=Hd h
 cases hz:m.lazy
 all_goals
  rw[hz]at HL c1;clear hz;clear hx hpa hix
 ·simp only[if_false,Bool.false_eq_true,reduceIte]at HL
  obtain rfl:X=X2:=HL.o;clear h;go_enter func159,ntmps159
  go_wp2_with (first|(go_at_call 89;refine(c1.o _ H0.o).q λw1 Sr=> ?_;have H1:=H0.o.ai Sr;have y8:=H1.cell 8 _ rfl)|(go_at_call 162;refine(c2.o _ H1).q λw2 H2=> ?_))
  go_end0
  exact⟨rfl,H2⟩
 ·simp only[if_true,reduceIte]at HL
  obtain rfl:X=_:=HL.o;clear h;go_enter func159,ntmps159
  go_wp2_with (go_at_call 89;refine(c1.o _ H0.o).q λw1 Sr=> ?_;have H1:=H0.o.ai Sr;have y1:=H1.cell 1 _ rfl;have z1:=H1.fz)
  (try simp only[Exit.inBlock,Exit.then]);refine bodyPost_ret (results_none rfl _ _ _) rfl ?_
  exact⟨rfl,(H1).set 1 (.int .i64 10) {x with R8:=10} ⟨rfl,rfl,rfl,rfl,rfl⟩ (λ_ _ _ _ _ _=>rfl)⟩
def Co.aK(m:Co)(i p:Nat)(v:Int):Co:={m with RY:=m.RY.set (m.pl.wN p (m.fr i).index 0) v}
theorem A1.Pm(h:A1 z l k w m x)(i p:Nat)(hi:m.ok i)(hx:x.Sa=i)(hp:m.ok p)(hpa:(m.fr i).Sg=p)(hix:(m.fr i).index<=100000)(hl:m.log.length<100000):Cs 173 #[ptr (z.wq k),ptr z.c] w (.tuple #[]) λw'=>A1 z l k w' ((m.aK i p 1048576).bM i p 4) (x.checks m.pl p (m.fr p).ae (m.fr i).index 2 1048576):=by
 have c0:=Hd (h.aT i hi hx);have xa:w.cell? ⟨z.fr,19*i+11,none⟩=some ↑p:=h.frame i hi 11 U0 _ U35;have xb:w.cell? ⟨z.fr,19*i+14,none⟩=some (.int .i64 (m.fr i).index):=h.frame i hi 14 U0 _ rfl;have c1:=Hd (λw (h:A1 z l k w m x)=>h.fE p hp);have c2:=Hd (λw (h:A1 z l k w m x)=>h.aN);have c4:=Hd (λw hS=>nS m.pl h.bQ p (m.fr p).ae (m.fr i).index 1048576 z.ws z.wd m.RY (ja _ h.bQ p _ 0 U0 m.RY h.bU) w hS);have FF:=Hd (λ(w3:World) (K:Kept (One z.wd) w w3) (s3:aD w3 z.ws z.wd (m.RY.set (m.pl.wN p (m.fr i).index 0) 1048576))=>(show A1 z l k w3 (m.aK i p 1048576) x from h.aC _ s3 U8 K));have c5:=Hd (λw (h:A1 z l k w (m.aK i p 1048576) x)=>h.l8 i p hi hx hp hpa hl 4);have c6:=Hd (λw (h:A1 z l k w ((m.aK i p 1048576).bM i p 4) x)=>h.qZ i p hi hx hp hpa hix 2 1048576);unfold fZ at c1;have H0:=Hd h;have lf:z.fr<w.heap.size:=bL w _ xa;have nfd:¬One z.wd z.fr:=h.yV;clear h hx hpa hix hl;generalize 19*i=I at*;go_enter func173,ntmps173
 go_upto_region 1 with(go_at_call 139;refine c0.o.r ?_)
 go_region_held3 (λw'=>w'.cell? ⟨z.fr,I+11,none⟩=some ↑p/\w'.cell? ⟨z.fr,I+14,none⟩=some (.int .i64 (m.fr i).index))
  (exact U158)
  (first|(go_at_call 156;refine(c1.o _ U4).q λw1 Sr=> ?_;have l1:=nL lf Sr.size;have B1:=(by first|exact Sr|exact(Below.refl _ w).drew.trans Sr|exact(Below.refl _ w).drew.drew.trans Sr:Below w.heap.size w w1))|(go_at_call 93;refine(c2.o _ U12).r ?_)|(go_at_call 157;refine(c4.o _ U18).mono ?_;rintro ev w3 ⟨rfl,s3,k3⟩;have lf3:=nL l1 k3.size))
 all_goals
  have K3:Kept (One z.wd) w w3:=by first|exact(Kept.ob B1).trans k3|exact(Kept.ob B1).drew.trans k3|exact(Kept.ob B1).drew.drew.trans k3
  have H3:=FF.out w3 K3 s3
  go_wp2_with (first|(go_at_call 158;refine(c5.o _ U30).q λw5 H5=> ?_)|(go_at_call 162;refine(c6.o _ H5).q λw6 H6=> ?_))
  go_end0
  exact⟨rfl,H6⟩
theorem Us111 {p:Prop} (h:p:=by
 split
 ·rfl
 ·split
  ·simp
  ·split
   ·rfl
   ·simp only[swp];split<;>simp):p:=h
theorem Ha(r:DW)(L:List Int):(r.step L).2.length=L.length:=by
 unfold DW.step
 split<;>(try split)<;>simp
theorem I7(r:NW)(lk:Bool)(L:List Int):(r.wake lk L).2.length=L.length:=by
 unfold NW.wake
 exact Us111
theorem Kv(r:NW)(L:List Int):(r.gI L).2.length=L.length:=by
 unfold NW.gI
 exact Us111
theorem A1.KU(h:A1 z l k w m x){b:Nat}{cs:Array Value}{t:TypeId}(hb:af w b cs t)(ht:t≠ 131):¬Two z.wd b (z.wq k):=by
 obtain⟨bk,ov,gv,g,R,hk,⟨dv,tv,rv,pv,kv,nv,hq,_⟩,C⟩:=h.parts;rintro(e|e)
 ·exact hq.ne C.RY.ws U0 e
 ·exact hb.ne hq ht e.symm
theorem A1.gP(h:A1 z l k w m x)(r:DW)(hr:x.dq=some r)(hp:r.p=m.pl)(hs:r.safe m.RY)(b:Nat)(hc:w.cell? ⟨z.wq k,5,none⟩=some (ptr b)):
  Cs 92 #[ptr b,ptr z.ws] w (.bool (r.step m.RY).1.nx.ends) λw'=>A1 z l k w' {m with RY:=(r.step m.RY).2} {x with dq:=some (r.step m.RY).1}/\w'.cell? ⟨z.wq k,5,none⟩=some (ptr b):=by
 have hI:=h.vY r hr b hc;obtain⟨cs,hb⟩:=hI.blk;have n1:b≠z.ws:=h.RY.fs.elim λ_ q=>hb.ne q U0;have n2:b≠z.wd:=hb.ne h.RY.ws U0;refine(Ep r (by rw[hp];exact h.bQ) w b z.ws z.wd m.RY U58 h.RY hI n1 n2 hs).mono ?_;rintro ev w' ⟨rfl,hO,hS,K⟩
 exact⟨rfl,h.Lp r hr b hc _ _ (Ha r m.RY) hO hS K,kk K h.lt (h.KU hb U0) hc⟩
theorem A1.qm(h:A1 z l k w m x)(r:DW)(hr:x.dq=some r)(b:Nat)(hc:w.cell? ⟨z.wq k,5,none⟩=some (ptr b)):
  Cs 136 #[ptr b] w ↑r.t λw'=>w=w':=Er w b r (h.vY r hr b hc)
theorem A1.xY(h:A1 z l k w m x)(r:DW)(hr:x.dq=some r)(b:Nat)(hc:w.cell? ⟨z.wq k,5,none⟩=some (ptr b)):
  Cs 137 #[ptr b] w (.bool r.Sn) λw'=>w=w':=Ed w b r (h.vY r hr b hc)
theorem A1.zS(h:A1 z l k w m x)(r:DW)(hr:x.dq=some r)(he:r.nx.ends=true)(b:Nat)(hc:w.cell? ⟨z.wq k,5,none⟩=some (ptr b)):
  Cs 134 #[ptr b] w (.tuple #[.int .i64 (if r.Sl=true then r.x else 0),.bool r.Sl]) λw'=>w=w':=JL w b r (h.vY r hr b hc) he
theorem A1.Px(h:A1 z l k w m x)(r:NW)(lk:Bool)(hr:x.wk=some (r,lk))(ho:r.over=false)(ha:r.at_=0∨r.at_=1∨r.at_=2)(hp:r.p=m.pl)(b:Nat)(hc:w.cell? ⟨z.wq k,18,none⟩=some (ptr b)):
  Cs 237 #[ptr b,ptr z.ws] w (.bool (r.wake lk m.RY).1.over) λw'=>A1 z l k w' {m with RY:=(r.wake lk m.RY).2} {x with wk:=some ((r.wake lk m.RY).1,lk)}/\w'.cell? ⟨z.wq k,18,none⟩=some (ptr b):=by
 have hI:=h.E9 (r,lk) hr b hc;have n1:b≠z.ws:=h.RY.fs.elim λ_ q=>hI.ne q U0;have n2:b≠z.wd:=hI.ne h.RY.ws U0;have hk3:r.p.wN r.id r.it 3<m.RY.length:=ja _ (hp▸h.bQ) _ _ _ U0 _ U58;have hkn:r.p.nN r.id<m.RY.length:=Mm _ (hp▸h.bQ) _ _ U58;have hpo:r.p.ok:=hp▸h.bQ;obtain⟨⟨a,b',c,e⟩,id,au,it,at_,over,iG⟩:=r;obtain rfl:over=false:=ho;have key:∀(ev:Ending)(w':World),(ev=.returned (.bool ((⟨⟨a,b',c,e⟩,id,au,it,at_,false,iG⟩:NW).wake lk m.RY).1.over)/\af w' b (((⟨⟨a,b',c,e⟩,id,au,it,at_,false,iG⟩:NW).wake lk m.RY).1.rG lk) 288 /\aD w' z.ws z.wd ((⟨⟨a,b',c,e⟩,id,au,it,at_,false,iG⟩:NW).wake lk m.RY).2/\Kept (Two z.wd b) w w')->(ev=.returned (.bool ((⟨⟨a,b',c,e⟩,id,au,it,at_,false,iG⟩:NW).wake lk m.RY).1.over)/\A1 z l k w' {m with RY:=((⟨⟨a,b',c,e⟩,id,au,it,at_,false,iG⟩:NW).wake lk m.RY).2} {x with wk:=some (((⟨⟨a,b',c,e⟩,id,au,it,at_,false,iG⟩:NW).wake lk m.RY).1,lk)}/\w'.cell? ⟨z.wq k,18,none⟩=some (ptr b)):=
  λev w' ⟨e1,hO,hS,K⟩=>⟨e1,h.Lt _ hr b hc (_,lk) _ (I7 _ lk m.RY) hO hS K,kk K h.lt (h.KU hI U0) hc⟩
 rcases ha with ha|ha|ha
 ·obtain rfl:at_=0:=ha
  exact(Pz a b' c e id au it iG lk hpo w b z.ws z.wd m.RY hk3 h.RY hI n1 n2).mono key
 ·obtain rfl:at_=1:=ha
  exact(PD a b' c e id au it iG lk hpo w b z.ws z.wd m.RY hkn h.RY hI n1 n2).mono key
 ·obtain rfl:at_=2:=ha
  exact(PE a b' c e id au it iG lk hpo w b z.ws z.wd m.RY hkn h.RY hI n1 n2).mono key
theorem A1.QL(h:A1 z l k w m x)(r:NW)(lk:Bool)(hr:x.wk=some (r,lk))(b:Nat)(hc:w.cell? ⟨z.wq k,18,none⟩=some (ptr b)):
  Cs 238 #[ptr b] w (.bool r.iG) λw'=>w=w':=KC w b r lk (h.E9 (r,lk) hr b hc)
theorem A1.OC(h:A1 z l k w m x)(r:NW)(hr:x.np=some r)(ho:r.over=false)(ha:r.at_=0∨r.at_=1∨r.at_=2)(hp:r.p=m.pl)(b:Nat)(hc:w.cell? ⟨z.wq k,19,none⟩=some (ptr b)):
  Cs 244 #[ptr b,ptr z.ws] w (.bool (r.gI m.RY).1.over) λw'=>A1 z l k w' {m with RY:=(r.gI m.RY).2} {x with np:=some (r.gI m.RY).1}/\w'.cell? ⟨z.wq k,19,none⟩=some (ptr b):=by
 have hI:=h.EY r hr b hc;have n1:b≠z.ws:=h.RY.fs.elim λ_ q=>hI.ne q U0;have n2:b≠z.wd:=hI.ne h.RY.ws U0;have hk3:r.p.wN r.id r.it 3<m.RY.length:=ja _ (hp▸h.bQ) _ _ _ U0 _ U58;have hkn:r.p.nN r.id<m.RY.length:=Mm _ (hp▸h.bQ) _ _ U58;have hpo:r.p.ok:=hp▸h.bQ;obtain⟨⟨a,b',c,e⟩,id,au,it,at_,over,iG⟩:=r;obtain rfl:over=false:=ho;have key:∀(ev:Ending)(w':World),(ev=.returned (.bool ((⟨⟨a,b',c,e⟩,id,au,it,at_,false,iG⟩:NW).gI m.RY).1.over)/\af w' b (((⟨⟨a,b',c,e⟩,id,au,it,at_,false,iG⟩:NW).gI m.RY).1.arr) 307 /\aD w' z.ws z.wd ((⟨⟨a,b',c,e⟩,id,au,it,at_,false,iG⟩:NW).gI m.RY).2/\Kept (Two z.wd b) w w')->(ev=.returned (.bool ((⟨⟨a,b',c,e⟩,id,au,it,at_,false,iG⟩:NW).gI m.RY).1.over)/\A1 z l k w' {m with RY:=((⟨⟨a,b',c,e⟩,id,au,it,at_,false,iG⟩:NW).gI m.RY).2} {x with np:=some ((⟨⟨a,b',c,e⟩,id,au,it,at_,false,iG⟩:NW).gI m.RY).1}/\w'.cell? ⟨z.wq k,19,none⟩=some (ptr b)):=
  λev w' ⟨e1,hO,hS,K⟩=>⟨e1,h.Lr _ hr b hc _ _ (Kv _ m.RY) hO hS K,kk K h.lt (h.KU hI U0) hc⟩
 rcases ha with ha|ha|ha
 ·obtain rfl:at_=0:=ha
  exact(OD a b' c e id au it iG hpo w b z.ws z.wd m.RY hkn h.RY hI n1 n2).mono key
 ·obtain rfl:at_=1:=ha
  exact(OE a b' c e id au it iG hpo w b z.ws z.wd m.RY hk3 h.RY hI n1 n2).mono key
 ·obtain rfl:at_=2:=ha
  exact(OG a b' c e id au it iG hpo w b z.ws z.wd m.RY hkn h.RY hI n1 n2).mono key
theorem A1.Oz(h:A1 z l k w m x)(r:NW)(hr:x.np=some r)(b:Nat)(hc:w.cell? ⟨z.wq k,19,none⟩=some (ptr b)):
  Cs 245 #[ptr b] w (.bool r.iG) λw'=>w=w':=Gb w b r (h.EY r hr b hc)
theorem A1.Gz(h:A1 z l k w m x)(r:RW)(hr:x.rt=some r)(h0:r.nx=0)(hs:r.sees m.RY=false)(hp:r.p=m.pl)(b:Nat)(hc:w.cell? ⟨z.wq k,16,none⟩=some (ptr b)):
  Cs 164 #[ptr b,ptr z.ws] w (.bool true) λw'=>A1 z l k w' m {x with rt:=some {r with st:=0,nx:=3}}/\w'.cell? ⟨z.wq k,16,none⟩=some (ptr b):=by
 have hI:=h.E8 r hr b hc;have n1:b≠z.ws:=h.RY.fs.elim λ_ q=>hI.ne q U0;have n2:b≠z.wd:=hI.ne h.RY.ws U0;have hk1:r.p.wN r.id r.it 1<m.RY.length:=ja _ (hp▸h.bQ) _ _ _ U0 _ U58;have hpo:r.p.ok:=hp▸h.bQ;have he:r.step m.RY=({r with st:=0,nx:=3},m.RY):=by
  unfold RW.step;rw[if_pos h0,hs]
  rfl
 obtain⟨⟨a,b',c,e⟩,id,au,it,cn,sg,nx,fm,Sl⟩:=r;obtain rfl:nx=0:=h0;refine(OY a b' c e id au it cn sg fm Sl hpo w b z.ws z.wd m.RY hk1 h.RY hI n1 n2).mono ?_;rw[he];rintro ev w' ⟨rfl,hO,hS,K⟩
 exact⟨rfl,h.Ls _ hr b hc _ m.RY rfl hO hS K,kk K h.lt (h.KU hI U0) hc⟩
theorem A1.Mr(h:A1 z l k w m x)(r:RW)(hr:x.rt=some r)(b:Nat)(hc:w.cell? ⟨z.wq k,16,none⟩=some (ptr b)):
  Cs 165 #[ptr b] w (.tuple #[r.fm,.bool r.Sl]) λw'=>Below w.heap.size w w':=KQ w b r (h.E8 r hr b hc)
def Co.closes(m:Co)(x:WS)(r:NW)(lk:Bool):Co×WS:=
 ({m with RY:=(r.wake lk m.RY).2},if(r.wake lk m.RY).1.over=true then{x with wk:=some ((r.wake lk m.RY).1,lk),ew:=(r.wake lk m.RY).1.iG,R8:=16}else{x with wk:=some ((r.wake lk m.RY).1,lk)})
theorem A1.Ik(h:A1 z l k w m x)(r:NW)(lk:Bool)(hr:x.wk=some (r,lk))(ho:r.over=false)(ha:r.at_=0∨r.at_=1∨r.at_=2)(hp:r.p=m.pl):Cs 174 #[ptr (z.wq k),ptr z.c] w (.tuple #[]) λw'=>A1 z l k w' (m.closes x r lk).1 (m.closes x r lk).2:=by
 obtain⟨b,hb⟩:=h.Nj _ hr;have c0:=Hd (λw (h:A1 z l k w m x)=>h.aN);have c1:=Hd (λw (h:A1 z l k w m x) hc=>h.Px r lk hr ho ha hp b hc);have H0:=Hd h;have HX:=Hd (show m.closes x r lk=({m with RY:=(r.wake lk m.RY).2},if(r.wake lk m.RY).1.over=true then{x with wk:=some ((r.wake lk m.RY).1,lk),ew:=(r.wake lk m.RY).1.iG,R8:=16}else{x with wk:=some ((r.wake lk m.RY).1,lk)})from rfl);generalize m.closes x r lk=Z at*;generalize r.wake lk m.RY=V at*;obtain⟨r',L'⟩:=V;have c2:=Hd (λw (h:A1 z l k w {m with RY:=L'} {x with wk:=some (r',lk)}) hc=>h.QL r' lk rfl b hc);clear h hr ho ha hp;dsimp only at c1 HX
 cases hov:r'.over
 all_goals
  rw[hov]at c1 HX;clear hov;simp only[if_true,if_false,Bool.false_eq_true,reduceIte]at HX;obtain rfl:Z=_:=HX.o;clear HX;go_enter func174,ntmps174;go_upto_region 0 with fail
  go_region_held3 (λw'=>w'.cell? ⟨z.wq k,18,none⟩=some (ptr b))
   (exact U161)
   (first|(go_at_call 93;refine(c0.o _ U4).r ?_)|(go_at_call 237;refine(c1.o _ U4 U19).mono ?_;rintro ev w2 ⟨rfl,H2,y18⟩))
 ·all_goals
   go_wp2_with fail
   go_end0
   exact⟨rfl,by first|exact H2|exact H2.drew⟩
 ·all_goals
   have z2:=H2.fz;have y15:=H2.cell 15 _ rfl;have y1:=H2.cell 1 _ rfl;have H4:=((H2).set 15 (.bool r'.iG) {x with wk:=some (r',lk),ew:=r'.iG} ⟨rfl,rfl,rfl,rfl,rfl⟩ (λ_ _ _ _ _ _=>rfl)).set 1 (.int .i64 16) {x with wk:=some (r',lk),ew:=r'.iG,R8:=16} ⟨rfl,rfl,rfl,rfl,rfl⟩ (λ_ _ _ _ _ _=>rfl)
   go_wp2_with (go_at_call 238;refine(c2.o _ U48 (by first|exact y18|exact kd y18)).r ?_)
   go_end0
   exact⟨rfl,by first|exact H4|exact H4.drew⟩
def Co.dx(m:Co)(x:WS)(r:NW):Co×WS:=
 ({m with RY:=(r.gI m.RY).2},if(r.gI m.RY).1.over=true then(if(r.gI m.RY).1.iG=true then{x with np:=some (r.gI m.RY).1,Sa:=x.other,R8:=21}else WS.goes {x with np:=some (r.gI m.RY).1} m.pl)else{x with np:=some (r.gI m.RY).1})
theorem A1.Pp(h:A1 z l k w m x)(r:NW)(hr:x.np=some r)(ho:r.over=false)(ha:r.at_=0∨r.at_=1∨r.at_=2)(hp:r.p=m.pl):Cs 179 #[ptr (z.wq k),ptr z.c] w (.tuple #[]) λw'=>A1 z l k w' (m.dx x r).1 (m.dx x r).2:=by
 obtain⟨b,hb⟩:=h.Ni _ hr;have c0:=Hd (λw (h:A1 z l k w m x)=>h.aN);have c1:=Hd (λw (h:A1 z l k w m x) hc=>h.OC r hr ho ha hp b hc);have H0:=Hd h;have HX:=Hd (show m.dx x r=({m with RY:=(r.gI m.RY).2},if(r.gI m.RY).1.over=true then(if(r.gI m.RY).1.iG=true then{x with np:=some (r.gI m.RY).1,Sa:=x.other,R8:=21}else WS.goes {x with np:=some (r.gI m.RY).1} m.pl)else{x with np:=some (r.gI m.RY).1})from rfl);generalize m.dx x r=Z at*;generalize r.gI m.RY=V at*;obtain⟨r',L'⟩:=V;have c2:=Hd (λw (h:A1 z l k w {m with RY:=L'} {x with np:=some r'}) hc=>h.Oz r' rfl b hc);have c3:=Hd (λw (h:A1 z l k w {m with RY:=L'} {x with np:=some r'})=>h.q9);clear h hr ho ha hp;dsimp only at c1 HX c3
 cases hov:r'.over
 ·rw[hov]at c1 HX
  clear hov;simp only[if_true,if_false,Bool.false_eq_true,reduceIte]at HX;obtain rfl:Z=_:=HX.o;clear HX;go_enter func179,ntmps179;go_upto_region 0 with fail
  go_region_held3 (λw'=>w'.cell? ⟨z.wq k,19,none⟩=some (ptr b))
   (exact U161)
   (first|(go_at_call 93;refine(c0.o _ U4).r ?_)|(go_at_call 244;refine(c1.o _ U4 U19).mono ?_;rintro ev w2 ⟨rfl,H2,y19⟩))
  all_goals
   go_wp2_with fail
   (try simp only[Exit.inBlock,Exit.then]);refine bodyPost_ret (results_none rfl _ _ _) rfl ?_
   exact⟨rfl,by first|exact H2|exact H2.drew⟩
 ·cases hw:r'.iG
  all_goals
   rw[hw]at c2;rw[hov,hw]at HX;rw[hov]at c1;clear hov hw;simp only[if_true,if_false,Bool.false_eq_true,reduceIte]at HX;obtain rfl:Z=_:=HX.o;clear HX;go_enter func179,ntmps179;go_upto_region 0 with fail
   go_region_held3 (λw'=>w'.cell? ⟨z.wq k,19,none⟩=some (ptr b))
    (exact U161)
    (first|(go_at_call 93;refine(c0.o _ U4).r ?_)|(go_at_call 244;refine(c1.o _ U4 U19).mono ?_;rintro ev w2 ⟨rfl,H2,y19⟩))
  ·all_goals
    go_wp2_with (first|(go_at_call 245;refine(c2.o _ U48 (by first|exact y19|exact kd y19)).r ?_)|(go_at_call 146;refine(c3.o _ U48).q λw4 H4=> ?_))
    go_end0
    exact⟨rfl,H4⟩
  ·all_goals
    have z2:=H2.fz;have y2:=H2.cell 2 _ rfl;have y7:=H2.cell 7 _ rfl;have y1:=H2.cell 1 _ rfl;have H4:=((H2).set 2 ↑x.other {x with np:=some r',Sa:=x.other} ⟨rfl,rfl,rfl,rfl,rfl⟩ (λ_ _ _ _ _ _=>rfl)).set 1 (.int .i64 21) {x with np:=some r',Sa:=x.other,R8:=21} ⟨rfl,rfl,rfl,rfl,rfl⟩ (λ_ _ _ _ _ _=>rfl)
    go_wp2_with (go_at_call 245;refine(c2.o _ U48 (by first|exact y19|exact kd y19)).r ?_)
    (try simp only[Exit.inBlock,Exit.then]);refine bodyPost_ret (results_none rfl _ _ _) rfl ?_
    exact⟨rfl,by first|exact H4|exact H4.drew⟩
end Go.Proofs.YteiignfflbmafaaGreat.Tp
