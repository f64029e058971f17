/- TopOne, part 11. -/
import Derived.Test.YteiignfflbmafaaGreatQ2
import Derived.Test.YteiignfflbmafaaGreatQ10
set_option linter.unusedVariables false
set_option linter.unusedSimpArgs false
set_option maxRecDepth 100000
set_option maxHeartbeats 8000000
namespace Go.Proofs.YteiignfflbmafaaGreat.Tp
open Go.Proofs.Tryz
open Go.RowKit Go.Proofs.YteiignfflbmafaaGreat.Tok
variable {z:Lay} {l:List WS} {k:Nat} {w:World} {m:Co} {x:WS}
theorem Us2 {p:Prop} (h:p:=by
 unfold Pl.v at c4;rw[show((m.Si i).RY)=m.RY from rfl]at c6 TW;rw[show((m.Si i).pl)=m.pl from rfl]at c6 TW;generalize((m.Si i).leave p)=MM2 at*;generalize(m.Si i)=MM1 at*;generalize 19*i=I at*;go_enter func175,ntmps175
 go_upto_region 1 with(go_at_call 139;refine c0.o.r ?_)
 go_region_held3 (λw'=>w'.cell? ⟨z.wq k,2,none⟩=some ↑i)
  (first|exact FS.o _ HC|exact FS.o _ HC.drew|exact(FT.out _ HC).1)
  (first|(go_at_call 34;refine(c1.o _ U5).r ?_)|(go_at_call 239;refine(c2.o _ U5).q λw2 HC=> ?_))
 obtain⟨y2,z2,HC⟩:=FT.out _ U15;go_upto_region 3 with fail;generalize w2.setCell ⟨z.wq k,2,none⟩ (.int .i64 0)=W at*;clear y2 z2 xa
 go_upto_region 5 with(first|(go_at_call 93;refine(c3.o _ U5).r ?_)|(go_at_call 91;refine(c4.o _ U5).q λw5 hb5=> ?_;replace HC:=(by first|exact HC.ai hb5|exact HC.drew.ai hb5|exact HC.drew.drew.ai hb5:A1 z l k w5 _ _))|(go_at_call 129;refine(c5.o _).q λw6 hb6=> ?_;replace HC:=(by first|exact HC.ai hb6|exact HC.drew.ai hb6:A1 z l k w6 _ _))|(go_at_call 145;refine(c6.o _ U5).mono ?_;rintro ev w7 ⟨rfl,s7,k7⟩;replace HC:=(by first|exact TW.out _ _ HC s7 k7|exact TW.out _ _ HC.drew s7 k7:A1 z l k w7 _ _)))
 all_goals
  replace HC:=(by first|exact HC|exact HC.drew:A1 z l k _ _ _);have y12:=E12.out _ HC
  go_wp2_with (go_at_call 240;refine(c7.o _ U5).q λw5 H5=> ?_)
  go_end0
  exact⟨rfl,H5⟩):p:=h
theorem A1.xx(h:A1 z l k w m x)(p:Nat)(hp:m.ok p)(her:x.er=0)(hew:x.ew=true):Cs 240 #[ptr (z.wq k),ptr z.c,p] w (.tuple #[]) λw'=>A1 z l k w' m (x.takes p (m.fr p).kind):=by
 have c1:=Hd (λw (h:A1 z l k w m x)=>h.uW p hp);have bg:=af.new w #[ptr (z.wq k)] 65 _ rfl;have HC:=h.alloc (.cells #[ptr (z.wq k)] 65);have y14:(w.alloc (.cells #[ptr (z.wq k)] 65)).cell? ⟨z.wq k,14,none⟩=some (.int .i64 0):=HC.cell 14 _ (by rw[<-her];rfl);have y15:(w.alloc (.cells #[ptr (z.wq k)] 65)).cell? ⟨z.wq k,15,none⟩=some (.bool true):=HC.cell 15 _ (by rw[<-hew];rfl);have yb:(w.alloc (.cells #[ptr (z.wq k)] 65)).cell? ⟨w.heap.size,0,none⟩=some (ptr (z.wq k)):=bg.cell 0;have bl:=bg.lt;clear h her hew bg;generalize x.takes p (m.fr p).kind=X at*;go_enter func240,ntmps240;go_upto_region 1 with fail;generalize w.alloc (.cells #[ptr (z.wq k)] 65)=W at*;generalize w.heap.size=bv at*;go_upto_region 3 with fail;replace HC:=HC.alloc (.cells #[(0:Int)] 3);replace y15:=kc (o:=.cells #[(0:Int)] 3) y15;replace yb:=kc (o:=.cells #[(0:Int)] 3) yb;have yt:(W.alloc (.cells #[(0:Int)] 3)).cell? ⟨W.heap.size,0,none⟩=some (.int .i64 0):=(af.new W #[(0:Int)] 3 _ rfl).cell 0;generalize W.alloc (.cells #[(0:Int)] 3)=W2 at*;generalize W.heap.size=bt at*
 go_wp2_with (go_at_call 135;refine(c1.o _ U5).q λw5 H5=> ?_)
 go_end0
 exact⟨rfl,H5⟩
theorem A1.zy(h:A1 z l k w m x)(p:Int)(her:x.er=0)(hew:x.ew=false):Cs 240 #[ptr (z.wq k),ptr z.c,p] w (.tuple #[]) λw'=>A1 z l k w' m (x.goes m.pl):=by
 have c1:=Hd (λw (h:A1 z l k w m x)=>h.q9);have bg:=af.new w #[ptr (z.wq k)] 65 _ rfl;have HC:=h.alloc (.cells #[ptr (z.wq k)] 65);have y14:(w.alloc (.cells #[ptr (z.wq k)] 65)).cell? ⟨z.wq k,14,none⟩=some (.int .i64 0):=HC.cell 14 _ (by rw[<-her];rfl);have y15:(w.alloc (.cells #[ptr (z.wq k)] 65)).cell? ⟨z.wq k,15,none⟩=some (.bool false):=HC.cell 15 _ (by rw[<-hew];rfl);have yb:(w.alloc (.cells #[ptr (z.wq k)] 65)).cell? ⟨w.heap.size,0,none⟩=some (ptr (z.wq k)):=bg.cell 0;have bl:=bg.lt;clear h her hew bg;generalize x.goes m.pl=X at*;go_enter func240,ntmps240;go_upto_region 1 with fail;generalize w.alloc (.cells #[ptr (z.wq k)] 65)=W at*;generalize w.heap.size=bv at*;go_upto_region 3 with fail;replace HC:=HC.alloc (.cells #[(0:Int)] 3);replace y15:=kc (o:=.cells #[(0:Int)] 3) y15;replace yb:=kc (o:=.cells #[(0:Int)] 3) yb;have yt:(W.alloc (.cells #[(0:Int)] 3)).cell? ⟨W.heap.size,0,none⟩=some (.int .i64 0):=(af.new W #[(0:Int)] 3 _ rfl).cell 0;generalize W.alloc (.cells #[(0:Int)] 3)=W2 at*;generalize W.heap.size=bt at*
 go_wp2_with (go_at_call 146;refine(c1.o _ U5).q λw5 H5=> ?_)
 go_end0
 exact⟨rfl,H5⟩
theorem A1.wY(h:A1 z l k w m x)(i p:Nat)(hi:m.ok i)(hx:x.Sa=i)(ha:m.gG)(hpa:(m.fr i).Sg=p)(heh:x.eh=true)(heb:x.eb=true):Cs 175 #[ptr (z.wq k),ptr z.c] w (.tuple #[]) λw'=>A1 z l k w' ((m.Si i).leave p) {x with Sa:=0,other:=p,R8:=17}:=by
 have c0:=Hd (h.aT i hi hx);have xa:w.cell? ⟨z.fr,19*i+11,none⟩=some ↑p:=h.frame i hi 11 U0 _ U35;have c1:=Hd (λw (h:A1 z l k w m x)=>h.dZ);have c2:=Hd (λw (h:A1 z l k w m x)=>h.free i hi ha);have FS:=Hd (λw (h:A1 z l k w m x)=>(h.cell 2 _ U21:w.cell? ⟨z.wq k,2,none⟩=some ↑i));have FT:=Hd (λw (h:A1 z l k w (m.Si i) x)=>(⟨h.cell 2 _ U21,h.fz,(h).set 2 (.int .i64 0) {x with Sa:=0} ⟨rfl,rfl,rfl,rfl,rfl⟩ (λ_ _ _ _ _ _=>rfl)⟩:w.cell? ⟨z.wq k,2,none⟩=some ↑i/\(∀j,w.frozen? ⟨z.wq k,j,none⟩=false)/\A1 z l k (w.setCell ⟨z.wq k,2,none⟩ (.int .i64 0)) (m.Si i) {x with Sa:=0}));have c3:=Hd (λw (h:A1 z l k w (m.Si i) {x with Sa:=0})=>h.aN);have c4:=Hd (λw (h:A1 z l k w (m.Si i) {x with Sa:=0})=>h.fP);have c5:=Hd (λw=>bX m.pl h.bQ p w);have c6:=Hd (λw (h:A1 z l k w (m.Si i) {x with Sa:=0})=>eG w z.ws z.wd (m.Si i).RY ((m.Si i).pl.fN p) (jC _ h.bQ p (m.Si i).RY h.bU) h.RY);have TW:=Hd (λ(w w3:World) (h:A1 z l k w (m.Si i) {x with Sa:=0}) s3 (K:Kept (One z.wd) w w3)=>(show A1 z l k w3 ((m.Si i).leave p) {x with Sa:=0}from h.aC ((m.Si i).RY.set ((m.Si i).pl.fN p) (wrap64 ((m.Si i).RY.getD ((m.Si i).pl.fN p) 0+ -1))) s3 U8 K));rw[show(m.Si i).pl=m.pl from rfl]at c4;have HL:=(show(m.Si i).last p=((m.Si i).RY.getD ((m.Si i).pl.fN p) 0==1)from rfl);rw[<-HL]at c6;have E12:=Hd (λw (h:A1 z l k w ((m.Si i).leave p) {x with Sa:=0})=>(h.cell 12 _ U86:w.cell? ⟨z.wq k,12,none⟩=some (.bool true)));have E13:=Hd (λw (h:A1 z l k w ((m.Si i).leave p) {x with Sa:=0})=>(h.cell 13 _ (by rw[<-heb];rfl):w.cell? ⟨z.wq k,13,none⟩=some (.bool true)))
 have FE:=Hd (λw (h:A1 z l k w ((m.Si i).leave p) {x with Sa:=0})=>(⟨h.cell 7 _ rfl,h.cell 1 _ rfl,h.fz,((h).set 7 ↑p {x with Sa:=0,other:=p} ⟨rfl,rfl,rfl,rfl,rfl⟩ (λ_ _ _ _ _ _=>rfl)).set 1 (.int .i64 17) {x with Sa:=0,other:=p,R8:=17} ⟨rfl,rfl,rfl,rfl,rfl⟩ (λ_ _ _ _ _ _=>rfl)⟩:w.cell? ⟨z.wq k,7,none⟩=some ↑x.other/\w.cell? ⟨z.wq k,1,none⟩=some ↑x.R8/\(∀j,w.frozen? ⟨z.wq k,j,none⟩=false)/\A1 z l k ((w.setCell ⟨z.wq k,7,none⟩ ↑p).setCell ⟨z.wq k,1,none⟩ (.int .i64 17)) ((m.Si i).leave p) {x with Sa:=0,other:=p,R8:=17}));have HC:=h;clear h hx ha hpa heh HL hi heb;generalize(m.Si i).last p=LA at*;unfold Pl.v at c4;rw[show((m.Si i).RY)=m.RY from rfl]at c6 TW;rw[show((m.Si i).pl)=m.pl from rfl]at c6 TW;generalize((m.Si i).leave p)=MM2 at*;generalize(m.Si i)=MM1 at*;generalize 19*i=I at*;go_enter func175,ntmps175
 go_upto_region 1 with(go_at_call 139;refine c0.o.r ?_)
 go_region_held3 (λw'=>w'.cell? ⟨z.wq k,2,none⟩=some ↑i)
  (first|exact FS.o _ HC|exact FS.o _ HC.drew|exact(FT.out _ HC).1)
  (first|(go_at_call 34;refine(c1.o _ U5).r ?_)|(go_at_call 239;refine(c2.o _ U5).q λw2 HC=> ?_))
 obtain⟨y2,z2,HC⟩:=FT.out _ U15;go_upto_region 3 with fail;generalize w2.setCell ⟨z.wq k,2,none⟩ (.int .i64 0)=W at*;clear y2 z2 xa
 go_upto_region 5 with(first|(go_at_call 93;refine(c3.o _ U5).r ?_)|(go_at_call 91;refine(c4.o _ U5).q λw5 hb5=> ?_;replace HC:=(by first|exact HC.ai hb5|exact HC.drew.ai hb5|exact HC.drew.drew.ai hb5:A1 z l k w5 _ _))|(go_at_call 129;refine(c5.o _).q λw6 hb6=> ?_;replace HC:=(by first|exact HC.ai hb6|exact HC.drew.ai hb6:A1 z l k w6 _ _))|(go_at_call 145;refine(c6.o _ U5).mono ?_;rintro ev w7 ⟨rfl,s7,k7⟩;replace HC:=(by first|exact TW.out _ _ HC s7 k7|exact TW.out _ _ HC.drew s7 k7:A1 z l k w7 _ _)))
 all_goals
  replace HC:=(by first|exact HC|exact HC.drew:A1 z l k _ _ _);have y12:=E12.out _ HC;have y13:=E13.out _ HC;obtain⟨y7,y1,z1,H5⟩:=FE.out _ HC;go_wp2_with fail
  go_end0
  exact⟨rfl,H5⟩
theorem A1.zq(h:A1 z l k w m x)(i p:Nat)(hi:m.ok i)(hx:x.Sa=i)(ha:m.gG)(hpa:(m.fr i).Sg=p)(heh:x.eh=true)(heb:x.eb=false):Cs 175 #[ptr (z.wq k),ptr z.c] w (.tuple #[]) λw'=>A1 z l k w' ((m.Si i).leave p) {x with Sa:=p,R8:=19}:=by
 have c0:=Hd (h.aT i hi hx);have xa:w.cell? ⟨z.fr,19*i+11,none⟩=some ↑p:=h.frame i hi 11 U0 _ U35;have c1:=Hd (λw (h:A1 z l k w m x)=>h.dZ);have c2:=Hd (λw (h:A1 z l k w m x)=>h.free i hi ha);have FS:=Hd (λw (h:A1 z l k w m x)=>(h.cell 2 _ U21:w.cell? ⟨z.wq k,2,none⟩=some ↑i));have FT:=Hd (λw (h:A1 z l k w (m.Si i) x)=>(⟨h.cell 2 _ U21,h.fz,(h).set 2 (.int .i64 0) {x with Sa:=0} ⟨rfl,rfl,rfl,rfl,rfl⟩ (λ_ _ _ _ _ _=>rfl)⟩:w.cell? ⟨z.wq k,2,none⟩=some ↑i/\(∀j,w.frozen? ⟨z.wq k,j,none⟩=false)/\A1 z l k (w.setCell ⟨z.wq k,2,none⟩ (.int .i64 0)) (m.Si i) {x with Sa:=0}));have c3:=Hd (λw (h:A1 z l k w (m.Si i) {x with Sa:=0})=>h.aN);have c4:=Hd (λw (h:A1 z l k w (m.Si i) {x with Sa:=0})=>h.fP);have c5:=Hd (λw=>bX m.pl h.bQ p w);have c6:=Hd (λw (h:A1 z l k w (m.Si i) {x with Sa:=0})=>eG w z.ws z.wd (m.Si i).RY ((m.Si i).pl.fN p) (jC _ h.bQ p (m.Si i).RY h.bU) h.RY);have TW:=Hd (λ(w w3:World) (h:A1 z l k w (m.Si i) {x with Sa:=0}) s3 (K:Kept (One z.wd) w w3)=>(show A1 z l k w3 ((m.Si i).leave p) {x with Sa:=0}from h.aC ((m.Si i).RY.set ((m.Si i).pl.fN p) (wrap64 ((m.Si i).RY.getD ((m.Si i).pl.fN p) 0+ -1))) s3 U8 K));rw[show(m.Si i).pl=m.pl from rfl]at c4;have HL:=(show(m.Si i).last p=((m.Si i).RY.getD ((m.Si i).pl.fN p) 0==1)from rfl);rw[<-HL]at c6;have E12:=Hd (λw (h:A1 z l k w ((m.Si i).leave p) {x with Sa:=0})=>(h.cell 12 _ U86:w.cell? ⟨z.wq k,12,none⟩=some (.bool true)));have E13:=Hd (λw (h:A1 z l k w ((m.Si i).leave p) {x with Sa:=0})=>(h.cell 13 _ (by rw[<-heb];rfl):w.cell? ⟨z.wq k,13,none⟩=some (.bool false)))
 have c7:=Hd (λw (h:A1 z l k w ((m.Si i).leave p) {x with Sa:=0})=>h.uT p);have HC:=h;clear h hx ha hpa heh HL hi heb;generalize(m.Si i).last p=LA at*;unfold Pl.v at c4;rw[show((m.Si i).RY)=m.RY from rfl]at c6 TW;rw[show((m.Si i).pl)=m.pl from rfl]at c6 TW;generalize((m.Si i).leave p)=MM2 at*;generalize(m.Si i)=MM1 at*;generalize 19*i=I at*;go_enter func175,ntmps175
 go_upto_region 1 with(go_at_call 139;refine c0.o.r ?_)
 go_region_held3 (λw'=>w'.cell? ⟨z.wq k,2,none⟩=some ↑i)
  (first|exact FS.o _ HC|exact FS.o _ HC.drew|exact(FT.out _ HC).1)
  (first|(go_at_call 34;refine(c1.o _ U5).r ?_)|(go_at_call 239;refine(c2.o _ U5).q λw2 HC=> ?_))
 obtain⟨y2,z2,HC⟩:=FT.out _ U15;go_upto_region 3 with fail;generalize w2.setCell ⟨z.wq k,2,none⟩ (.int .i64 0)=W at*;clear y2 z2 xa
 go_upto_region 5 with(first|(go_at_call 93;refine(c3.o _ U5).r ?_)|(go_at_call 91;refine(c4.o _ U5).q λw5 hb5=> ?_;replace HC:=(by first|exact HC.ai hb5|exact HC.drew.ai hb5|exact HC.drew.drew.ai hb5:A1 z l k w5 _ _))|(go_at_call 129;refine(c5.o _).q λw6 hb6=> ?_;replace HC:=(by first|exact HC.ai hb6|exact HC.drew.ai hb6:A1 z l k w6 _ _))|(go_at_call 145;refine(c6.o _ U5).mono ?_;rintro ev w7 ⟨rfl,s7,k7⟩;replace HC:=(by first|exact TW.out _ _ HC s7 k7|exact TW.out _ _ HC.drew s7 k7:A1 z l k w7 _ _)))
 all_goals
  replace HC:=(by first|exact HC|exact HC.drew:A1 z l k _ _ _);have y12:=E12.out _ HC;have y13:=E13.out _ HC
  go_wp2_with (go_at_call 211;refine(c7.o _ U5).q λw5 H5=> ?_)
  go_end0
  exact⟨rfl,H5⟩
theorem A1.zo(h:A1 z l k w m x)(i p:Nat)(hi:m.ok i)(hx:x.Sa=i)(ha:m.gG)(hpa:(m.fr i).Sg=p)(heh:x.eh=false)(hla:(m.Si i).last p=true):Cs 175 #[ptr (z.wq k),ptr z.c] w (.tuple #[]) λw'=>A1 z l k w' ((m.Si i).leave p) {x with Sa:=p,R8:=18}:=by
 have c0:=Hd (h.aT i hi hx);have xa:w.cell? ⟨z.fr,19*i+11,none⟩=some ↑p:=h.frame i hi 11 U0 _ U35;have c1:=Hd (λw (h:A1 z l k w m x)=>h.dZ);have c2:=Hd (λw (h:A1 z l k w m x)=>h.free i hi ha);have FS:=Hd (λw (h:A1 z l k w m x)=>(h.cell 2 _ U21:w.cell? ⟨z.wq k,2,none⟩=some ↑i));have FT:=Hd (λw (h:A1 z l k w (m.Si i) x)=>(⟨h.cell 2 _ U21,h.fz,(h).set 2 (.int .i64 0) {x with Sa:=0} ⟨rfl,rfl,rfl,rfl,rfl⟩ (λ_ _ _ _ _ _=>rfl)⟩:w.cell? ⟨z.wq k,2,none⟩=some ↑i/\(∀j,w.frozen? ⟨z.wq k,j,none⟩=false)/\A1 z l k (w.setCell ⟨z.wq k,2,none⟩ (.int .i64 0)) (m.Si i) {x with Sa:=0}));have c3:=Hd (λw (h:A1 z l k w (m.Si i) {x with Sa:=0})=>h.aN);have c4:=Hd (λw (h:A1 z l k w (m.Si i) {x with Sa:=0})=>h.fP);have c5:=Hd (λw=>bX m.pl h.bQ p w);have c6:=Hd (λw (h:A1 z l k w (m.Si i) {x with Sa:=0})=>eG w z.ws z.wd (m.Si i).RY ((m.Si i).pl.fN p) (jC _ h.bQ p (m.Si i).RY h.bU) h.RY);have TW:=Hd (λ(w w3:World) (h:A1 z l k w (m.Si i) {x with Sa:=0}) s3 (K:Kept (One z.wd) w w3)=>(show A1 z l k w3 ((m.Si i).leave p) {x with Sa:=0}from h.aC ((m.Si i).RY.set ((m.Si i).pl.fN p) (wrap64 ((m.Si i).RY.getD ((m.Si i).pl.fN p) 0+ -1))) s3 U8 K));rw[show(m.Si i).pl=m.pl from rfl]at c4;have HL:=(show(m.Si i).last p=((m.Si i).RY.getD ((m.Si i).pl.fN p) 0==1)from rfl);rw[hla]at HL;rw[<-HL]at c6;have E12:=Hd (λw (h:A1 z l k w ((m.Si i).leave p) {x with Sa:=0})=>(h.cell 12 _ U86:w.cell? ⟨z.wq k,12,none⟩=some (.bool false)));have FE:=Hd (λw (h:A1 z l k w ((m.Si i).leave p) {x with Sa:=0})=>(⟨h.cell 2 _ rfl,h.cell 1 _ rfl,h.fz,((h).set 2 ↑p {x with Sa:=p} ⟨rfl,rfl,rfl,rfl,rfl⟩ (λ_ _ _ _ _ _=>rfl)).set 1 (.int .i64 18) {x with Sa:=p,R8:=18} ⟨rfl,rfl,rfl,rfl,rfl⟩ (λ_ _ _ _ _ _=>rfl)⟩:w.cell? ⟨z.wq k,2,none⟩=some (.int .i64 0)/\w.cell? ⟨z.wq k,1,none⟩=some ↑x.R8/\(∀j,w.frozen? ⟨z.wq k,j,none⟩=false)/\A1 z l k ((w.setCell ⟨z.wq k,2,none⟩ ↑p).setCell ⟨z.wq k,1,none⟩ (.int .i64 18)) ((m.Si i).leave p) {x with Sa:=p,R8:=18}))
 have HC:=h;clear h hx ha hpa heh HL hi hla;unfold Pl.v at c4;rw[show((m.Si i).RY)=m.RY from rfl]at c6 TW;rw[show((m.Si i).pl)=m.pl from rfl]at c6 TW;generalize((m.Si i).leave p)=MM2 at*;generalize(m.Si i)=MM1 at*;generalize 19*i=I at*;go_enter func175,ntmps175
 go_upto_region 1 with(go_at_call 139;refine c0.o.r ?_)
 go_region_held3 (λw'=>w'.cell? ⟨z.wq k,2,none⟩=some ↑i)
  (first|exact FS.o _ HC|exact FS.o _ HC.drew|exact(FT.out _ HC).1)
  (first|(go_at_call 34;refine(c1.o _ U5).r ?_)|(go_at_call 239;refine(c2.o _ U5).q λw2 HC=> ?_))
 obtain⟨y2,z2,HC⟩:=FT.out _ U15;go_upto_region 3 with fail;generalize w2.setCell ⟨z.wq k,2,none⟩ (.int .i64 0)=W at*;clear y2 z2 xa
 go_upto_region 5 with(first|(go_at_call 93;refine(c3.o _ U5).r ?_)|(go_at_call 91;refine(c4.o _ U5).q λw5 hb5=> ?_;replace HC:=(by first|exact HC.ai hb5|exact HC.drew.ai hb5|exact HC.drew.drew.ai hb5:A1 z l k w5 _ _))|(go_at_call 129;refine(c5.o _).q λw6 hb6=> ?_;replace HC:=(by first|exact HC.ai hb6|exact HC.drew.ai hb6:A1 z l k w6 _ _))|(go_at_call 145;refine(c6.o _ U5).mono ?_;rintro ev w7 ⟨rfl,s7,k7⟩;replace HC:=(by first|exact TW.out _ _ HC s7 k7|exact TW.out _ _ HC.drew s7 k7:A1 z l k w7 _ _)))
 all_goals
  replace HC:=(by first|exact HC|exact HC.drew:A1 z l k _ _ _);have y12:=E12.out _ HC;obtain⟨y2,y1,z1,H5⟩:=FE.out _ HC;go_wp2_with fail
  go_end0
  exact⟨rfl,H5⟩
theorem A1.wZ(h:A1 z l k w m x)(i p:Nat)(hi:m.ok i)(hx:x.Sa=i)(ha:m.gG)(hpa:(m.fr i).Sg=p)(heh:x.eh=false)(hla:(m.Si i).last p=false)(her:x.er=0)(hew:x.ew=true)(hp2:((m.Si i).leave p).ok p):Cs 175 #[ptr (z.wq k),ptr z.c] w (.tuple #[]) λw'=>A1 z l k w' ((m.Si i).leave p) (({x with Sa:=0}:WS).takes p (m.fr p).kind):=by
 have c0:=Hd (h.aT i hi hx);have xa:w.cell? ⟨z.fr,19*i+11,none⟩=some ↑p:=h.frame i hi 11 U0 _ U35;have c1:=Hd (λw (h:A1 z l k w m x)=>h.dZ);have c2:=Hd (λw (h:A1 z l k w m x)=>h.free i hi ha);have FS:=Hd (λw (h:A1 z l k w m x)=>(h.cell 2 _ U21:w.cell? ⟨z.wq k,2,none⟩=some ↑i));have FT:=Hd (λw (h:A1 z l k w (m.Si i) x)=>(⟨h.cell 2 _ U21,h.fz,(h).set 2 (.int .i64 0) {x with Sa:=0} ⟨rfl,rfl,rfl,rfl,rfl⟩ (λ_ _ _ _ _ _=>rfl)⟩:w.cell? ⟨z.wq k,2,none⟩=some ↑i/\(∀j,w.frozen? ⟨z.wq k,j,none⟩=false)/\A1 z l k (w.setCell ⟨z.wq k,2,none⟩ (.int .i64 0)) (m.Si i) {x with Sa:=0}));have c3:=Hd (λw (h:A1 z l k w (m.Si i) {x with Sa:=0})=>h.aN);have c4:=Hd (λw (h:A1 z l k w (m.Si i) {x with Sa:=0})=>h.fP);have c5:=Hd (λw=>bX m.pl h.bQ p w);have c6:=Hd (λw (h:A1 z l k w (m.Si i) {x with Sa:=0})=>eG w z.ws z.wd (m.Si i).RY ((m.Si i).pl.fN p) (jC _ h.bQ p (m.Si i).RY h.bU) h.RY);have TW:=Hd (λ(w w3:World) (h:A1 z l k w (m.Si i) {x with Sa:=0}) s3 (K:Kept (One z.wd) w w3)=>(show A1 z l k w3 ((m.Si i).leave p) {x with Sa:=0}from h.aC ((m.Si i).RY.set ((m.Si i).pl.fN p) (wrap64 ((m.Si i).RY.getD ((m.Si i).pl.fN p) 0+ -1))) s3 U8 K));rw[show(m.Si i).pl=m.pl from rfl]at c4;have HL:=(show(m.Si i).last p=((m.Si i).RY.getD ((m.Si i).pl.fN p) 0==1)from rfl);rw[hla]at HL;rw[<-HL]at c6;have E12:=Hd (λw (h:A1 z l k w ((m.Si i).leave p) {x with Sa:=0})=>(h.cell 12 _ U86:w.cell? ⟨z.wq k,12,none⟩=some (.bool false)));have c7:=Hd (λw (h:A1 z l k w ((m.Si i).leave p) {x with Sa:=0})=>h.xx p hp2 her hew)
 rw[show((m.Si i).leave p).fr p=m.fr p from rfl]at c7;have HC:=h;clear h hx ha hpa heh HL hi hla her hew hp2
 exact Us2
theorem A1.zn(h:A1 z l k w m x)(i p:Nat)(hi:m.ok i)(hx:x.Sa=i)(ha:m.gG)(hpa:(m.fr i).Sg=p)(heh:x.eh=false)(hla:(m.Si i).last p=false)(her:x.er=0)(hew:x.ew=false):Cs 175 #[ptr (z.wq k),ptr z.c] w (.tuple #[]) λw'=>A1 z l k w' ((m.Si i).leave p) (({x with Sa:=0}:WS).goes m.pl):=by
 have c0:=Hd (h.aT i hi hx);have xa:w.cell? ⟨z.fr,19*i+11,none⟩=some ↑p:=h.frame i hi 11 U0 _ U35;have c1:=Hd (λw (h:A1 z l k w m x)=>h.dZ);have c2:=Hd (λw (h:A1 z l k w m x)=>h.free i hi ha);have FS:=Hd (λw (h:A1 z l k w m x)=>(h.cell 2 _ U21:w.cell? ⟨z.wq k,2,none⟩=some ↑i));have FT:=Hd (λw (h:A1 z l k w (m.Si i) x)=>(⟨h.cell 2 _ U21,h.fz,(h).set 2 (.int .i64 0) {x with Sa:=0} ⟨rfl,rfl,rfl,rfl,rfl⟩ (λ_ _ _ _ _ _=>rfl)⟩:w.cell? ⟨z.wq k,2,none⟩=some ↑i/\(∀j,w.frozen? ⟨z.wq k,j,none⟩=false)/\A1 z l k (w.setCell ⟨z.wq k,2,none⟩ (.int .i64 0)) (m.Si i) {x with Sa:=0}));have c3:=Hd (λw (h:A1 z l k w (m.Si i) {x with Sa:=0})=>h.aN);have c4:=Hd (λw (h:A1 z l k w (m.Si i) {x with Sa:=0})=>h.fP);have c5:=Hd (λw=>bX m.pl h.bQ p w);have c6:=Hd (λw (h:A1 z l k w (m.Si i) {x with Sa:=0})=>eG w z.ws z.wd (m.Si i).RY ((m.Si i).pl.fN p) (jC _ h.bQ p (m.Si i).RY h.bU) h.RY);have TW:=Hd (λ(w w3:World) (h:A1 z l k w (m.Si i) {x with Sa:=0}) s3 (K:Kept (One z.wd) w w3)=>(show A1 z l k w3 ((m.Si i).leave p) {x with Sa:=0}from h.aC ((m.Si i).RY.set ((m.Si i).pl.fN p) (wrap64 ((m.Si i).RY.getD ((m.Si i).pl.fN p) 0+ -1))) s3 U8 K));rw[show(m.Si i).pl=m.pl from rfl]at c4;have HL:=(show(m.Si i).last p=((m.Si i).RY.getD ((m.Si i).pl.fN p) 0==1)from rfl);rw[hla]at HL;rw[<-HL]at c6;have E12:=Hd (λw (h:A1 z l k w ((m.Si i).leave p) {x with Sa:=0})=>(h.cell 12 _ U86:w.cell? ⟨z.wq k,12,none⟩=some (.bool false)));have c7:=Hd (λw (h:A1 z l k w ((m.Si i).leave p) {x with Sa:=0})=>h.zy p her hew)
 rw[show((m.Si i).leave p).pl=m.pl from rfl]at c7;have HC:=h;clear h hx ha hpa heh HL hi hla her hew
 exact Us2
theorem Us22 {p:Prop} (h:p:=by
 go_wp2_with (go_at_call 138;refine(c1.o _ U15).q λw3 H3=> ?_)
 (try simp only[Exit.inBlock,Exit.then]);refine bodyPost_ret (results_none rfl _ _ _) rfl ?_
 exact⟨rfl,H3⟩):p:=h
def jE(R:Sp.Rg):List Value:=[.int .i64 R.r0,R.r1,R.r2,R.r3,R.r4,R.r5,R.r6,R.r7]
theorem ky:(prog.info? 174).map (·.size)=some 8:=by kernel_rfl
theorem jv(R:Sp.Rg):∀v∈jE R,v.oneCell'=true:=by
 intro v hv;simp only[jE,List.mem_cons,List.not_mem_nil,or_false]at hv
 rcases hv with rfl|rfl|rfl|rfl|rfl|rfl|rfl|rfl<;>rfl
theorem A1.jr(h:A1 z l k w m x)(i:Nat)(hi:m.ok i):w.rangeAt z.fr (19*i+3) (jE (m.fr i).rg):=λj v e=>by
 have hj:j<8:=(List.getElem?_eq_some_iff.1 e).1;have q:=h.frame i hi (3+j) U2 v (by
  match j,hj with
  |0,_=>exact e
  |1,_=>exact e
  |2,_=>exact e
  |3,_=>exact e
  |4,_=>exact e
  |5,_=>exact e
  |6,_=>exact e
  |7,_=>exact e)
 rw[Nat.add_assoc]
 exact q
theorem A1.jA(h:A1 z l k w m x)(i:Nat)(hi:m.ok i):w.there z.fr (19*i+3) 8:=λj hj=>by
 have e:(jE (m.fr i).rg)[j]? =some ((jE (m.fr i).rg)[j]'hj):=List.getElem?_eq_getElem hj
 exact⟨by rw[h.jr i hi j _ e];rfl,h.sM _⟩
theorem A1.jw(h:A1 z l k w m x)(p:Nat)(hp:m.ok p)(R:Sp.Rg):A1 z l k (w.setCells z.fr (19*p+3) (jE R)) (m.ak p {m.fr p with rg:=R}) x:=by
 have fl:=h.iB p hp;have h0:=h.aF p hp 3 U0 ↑R.r0 {m.fr p with rg:=⟨R.r0,(m.fr p).rg.r1,(m.fr p).rg.r2,(m.fr p).rg.r3,(m.fr p).rg.r4,(m.fr p).rg.r5,(m.fr p).rg.r6,(m.fr p).rg.r7⟩} rfl;have h1:=h0.aF p hp 4 U0 ↑R.r1 {m.fr p with rg:=⟨R.r0,R.r1,(m.fr p).rg.r2,(m.fr p).rg.r3,(m.fr p).rg.r4,(m.fr p).rg.r5,(m.fr p).rg.r6,(m.fr p).rg.r7⟩} U46;rw[Co.dH]at h1;have h2:=h1.aF p hp 5 U0 ↑R.r2 {m.fr p with rg:=⟨R.r0,R.r1,R.r2,(m.fr p).rg.r3,(m.fr p).rg.r4,(m.fr p).rg.r5,(m.fr p).rg.r6,(m.fr p).rg.r7⟩} U46;rw[Co.dH]at h2;have h3:=h2.aF p hp 6 U0 ↑R.r3 {m.fr p with rg:=⟨R.r0,R.r1,R.r2,R.r3,(m.fr p).rg.r4,(m.fr p).rg.r5,(m.fr p).rg.r6,(m.fr p).rg.r7⟩} U46;rw[Co.dH]at h3;have h4:=h3.aF p hp 7 U0 ↑R.r4 {m.fr p with rg:=⟨R.r0,R.r1,R.r2,R.r3,R.r4,(m.fr p).rg.r5,(m.fr p).rg.r6,(m.fr p).rg.r7⟩} U46;rw[Co.dH]at h4;have h5:=h4.aF p hp 8 U0 ↑R.r5 {m.fr p with rg:=⟨R.r0,R.r1,R.r2,R.r3,R.r4,R.r5,(m.fr p).rg.r6,(m.fr p).rg.r7⟩} U46;rw[Co.dH]at h5;have h6:=h5.aF p hp 9 U0 ↑R.r6 {m.fr p with rg:=⟨R.r0,R.r1,R.r2,R.r3,R.r4,R.r5,R.r6,(m.fr p).rg.r7⟩} U46;rw[Co.dH]at h6;have h7:=h6.aF p hp 10 U0 ↑R.r7 {m.fr p with rg:=⟨R.r0,R.r1,R.r2,R.r3,R.r4,R.r5,R.r6,R.r7⟩} U46;rw[Co.dH]at h7
 exact h7
theorem Co.fU{m:Co}{p i:Nat}{f:Fr}(h:p≠i):(m.ak p f).fr i=m.fr i:=by
 show(m.aJ.set p f).getD i aM=m.aJ.getD i aM
 simp only[List.getD];rw[List.getElem?_set_ne h]
theorem A1.Dj(h:A1 z l k w m x)(i p:Nat)(hi:m.ok i)(hp:m.ok p)(hpi:p≠i)(hpa:(m.fr i).Sg=p)(hk:(m.fr i).kind=2)(hs:(m.fr i).Sc=0):Cs 223 #[ptr (z.wq k),ptr z.c,.pointer (some ⟨z.fr,19*i,none⟩)] w (.tuple #[]) λw'=>A1 z l k w' (m.ak p {m.fr p with rg:=(m.fr i).rg}) {x with eh:=true,eb:=true,er:=0,ew:=false,R8:=14}:=by
 have y0:w.cell? ⟨z.fr,19*i,none⟩=some (.int .i64 2):=h.frame i hi 0 U0 _ U67;have y15:w.cell? ⟨z.fr,19*i+15,none⟩=some (.int .i64 0):=h.frame i hi 15 U0 _ (by rw[<-hs];rfl);have FS:=Hd (λw (h:A1 z l k w m x)=>(⟨h.frame i hi 11 U0 _ U35,h.jr i hi⟩:w.cell? ⟨z.fr,19*i+11,none⟩=some ↑p/\w.rangeAt z.fr (19*i+3) (jE (m.fr i).rg)));have FM:=Hd (λw (h:A1 z l k w (m.ak p {m.fr p with rg:=(m.fr i).rg}) x)=>(⟨h.frame i hi 11 U0 _ (by rw[Co.fU hpi];rw[<-hpa];rfl),Co.fU (m:=m) hpi▸h.jr i hi⟩:w.cell? ⟨z.fr,19*i+11,none⟩=some ↑p/\w.rangeAt z.fr (19*i+3) (jE (m.fr i).rg)));have HRG:=Hd (λw (h:A1 z l k w m x)=>h.jw p hp (m.fr i).rg);have HTH:=Hd (λw (h:A1 z l k w m x)=>(show w.there z.fr (19*p+3) ((jE (m.fr i).rg).toArray.size)from h.jA p hp));have HON:=Hd (jv (m.fr i).rg);have ca:=Hd (λw (h:A1 z l k w m x)=>h.at_ p hp);have HSR:=Hd (show(prog.info? 174).map (·.size)=some (jE (m.fr i).rg).length from ky);have FE:=Hd (λw (h:A1 z l k w (m.ak p {m.fr p with rg:=(m.fr i).rg}) x)=>(⟨h.cell 12 _ rfl,h.cell 13 _ rfl,h.cell 14 _ rfl,h.cell 15 _ rfl,h.cell 1 _ rfl,h.fz,((((h.set 12 (.bool true) {x with eh:=true} ⟨rfl,rfl,rfl,rfl,rfl⟩ (λ_ _ _ _ _ _=>rfl)).set 13 (.bool true) {x with eh:=true,eb:=true} ⟨rfl,rfl,rfl,rfl,rfl⟩ (λ_ _ _ _ _ _=>rfl)).set 14 (.int .i64 0) {x with eh:=true,eb:=true,er:=0} ⟨rfl,rfl,rfl,rfl,rfl⟩ (λ_ _ _ _ _ _=>rfl)).set 15 (.bool false) {x with eh:=true,eb:=true,er:=0,ew:=false} ⟨rfl,rfl,rfl,rfl,rfl⟩ (λ_ _ _ _ _ _=>rfl)).set 1 (.int .i64 14) {x with eh:=true,eb:=true,er:=0,ew:=false,R8:=14} ⟨rfl,rfl,rfl,rfl,rfl⟩ (λ_ _ _ _ _ _=>rfl)⟩:w.cell? ⟨z.wq k,12,none⟩=some (.bool x.eh)/\w.cell? ⟨z.wq k,13,none⟩=some (.bool x.eb)/\w.cell? ⟨z.wq k,14,none⟩=some ↑x.er/\w.cell? ⟨z.wq k,15,none⟩=some (.bool x.ew)/\w.cell? ⟨z.wq k,1,none⟩=some ↑x.R8/\(∀j,w.frozen? ⟨z.wq k,j,none⟩=false)/\
   A1 z l k (((((w.setCell ⟨z.wq k,12,none⟩ (.bool true)).setCell ⟨z.wq k,13,none⟩ (.bool true)).setCell ⟨z.wq k,14,none⟩ (.int .i64 0)).setCell ⟨z.wq k,15,none⟩ (.bool false)).setCell ⟨z.wq k,1,none⟩ (.int .i64 14)) (m.ak p {m.fr p with rg:=(m.fr i).rg}) {x with eh:=true,eb:=true,er:=0,ew:=false,R8:=14}))
 have HC:=h;clear h hpi hpa hk hs hi hp;generalize(m.ak p {m.fr p with rg:=(m.fr i).rg})=M2 at*;generalize jE (m.fr i).rg=rs at*;generalize 19*i=I at*;go_enter func223,ntmps223;go_upto_region 4 with fail;refine wp_region_held_drew (S:=(λw'=>w'.cell? ⟨z.fr,I+11,none⟩=some ↑p/\w'.rangeAt z.fr (I+3) rs)) U7 ?_ (λhHeld=>?_)
 ·exact U119
 replace HC:=HC.drew;refine hU 0 ?_;refine hU 1 ?_;refine hU 2 ?_;refine pz ?_;refine hU 3 ?_;refine hU 4 ?_;refine hU 6 ?_;refine pz ?_;refine hU 7 ?_;refine hU 8 ?_;refine wpAnyH_take (i:=9) (oi:=_) (v:=_) rfl U7 U7 U7 (λ_ _ _ h=>h) (yieldsIf_load_mid (by rfl) _ _ rfl _ _ rfl _ _ (λw q=>q.2) underlying174 rfl HSR.o) U6 ?_;refine pz ?_;refine wpAnyH_ready (rs:=[5]) U7 U8 ?_;refine hA (λK hK=>?_)
 (try simp only[List.getElem_toArray,List.getElem_cons_zero,List.getElem_cons_succ])
 go_simp
 (go_at_call 141;refine(ca.o _ U5).r ?_)
 refine hK.o _ _ ?_ (λhHeld=>?_)
 ·exact U119
 clear hK K;refine pz ?_;refine hU 10 ?_;refine pz ?_;refine hU 11 ?_;refine pz ?_;refine wpAnyH_ready (rs:=[12]) U7 U8 ?_;refine hA (λK hK=>?_)
 (try simp only[List.getElem_toArray,List.getElem_cons_zero,List.getElem_cons_succ])
 rw[if_pos (by rfl)];refine wp_store_mid _ _ _ rfl _ _ (List.toArray _) rfl rfl (HTH.o _ HC) HSR.o (all_oneCell_toArray HON.o) ?_;replace HC:=HRG.o _ HC;refine hK.o _ _ ?_ (λhHeld=>?_)
 ·exact U119
 clear hK K;refine pz ?_;refine wpAnyH_done U7 ?_ _;obtain⟨q1,q2,q3,q4,q5,q6,H5⟩:=FE.out _ HC;clear y0 y15;go_wp2_with fail
 go_end0
 exact⟨rfl,H5⟩
theorem A1.xe(h:A1 z l k w m x)(i:Nat)(hi:m.ok i)(hk:(m.fr i).kind≠2):Cs 223 #[ptr (z.wq k),ptr z.c,.pointer (some ⟨z.fr,19*i,none⟩)] w (.tuple #[]) λw'=>A1 z l k w' (m.stop 4 4) x:=by
 have y0:w.cell? ⟨z.fr,19*i,none⟩=some (.int .i64 (m.fr i).kind):=h.frame i hi 0 U0 _ rfl;have y15:w.cell? ⟨z.fr,19*i+15,none⟩=some (.int .i64 (m.fr i).Sc):=h.frame i hi 15 U0 _ rfl;have c1:=Hd (λw (h:A1 z l k w m x)=>h.jR 4 4);have HC:=h;clear h hi;generalize m.stop 4 4=M at*;generalize(m.fr i).kind=kd at*;generalize(m.fr i).Sc=sg at*;generalize 19*i=I at*;go_enter func223,ntmps223
 exact Us22
theorem A1.xm(h:A1 z l k w m x)(i:Nat)(hi:m.ok i)(hk:(m.fr i).kind=2)(hs:(m.fr i).Sc≠0):Cs 223 #[ptr (z.wq k),ptr z.c,.pointer (some ⟨z.fr,19*i,none⟩)] w (.tuple #[]) λw'=>A1 z l k w' (m.stop 4 5) x:=by
 have y0:w.cell? ⟨z.fr,19*i,none⟩=some (.int .i64 (m.fr i).kind):=h.frame i hi 0 U0 _ rfl;have y15:w.cell? ⟨z.fr,19*i+15,none⟩=some (.int .i64 (m.fr i).Sc):=h.frame i hi 15 U0 _ rfl;have c1:=Hd (λw (h:A1 z l k w m x)=>h.jR 4 5);have HC:=h;clear h hi;generalize m.stop 4 5=M at*;generalize(m.fr i).kind=kd at*;generalize(m.fr i).Sc=sg at*;generalize 19*i=I at*;subst hk;go_enter func223,ntmps223
 exact Us22
theorem A1.zk(h:A1 z l k w m x)(i p:Nat)(hi:m.ok i)(hp:m.ok p)(hpi:p≠i)(hpa:(m.fr i).Sg=p)(hk:(m.fr i).kind=2)(hs:(m.fr i).Sc=0):Cs 224 #[ptr (z.wq k),ptr z.c,.pointer (some ⟨z.fr,19*i,none⟩)] w (.tuple #[]) λw'=>A1 z l k w' (m.ak p {m.fr p with rg:=(m.fr i).rg}) {x with eh:=true,eb:=false,er:=0,ew:=false,R8:=14}:=by
 have y0:w.cell? ⟨z.fr,19*i,none⟩=some (.int .i64 2):=h.frame i hi 0 U0 _ U67;have y15:w.cell? ⟨z.fr,19*i+15,none⟩=some (.int .i64 0):=h.frame i hi 15 U0 _ (by rw[<-hs];rfl);have FS:=Hd (λw (h:A1 z l k w m {x with eh:=true,eb:=false,er:=0,ew:=false})=>(⟨h.frame i hi 11 U0 _ U35,h.jr i hi⟩:w.cell? ⟨z.fr,19*i+11,none⟩=some ↑p/\w.rangeAt z.fr (19*i+3) (jE (m.fr i).rg)));have FM:=Hd (λw (h:A1 z l k w (m.ak p {m.fr p with rg:=(m.fr i).rg}) {x with eh:=true,eb:=false,er:=0,ew:=false})=>(⟨h.frame i hi 11 U0 _ (by rw[Co.fU hpi];rw[<-hpa];rfl),Co.fU (m:=m) hpi▸h.jr i hi⟩:w.cell? ⟨z.fr,19*i+11,none⟩=some ↑p/\w.rangeAt z.fr (19*i+3) (jE (m.fr i).rg)));have HRG:=Hd (λw (h:A1 z l k w m {x with eh:=true,eb:=false,er:=0,ew:=false})=>h.jw p hp (m.fr i).rg);have HTH:=Hd (λw (h:A1 z l k w m {x with eh:=true,eb:=false,er:=0,ew:=false})=>(show w.there z.fr (19*p+3) ((jE (m.fr i).rg).toArray.size)from h.jA p hp));have HON:=Hd (jv (m.fr i).rg);have ca:=Hd (λw (h:A1 z l k w m {x with eh:=true,eb:=false,er:=0,ew:=false})=>h.at_ p hp);have HSR:=Hd (show(prog.info? 174).map (·.size)=some (jE (m.fr i).rg).length from ky);have FE:=Hd (λw (h:A1 z l k w m x)=>(⟨h.cell 12 _ rfl,h.cell 13 _ rfl,h.cell 14 _ rfl,h.cell 15 _ rfl,h.cell 1 _ rfl,h.fz,((((h.set 12 (.bool true) {x with eh:=true} ⟨rfl,rfl,rfl,rfl,rfl⟩ (λ_ _ _ _ _ _=>rfl)).set 13 (.bool false) {x with eh:=true,eb:=false} ⟨rfl,rfl,rfl,rfl,rfl⟩ (λ_ _ _ _ _ _=>rfl)).set 14 (.int .i64 0) {x with eh:=true,eb:=false,er:=0} ⟨rfl,rfl,rfl,rfl,rfl⟩ (λ_ _ _ _ _ _=>rfl)).set 15 (.bool false) {x with eh:=true,eb:=false,er:=0,ew:=false} ⟨rfl,rfl,rfl,rfl,rfl⟩ (λ_ _ _ _ _ _=>rfl))⟩:w.cell? ⟨z.wq k,12,none⟩=some (.bool x.eh)/\w.cell? ⟨z.wq k,13,none⟩=some (.bool x.eb)/\w.cell? ⟨z.wq k,14,none⟩=some ↑x.er/\w.cell? ⟨z.wq k,15,none⟩=some (.bool x.ew)/\w.cell? ⟨z.wq k,1,none⟩=some ↑x.R8/\(∀j,w.frozen? ⟨z.wq k,j,none⟩=false)/\A1 z l k ((((w.setCell ⟨z.wq k,12,none⟩ (.bool true)).setCell ⟨z.wq k,13,none⟩ (.bool false)).setCell ⟨z.wq k,14,none⟩ (.int .i64 0)).setCell ⟨z.wq k,15,none⟩ (.bool false)) m {x with eh:=true,eb:=false,er:=0,ew:=false}))
 have F12:=Hd (λw (h:A1 z l k w m {x with eh:=true,eb:=false,er:=0,ew:=false})=>(h.cell 12 _ rfl:w.cell? ⟨z.wq k,12,none⟩=some (.bool true)));have F1:=Hd (λw (h:A1 z l k w (m.ak p {m.fr p with rg:=(m.fr i).rg}) {x with eh:=true,eb:=false,er:=0,ew:=false})=>(⟨h.cell 1 _ rfl,h.fz,h.set 1 (.int .i64 14) {x with eh:=true,eb:=false,er:=0,ew:=false,R8:=14} ⟨rfl,rfl,rfl,rfl,rfl⟩ (λ_ _ _ _ _ _=>rfl)⟩:w.cell? ⟨z.wq k,1,none⟩=some ↑x.R8/\(∀j,w.frozen? ⟨z.wq k,j,none⟩=false)/\A1 z l k (w.setCell ⟨z.wq k,1,none⟩ (.int .i64 14)) (m.ak p {m.fr p with rg:=(m.fr i).rg}) {x with eh:=true,eb:=false,er:=0,ew:=false,R8:=14}));obtain⟨q1,q2,q3,q4,q5,q6,HC⟩:=FE.out _ h;have r12:=F12.out _ HC;clear h hpi hpa hk hs hi hp FE;generalize(m.ak p {m.fr p with rg:=(m.fr i).rg})=M2 at*;generalize jE (m.fr i).rg=rs at*;generalize 19*i=I at*;go_enter func224,ntmps224;go_upto_region 6 with fail;generalize((((w.setCell ⟨z.wq k,12,none⟩ (.bool true)).setCell ⟨z.wq k,13,none⟩ (.bool false)).setCell ⟨z.wq k,14,none⟩ (.int .i64 0)).setCell ⟨z.wq k,15,none⟩ (.bool false))=W at*;refine wp_region_held_drew (S:=(λw'=>w'.cell? ⟨z.fr,I+11,none⟩=some ↑p/\w'.rangeAt z.fr (I+3) rs)) U7 ?_ (λhHeld=>?_)
 ·exact U119
 replace HC:=HC.drew;refine hU 0 ?_;refine hU 1 ?_;refine pz ?_;refine hU 2 ?_;refine hU 3 ?_;refine hU 4 ?_;refine pz ?_;refine hU 6 ?_;refine hU 7 ?_;refine hU 8 ?_;refine pz ?_;refine wpAnyH_take (i:=9) (oi:=_) (v:=_) rfl U7 U7 U7 (λ_ _ _ h=>h) (yieldsIf_load_mid (by rfl) _ _ rfl _ _ rfl _ _ (λw q=>q.2) underlying174 rfl HSR.o) U6 ?_;refine pz ?_;refine wpAnyH_ready (rs:=[5]) U7 U8 ?_;refine hA (λK hK=>?_)
 (try simp only[List.getElem_toArray,List.getElem_cons_zero,List.getElem_cons_succ])
 go_simp
 (go_at_call 141;refine(ca.o _ U5).r ?_)
 refine hK.o _ _ ?_ (λhHeld=>?_)
 ·exact U119
 clear hK K;refine pz ?_;refine hU 10 ?_;refine hU 11 ?_;refine pz ?_;refine wpAnyH_ready (rs:=[12]) U7 U8 ?_;refine hA (λK hK=>?_)
 (try simp only[List.getElem_toArray,List.getElem_cons_zero,List.getElem_cons_succ])
 rw[if_pos (by rfl)];refine wp_store_mid _ _ _ rfl _ _ (List.toArray _) rfl rfl (HTH.o _ HC) HSR.o (all_oneCell_toArray HON.o) ?_;replace HC:=HRG.o _ HC;refine hK.o _ _ ?_ (λhHeld=>?_)
 ·exact U119
 clear hK K;refine pz ?_;refine wpAnyH_done U7 ?_ _;obtain⟨s1,s2,H5⟩:=F1.out _ HC;clear y0 y15 q1 q2 q3 q4 q5 q6 r12;go_wp2_with fail
 go_end0
 exact⟨rfl,H5⟩
theorem A1.Ii(h:A1 z l k w m x)(i:Nat)(hi:m.ok i)(hk:(m.fr i).kind=2)(hs:(m.fr i).Sc≠0):Cs 224 #[ptr (z.wq k),ptr z.c,.pointer (some ⟨z.fr,19*i,none⟩)] w (.tuple #[]) λw'=>A1 z l k w' m {x with eh:=false,eb:=false,er:=0,ew:=false,R8:=14}:=by
 have y0:w.cell? ⟨z.fr,19*i,none⟩=some (.int .i64 2):=h.frame i hi 0 U0 _ U67;have y15:w.cell? ⟨z.fr,19*i+15,none⟩=some (.int .i64 (m.fr i).Sc):=h.frame i hi 15 U0 _ rfl;have FE:=Hd (λw (h:A1 z l k w m x)=>(⟨h.cell 12 _ rfl,h.cell 13 _ rfl,h.cell 14 _ rfl,h.cell 15 _ rfl,h.cell 1 _ rfl,h.fz,((((h.set 12 (.bool false) {x with eh:=false} ⟨rfl,rfl,rfl,rfl,rfl⟩ (λ_ _ _ _ _ _=>rfl)).set 13 (.bool false) {x with eh:=false,eb:=false} ⟨rfl,rfl,rfl,rfl,rfl⟩ (λ_ _ _ _ _ _=>rfl)).set 14 (.int .i64 0) {x with eh:=false,eb:=false,er:=0} ⟨rfl,rfl,rfl,rfl,rfl⟩ (λ_ _ _ _ _ _=>rfl)).set 15 (.bool false) {x with eh:=false,eb:=false,er:=0,ew:=false} ⟨rfl,rfl,rfl,rfl,rfl⟩ (λ_ _ _ _ _ _=>rfl)).set 1 (.int .i64 14) {x with eh:=false,eb:=false,er:=0,ew:=false,R8:=14} ⟨rfl,rfl,rfl,rfl,rfl⟩ (λ_ _ _ _ _ _=>rfl)⟩:w.cell? ⟨z.wq k,12,none⟩=some (.bool x.eh)/\w.cell? ⟨z.wq k,13,none⟩=some (.bool x.eb)/\w.cell? ⟨z.wq k,14,none⟩=some ↑x.er/\w.cell? ⟨z.wq k,15,none⟩=some (.bool x.ew)/\w.cell? ⟨z.wq k,1,none⟩=some ↑x.R8/\(∀j,w.frozen? ⟨z.wq k,j,none⟩=false)/\A1 z l k (((((w.setCell ⟨z.wq k,12,none⟩ (.bool false)).setCell ⟨z.wq k,13,none⟩ (.bool false)).setCell ⟨z.wq k,14,none⟩ (.int .i64 0)).setCell ⟨z.wq k,15,none⟩ (.bool false)).setCell ⟨z.wq k,1,none⟩ (.int .i64 14)) m {x with eh:=false,eb:=false,er:=0,ew:=false,R8:=14}));obtain⟨q1,q2,q3,q4,q5,q6,H5⟩:=FE.out _ h;have d1:decide ((m.fr i).Sc=0)=false:=decide_eq_false hs;clear h hk hi FE;generalize(m.fr i).Sc=sg at*;generalize 19*i=I at*;go_enter func224,ntmps224
 go_wp2_with fail
 go_end0
 exact⟨rfl,H5⟩
theorem A1.zi(h:A1 z l k w m x)(i:Nat)(hi:m.ok i)(hk:(m.fr i).kind≠2)(hpa:(m.fr i).Sg=0):Cs 224 #[ptr (z.wq k),ptr z.c,.pointer (some ⟨z.fr,19*i,none⟩)] w (.tuple #[]) λw'=>A1 z l k w' (m.stop 1 0) x:=by
 have y0:w.cell? ⟨z.fr,19*i,none⟩=some (.int .i64 (m.fr i).kind):=h.frame i hi 0 U0 _ rfl;have y11:w.cell? ⟨z.fr,19*i+11,none⟩=some (.int .i64 0):=h.frame i hi 11 U0 _ U35;have c1:=Hd (λw (h:A1 z l k w m x)=>h.jR 1 0);have HC:=h;clear h hi;generalize m.stop 1 0=M at*;generalize(m.fr i).kind=kd at*;generalize 19*i=I at*;go_enter func224,ntmps224
 go_wp2_with (go_at_call 138;refine(c1.o _ U15).q λw3 H3=> ?_)
 go_end0
 exact⟨rfl,H3⟩
theorem A1.Ij(h:A1 z l k w m x)(i p:Nat)(hi:m.ok i)(hx:x.Sa=i)(ha:m.gG)(hk:(m.fr i).kind≠2)(hpa:(m.fr i).Sg=p)(hp0:p≠0):Cs 224 #[ptr (z.wq k),ptr z.c,.pointer (some ⟨z.fr,19*i,none⟩)] w (.tuple #[]) λw'=>A1 z l k w' (m.Si i) {x with other:=p,Sa:=0,R8:=7}:=by
 have y0:w.cell? ⟨z.fr,19*i,none⟩=some (.int .i64 (m.fr i).kind):=h.frame i hi 0 U0 _ rfl;have y11:w.cell? ⟨z.fr,19*i+11,none⟩=some ↑p:=h.frame i hi 11 U0 _ U35;have z0:=h.fz;have y7:=h.cell 7 _ rfl;have hp1:¬((p:Int)=0):=by omega
 have d1:decide ((p:Int)=0)=false:=decide_eq_false hp1;have HC:=h.set 7 ↑p {x with other:=p} ⟨rfl,rfl,rfl,rfl,rfl⟩ (λ_ _ _ _ _ _=>rfl);have c1:=Hd (λw (h:A1 z l k w m {x with other:=p})=>h.dZ);have c2:=Hd (λw (h:A1 z l k w m {x with other:=p})=>h.free i hi ha);have FS:=Hd (λw (h:A1 z l k w m {x with other:=p})=>(h.cell 2 _ U21:w.cell? ⟨z.wq k,2,none⟩=some ↑i));have FT:=Hd (λw (h:A1 z l k w (m.Si i) {x with other:=p})=>(⟨h.cell 2 _ U21,h.cell 1 _ rfl,h.fz,(h.set 2 (.int .i64 0) {x with other:=p,Sa:=0} ⟨rfl,rfl,rfl,rfl,rfl⟩ (λ_ _ _ _ _ _=>rfl)).set 1 (.int .i64 7) {x with other:=p,Sa:=0,R8:=7} ⟨rfl,rfl,rfl,rfl,rfl⟩ (λ_ _ _ _ _ _=>rfl)⟩:w.cell? ⟨z.wq k,2,none⟩=some ↑i/\w.cell? ⟨z.wq k,1,none⟩=some ↑x.R8/\(∀j,w.frozen? ⟨z.wq k,j,none⟩=false)/\A1 z l k ((w.setCell ⟨z.wq k,2,none⟩ (.int .i64 0)).setCell ⟨z.wq k,1,none⟩ (.int .i64 7)) (m.Si i) {x with other:=p,Sa:=0,R8:=7}));clear h hx ha hpa hp0 hi;generalize m.Si i=M at*;generalize(m.fr i).kind=kd at*;generalize 19*i=I at*;go_enter func224,ntmps224;go_upto_region 1 with fail;generalize w.setCell ⟨z.wq k,7,none⟩ ↑p=W at*
 go_region_held3 (λw'=>w'.cell? ⟨z.wq k,2,none⟩=some ↑i)
  (first|exact FS.o _ HC|exact FS.o _ HC.drew|exact(FT.out _ HC).1)
  (first|(go_at_call 34;refine(c1.o _ U5).r ?_)|(go_at_call 239;refine(c2.o _ U5).q λw2 HC=> ?_))
 obtain⟨s2,s1,s3,H5⟩:=FT.out _ U15;clear z0 y7;go_wp2_with fail
 go_end0
 exact⟨rfl,by first|exact H5|exact H5.drew⟩
end Go.Proofs.YteiignfflbmafaaGreat.Tp
namespace Go.Proofs.YteiignfflbmafaaGreat.Tp
open Go.Proofs.Tryz
open Go.RowKit
instance (m:Co) (i:Nat):Decidable (m.ok i):=by unfold Co.ok;infer_instance
instance (m:Co):Decidable m.gG:=by unfold Co.gG;infer_instance
def DW.tK(r:DW)(L:List Int):Bool:=
 match r.nx with
 | .lay=>decide (0<=r.t)
 | .takes=>decide (0<=wrap64 (r.t-1))
 | .carries=>decide (0<=r.h)
 | .mine _=>decide (r.ta+1<L.length)
 | .leave _=>decide (r.ta+1<L.length)
 |_=>true
theorem DW.uM{r:DW}{L:List Int}(h:r.tK L=true):r.safe L:=by
 unfold DW.tK at h;unfold DW.safe
 split at h<;>simp_all
def Ab(sg tg:Int):Int:=if tg<=sg∨1048575<tg then 3 else 0
def Co.yA(m:Co)(x:WS)(i:Nat)(pc kd tg:Int):Option (Co×WS):=
 if(m.fr i).kind≠2 then some (m.stop 4 4,x)
 else if Ab (m.fr i).Sc tg=3 then some (m.stop 4 3,x)
 else if(m.fr i).Sc=0 then
  (if m.ok (m.fr i).Sg.toNat/\(m.fr i).Sg.toNat≠i/\((m.fr i).Sg.toNat:Int)=(m.fr i).Sg then
   some ((m.ak i {m.fr i with pc:=pc}).ak (m.fr i).Sg.toNat {m.fr (m.fr i).Sg.toNat with rg:=(m.fr i).rg},{x with aB:=tg,gw:=Decidable.decide (kd=9),gl:=true,gy:=0,R8:=9})
  else none)
 else some (m.ak i {m.fr i with pc:=pc},{x with aB:=tg,gw:=Decidable.decide (kd=9),gl:=true,gy:=0,R8:=9})
def Co.fork(m:Co)(x:WS)(i:Nat)(pc fn:Int):Option (Co×WS):=
 if m.gG then
  match m.pick with
  |none=>some (m.stop 5 1,x)
  |some (j,B,n)=>if j≠i then some ((m.made j B n ((m.fr i).child i fn)).ak i {m.fr i with pc:=pc,az:=true},{x with other:=j,R8:=6})else none
 else none
def Co.pipe(m:Co)(x:WS)(i:Nat)(pc fn:Int):Option (Co×WS):=
 if m.gG then
  match m.pick with
  |none=>some (({m with ae:=wrap64 (m.ae+1)}:Co).stop 5 1,x)
  |some (j,B,n)=>if j≠i then some ((({m with ae:=wrap64 (m.ae+1)}:Co).made j B n ((m.fr i).loop i fn (wrap64 (m.ae+1)))).ak i {m.fr i with pc:=pc},{x with Sa:=j,R8:=19})else none
 else none
def Co.leaves(m:Co)(x:WS)(i:Nat):Option (Co×WS):=
 if(m.fr i).kind≠2 then some (m.stop 4 4,x)
 else if(m.fr i).Sc≠0 then some (m.stop 4 5,x)
 else if m.ok (m.fr i).Sg.toNat/\(m.fr i).Sg.toNat≠i/\((m.fr i).Sg.toNat:Int)=(m.fr i).Sg then
  some (m.ak (m.fr i).Sg.toNat {m.fr (m.fr i).Sg.toNat with rg:=(m.fr i).rg},{x with eh:=true,eb:=true,er:=0,ew:=false,R8:=14})
 else none
def Co.pU(m:Co)(x:WS)(i:Nat):Option (Co×WS):=
 if(m.fr i).kind=2 then
  (if(m.fr i).Sc≠0 then some (m,{x with eh:=false,eb:=false,er:=0,ew:=false,R8:=14})
  else if m.ok (m.fr i).Sg.toNat/\(m.fr i).Sg.toNat≠i/\((m.fr i).Sg.toNat:Int)=(m.fr i).Sg then
   some (m.ak (m.fr i).Sg.toNat {m.fr (m.fr i).Sg.toNat with rg:=(m.fr i).rg},{x with eh:=true,eb:=false,er:=0,ew:=false,R8:=14})
  else none)
 else if(m.fr i).Sg=0 then some (m.stop 1 0,x)
 else if m.gG/\((m.fr i).Sg.toNat:Int)=(m.fr i).Sg then some (m.Si i,{x with other:=(m.fr i).Sg.toNat,Sa:=0,R8:=7})
 else none
def Co.turn(m:Co)(x:WS)(i:Nat)(pc kd v:Int):Option (Co×WS):=
 if kd=6 then m.fork x i pc v
 else if kd=8 then m.pipe x i pc v
 else if kd=9∨kd=10 then m.yA x i pc kd v
 else if kd=11 then m.leaves x i
 else if kd=12 then m.pU x i
 else none
def Co.begins(m:Co)(i:Nat):Option Co:=
 if(m.fr i).due=true then
  (if m.ok (m.fr i).Sg.toNat/\((m.fr i).Sg.toNat:Int)=(m.fr i).Sg/\m.log.length<99999 then some ((m.ak i {m.fr i with due:=false}).bM i (m.fr i).Sg.toNat 2)else none)
 else some m
def Co.does(m:Co)(x:WS)(i:Nat)(c:Is):Option (Co×WS):=
 let pc:=Sp.vG c.op c.a c.b c.c (m.fr i).pc (m.fr i).rg
 let R:=Sp.lN c.op c.a c.b c.c (m.fr i).rg
 let e:=Sp.lM c.op c.a c.b c.c (m.fr i).rg
 if 7<=e.kind/\e.kind<=12/\(m.fr i).az=true then
  (if m.last i=true then some (m.leave i,{x with R8:=5})else some (m.leave i,x.goes m.pl))
 else if Sp.uw c.op c.c (m.fr i).rg≠0 then some (m.stop 4 (Sp.uw c.op c.c (m.fr i).rg),x)
 else if 1<=e.kind/\e.kind<=4 then
  (if(m.ask e.kind e.at_ e.value e.other).2.2=true then
   some ((m.ask e.kind e.at_ e.value e.other).1.ak i {m.fr i with pc:=pc,rg:=Sp.iZ R e.kind e.value e.reg (m.ask e.kind e.at_ e.value e.other).2.1},x)
  else some ((m.ask e.kind e.at_ e.value e.other).1.stop 4 2,x))
 else if e.kind=5 then
  (if(m.out.length:Int)<m.most/\m.most<=1000 then some (({m with out:=m.out++[e.value]}:Co).ak i {m.fr i with pc:=pc},x)
  else if m.most<=m.out.length then some (m.stop 5 3,x)else none)
 else if e.kind=0∨e.kind=7 then some (m.ak i {m.fr i with pc:=pc,rg:=R},x)
 else m.turn x i pc e.kind e.value
def Co.runs(m:Co)(x:WS):Option (Co×WS):=
 if m.ok x.Sa.toNat/\(x.Sa.toNat:Int)=x.Sa then
  match m.begins x.Sa.toNat with
  |some m1=>m1.does x x.Sa.toNat (m1.at_ (m1.fr x.Sa.toNat).fn (m1.fr x.Sa.toNat).pc)
  |none=>none
 else none
end Go.Proofs.YteiignfflbmafaaGreat.Tp
namespace Go.Proofs.YteiignfflbmafaaGreat.Tp
open Go.Proofs.Tryz
open Go.RowKit Go.Proofs.YteiignfflbmafaaGreat.Tok
variable {z:Lay} {l:List WS} {k:Nat} {w:World} {m:Co} {x:WS}
theorem Us57 {p:Prop} (h:p:=by
 go_enter func253,ntmps253;go_wp2_with fail
 go_ret
 exact⟨rfl,rfl⟩):p:=h
theorem Us27 {p:Prop} (h:p:=by
 refine hU 11 ?_;refine pz ?_;refine wpAnyH_ready (rs:=[12]) U7 U8 ?_;refine hA (λK hK=>?_)
 (try simp only[List.getElem_toArray,List.getElem_cons_zero,List.getElem_cons_succ])
 rw[if_pos (by rfl)];refine wp_store_mid _ _ _ rfl _ _ (List.toArray _) rfl rfl (HTH.o _ HC) HSR.o (all_oneCell_toArray HON.o) ?_;replace HC:=HRG.o _ HC;refine hK.o _ _ ?_ (λhHeld=>?_)
 ·exact U119
 clear hK K;refine pz ?_;refine wpAnyH_done U7 ?_ _;go_wp2_with fail
 go_end0
 exact⟨rfl,HC⟩):p:=h
theorem Us17 {p:Prop} (h:p:=by
 generalize hsg:(m.fr i).Sc=sg at*;clear hsg;generalize 19*i=I at*;go_enter func222,ntmps222;go_upto_region 1 with fail;generalize w.alloc (.cells #[kn,at',tg,ot,rg] 235)=W at*;generalize w.heap.size=b at*
 go_region_held3 (λw'=>w'.cell? ⟨z.fr,I+15,none⟩=some ↑sg/\w'.cell? ⟨b,2,none⟩=some ↑tg)
  (exact U161)
  (first|(go_at_call 253;refine(c0.o _).r ?_))
 go_wp2_with (go_at_call 138;refine(c1.o _ U15).q λw3 H3=> ?_)
 (try simp only[Exit.inBlock,Exit.then]);refine bodyPost_ret (results_none rfl _ _ _) rfl ?_
 exact⟨rfl,H3⟩):p:=h
theorem nV(a b:Int)(w:World):Cs 253 #[a,b] w (.int .i64 (Ab a b)) λw'=>w=w':=by
 unfold Ab
 by_cases h1:b<=a
 ·rw[if_pos (Or.inl h1)]
  exact Us57
 ·by_cases h2:1048575<b
  ·rw[if_pos (Or.inr h2)]
   have h3:¬(b<=a):=h1
   exact Us57
  ·rw[if_neg (λq=>q.elim h1 h2)]
   exact Us57
theorem A1.zw(h:A1 z l k w m x)(i:Nat)(pc at' tg ot rg:Int)(kn:Int)(hi:m.ok i)(hk:(m.fr i).kind≠2):Cs 222 #[ptr (z.wq k),ptr z.c,.pointer (some ⟨z.fr,19*i,none⟩),pc,.agg #[kn,at',tg,ot,rg]] w (.tuple #[]) λw'=>A1 z l k w' (m.stop 4 4) x:=by
 have bg:=af.new w #[kn,at',tg,ot,rg] 235 _ rfl;have c0:=Hd (λw=>nV (m.fr i).Sc tg w);have c1:=Hd (λw (h:A1 z l k w m x)=>h.jR 4 4);generalize m.stop 4 4=M at*;have HC:=h.alloc (.cells #[kn,at',tg,ot,rg] 235);have y0:(w.alloc (.cells #[kn,at',tg,ot,rg] 235)).cell? ⟨z.fr,19*i,none⟩=some (.int .i64 (m.fr i).kind):=HC.frame i hi 0 U0 _ rfl;have y15:(w.alloc (.cells #[kn,at',tg,ot,rg] 235)).cell? ⟨z.fr,19*i+15,none⟩=some (.int .i64 (m.fr i).Sc):=HC.frame i hi 15 U0 _ rfl;have g0:(w.alloc (.cells #[kn,at',tg,ot,rg] 235)).cell? ⟨w.heap.size,0,none⟩=some ↑kn:=bg.cell 0;have g2:(w.alloc (.cells #[kn,at',tg,ot,rg] 235)).cell? ⟨w.heap.size,2,none⟩=some ↑tg:=bg.cell 2;have nbf:¬(w.heap.size=z.fr):=by have:=h.frame i hi 0 U0 _ rfl;have:=bL w _ this;intro e;rw[<-e]at this;exact absurd this (Nat.lt_irrefl _)
 have nbq:¬(w.heap.size=z.wq k):=by have:=h.lt;omega
 have d1:¬((m.fr i).kind=2):=hk;generalize hkk:(m.fr i).kind=kk at*;clear hkk;clear h bg hi hk
 exact Us17
theorem A1.Di(h:A1 z l k w m x)(i:Nat)(pc at' tg ot rg:Int)(kn:Int)(hi:m.ok i)(hk:(m.fr i).kind=2)(hb:Ab (m.fr i).Sc tg=3):Cs 222 #[ptr (z.wq k),ptr z.c,.pointer (some ⟨z.fr,19*i,none⟩),pc,.agg #[kn,at',tg,ot,rg]] w (.tuple #[]) λw'=>A1 z l k w' (m.stop 4 3) x:=by
 have bg:=af.new w #[kn,at',tg,ot,rg] 235 _ rfl;have c0:=Hd (λw=>nV (m.fr i).Sc tg w);rw[hb]at c0;have c1:=Hd (λw (h:A1 z l k w m x)=>h.jR 4 3);generalize m.stop 4 3=M at*;have HC:=h.alloc (.cells #[kn,at',tg,ot,rg] 235);have y0:(w.alloc (.cells #[kn,at',tg,ot,rg] 235)).cell? ⟨z.fr,19*i,none⟩=some (.int .i64 2):=HC.frame i hi 0 U0 _ U67;have y15:(w.alloc (.cells #[kn,at',tg,ot,rg] 235)).cell? ⟨z.fr,19*i+15,none⟩=some (.int .i64 (m.fr i).Sc):=HC.frame i hi 15 U0 _ rfl;have g0:(w.alloc (.cells #[kn,at',tg,ot,rg] 235)).cell? ⟨w.heap.size,0,none⟩=some ↑kn:=bg.cell 0;have g2:(w.alloc (.cells #[kn,at',tg,ot,rg] 235)).cell? ⟨w.heap.size,2,none⟩=some ↑tg:=bg.cell 2;have nbf:¬(w.heap.size=z.fr):=by have:=h.frame i hi 0 U0 _ rfl;have:=bL w _ this;intro e;rw[<-e]at this;exact absurd this (Nat.lt_irrefl _)
 have nbq:¬(w.heap.size=z.wq k):=by have:=h.lt;omega
 clear h bg hi hk hb
 exact Us17
theorem A1.Iq(h:A1 z l k w m x)(i:Nat)(pc at' tg ot rg:Int)(hi:m.ok i)(hk:(m.fr i).kind=2)(hb:Ab (m.fr i).Sc tg=0)(hs:(m.fr i).Sc=0)(p:Nat)(hp:m.ok p)(hpi:p≠i)(hpa:(m.fr i).Sg=p):Cs 222 #[ptr (z.wq k),ptr z.c,.pointer (some ⟨z.fr,19*i,none⟩),pc,.agg #[(9:Int),at',tg,ot,rg]] w (.tuple #[]) λw'=>A1 z l k w' ((m.ak i {m.fr i with pc:=pc}).ak p {m.fr p with rg:=(m.fr i).rg}) {x with aB:=tg,gw:=true,gl:=true,gy:=0,R8:=9}:=by
 have bg:=af.new w #[(9:Int),at',tg,ot,rg] 235 _ rfl;have c0:=Hd (λw=>nV (m.fr i).Sc tg w);rw[hb]at c0;have fl:=h.iB i hi;have fri:(m.ak i {m.fr i with pc:=pc}).fr i={m.fr i with pc:=pc}:=Co.dE hi fl;have FE:=Hd (λw (h:A1 z l k w m x)=>(⟨h.frame i hi 2 U0 _ rfl,h.sM,h.aF i hi 2 U0 ↑pc {m.fr i with pc:=pc} rfl⟩:w.cell? ⟨z.fr,19*i+2,none⟩=some (.int .i64 (m.fr i).pc)/\(∀j,w.frozen? ⟨z.fr,j,none⟩=false)/\A1 z l k (w.setCell ⟨z.fr,19*i+2,none⟩ ↑pc) (m.ak i {m.fr i with pc:=pc}) x));have FG:=Hd (λw (h:A1 z l k w (m.ak i {m.fr i with pc:=pc}) x)=>(⟨h.cell 8 _ rfl,h.cell 9 _ rfl,h.cell 10 _ rfl,h.cell 11 _ rfl,h.cell 1 _ rfl,h.fz,h.oN,(((((h.set 8 ↑tg {x with aB:=tg} ⟨rfl,rfl,rfl,rfl,rfl⟩ (λ_ _ _ _ _ _=>rfl)).set 9 (.bool true) {x with aB:=tg,gw:=true} ⟨rfl,rfl,rfl,rfl,rfl⟩ (λ_ _ _ _ _ _=>rfl)).set 10 (.bool true) {x with aB:=tg,gw:=true,gl:=true} ⟨rfl,rfl,rfl,rfl,rfl⟩ (λ_ _ _ _ _ _=>rfl)).set 11 (.int .i64 0) {x with aB:=tg,gw:=true,gl:=true,gy:=0} ⟨rfl,rfl,rfl,rfl,rfl⟩ (λ_ _ _ _ _ _=>rfl)).set 1 (.int .i64 9) {x with aB:=tg,gw:=true,gl:=true,gy:=0,R8:=9} ⟨rfl,rfl,rfl,rfl,rfl⟩ (λ_ _ _ _ _ _=>rfl))⟩:w.cell? ⟨z.wq k,8,none⟩=some ↑x.aB/\w.cell? ⟨z.wq k,9,none⟩=some (.bool x.gw)/\w.cell? ⟨z.wq k,10,none⟩=some (.bool x.gl)/\w.cell? ⟨z.wq k,11,none⟩=some ↑x.gy/\w.cell? ⟨z.wq k,1,none⟩=some ↑x.R8/\(∀j,w.frozen? ⟨z.wq k,j,none⟩=false)/\(¬z.wq k=z.fr/\¬z.fr=z.wq k)/\
   A1 z l k (((((w.setCell ⟨z.wq k,8,none⟩ ↑tg).setCell ⟨z.wq k,9,none⟩ (.bool true)).setCell ⟨z.wq k,10,none⟩ (.bool true)).setCell ⟨z.wq k,11,none⟩ (.int .i64 0)).setCell ⟨z.wq k,1,none⟩ (.int .i64 9)) (m.ak i {m.fr i with pc:=pc}) {x with aB:=tg,gw:=true,gl:=true,gy:=0,R8:=9}))
 have F15:=Hd (λw (h:A1 z l k w (m.ak i {m.fr i with pc:=pc}) {x with aB:=tg,gw:=true,gl:=true,gy:=0,R8:=9})=>(h.frame i hi 15 U0 _ U115:w.cell? ⟨z.fr,19*i+15,none⟩=some (.int .i64 (m.fr i).Sc)));have frp:(m.ak i {m.fr i with pc:=pc}).fr p=m.fr p:=Co.fU (λe=>hpi e.symm);have frpi:((m.ak i {m.fr i with pc:=pc}).ak p {m.fr p with rg:=(m.fr i).rg}).fr i={m.fr i with pc:=pc}:=(Co.fU hpi).trans fri;have FS:=Hd (λw (h:A1 z l k w (m.ak i {m.fr i with pc:=pc}) {x with aB:=tg,gw:=true,gl:=true,gy:=0,R8:=9})=>(⟨h.frame i hi 11 U0 _ (by rw[fri,<-hpa];rfl),U105⟩:w.cell? ⟨z.fr,19*i+11,none⟩=some ↑p/\w.rangeAt z.fr (19*i+3) (jE (m.fr i).rg)));have FM:=Hd (λw (h:A1 z l k w ((m.ak i {m.fr i with pc:=pc}).ak p {m.fr p with rg:=(m.fr i).rg}) {x with aB:=tg,gw:=true,gl:=true,gy:=0,R8:=9})=>(⟨h.frame i hi 11 U0 _ (by rw[frpi,<-hpa];rfl),U103⟩:w.cell? ⟨z.fr,19*i+11,none⟩=some ↑p/\w.rangeAt z.fr (19*i+3) (jE (m.fr i).rg)));have HRG:=Hd (λw (h:A1 z l k w (m.ak i {m.fr i with pc:=pc}) {x with aB:=tg,gw:=true,gl:=true,gy:=0,R8:=9})=>h.jw p hp (m.fr i).rg);have HTH:=Hd (λw (h:A1 z l k w (m.ak i {m.fr i with pc:=pc}) {x with aB:=tg,gw:=true,gl:=true,gy:=0,R8:=9})=>(show w.there z.fr (19*p+3) ((jE (m.fr i).rg).toArray.size)from h.jA p hp));have HON:=Hd (jv (m.fr i).rg);have ca:=Hd (λw (h:A1 z l k w (m.ak i {m.fr i with pc:=pc}) {x with aB:=tg,gw:=true,gl:=true,gy:=0,R8:=9})=>h.at_ p hp);have HSR:=Hd (show(prog.info? 174).map (·.size)=some (jE (m.fr i).rg).length from ky);rw[frp]at HRG
 have HC:=h.alloc (.cells #[(9:Int),at',tg,ot,rg] 235);have y0:(w.alloc (.cells #[(9:Int),at',tg,ot,rg] 235)).cell? ⟨z.fr,19*i,none⟩=some (.int .i64 2):=HC.frame i hi 0 U0 _ U67;have y15:(w.alloc (.cells #[(9:Int),at',tg,ot,rg] 235)).cell? ⟨z.fr,19*i+15,none⟩=some (.int .i64 (m.fr i).Sc):=HC.frame i hi 15 U0 _ rfl;have g0:(w.alloc (.cells #[(9:Int),at',tg,ot,rg] 235)).cell? ⟨w.heap.size,0,none⟩=some (.int .i64 9):=bg.cell 0;have g2:(w.alloc (.cells #[(9:Int),at',tg,ot,rg] 235)).cell? ⟨w.heap.size,2,none⟩=some ↑tg:=bg.cell 2;have nbf:¬(w.heap.size=z.fr):=by have:=h.frame i hi 0 U0 _ rfl;have:=bL w _ this;intro e;rw[<-e]at this;exact absurd this (Nat.lt_irrefl _)
 have nbq:¬(w.heap.size=z.wq k):=by have:=h.lt;omega
 rw[hs]at F15;generalize((m.ak i {m.fr i with pc:=pc}).ak p {m.fr p with rg:=(m.fr i).rg})=M3 at*;generalize jE (m.fr i).rg=rs at*;clear fl fri frp frpi;generalize(m.ak i {m.fr i with pc:=pc})=MP at*;clear h bg hi hk hb hs hpi hpa hp;generalize hsg:(m.fr i).Sc=sg at*;clear hsg;generalize 19*i=I at*;go_enter func222,ntmps222;go_upto_region 1 with fail;generalize w.alloc (.cells #[(9:Int),at',tg,ot,rg] 235)=W at*;generalize w.heap.size=b at*
 go_region_held3 (λw'=>w'.cell? ⟨z.fr,I+15,none⟩=some ↑sg/\w'.cell? ⟨b,2,none⟩=some ↑tg)
  (exact U161)
  (first|(go_at_call 253;refine(c0.o _).r ?_))
 replace HC:=HC.drew;replace y0:=kd y0;replace g0:=kd g0;replace g2:=kd g2;clear y15;generalize W.drew=W1 at*;obtain⟨u2,uz,HC⟩:=FE.out _ HC;obtain⟨s8,s9,s10,s11,s1,sz,sn,HC⟩:=FG.out _ HC;have u15:=F15.out _ HC;have sn1:=sn.1;have sn2:=sn.2;go_upto_region 10 with fail;generalize(((((((W1.setCell ⟨z.fr,I+2,none⟩ ↑pc).setCell ⟨z.wq k,8,none⟩ ↑tg).setCell ⟨z.wq k,9,none⟩ (.bool true)).setCell ⟨z.wq k,10,none⟩ (.bool true)).setCell ⟨z.wq k,11,none⟩ (.int .i64 0)).setCell ⟨z.wq k,1,none⟩ (.int .i64 9)))=W2 at*;refine wp_region_held_drew (S:=(λw'=>w'.cell? ⟨z.fr,I+11,none⟩=some ↑p/\w'.rangeAt z.fr (I+3) rs)) U7 ?_ (λhHeld=>?_)
 ·exact U119
 replace HC:=HC.drew;refine hU 0 ?_;refine hU 1 ?_;refine hU 2 ?_;refine pz ?_;refine hU 3 ?_;refine hU 4 ?_;refine hU 6 ?_;refine pz ?_;refine hU 7 ?_;refine hU 8 ?_;refine wpAnyH_take (i:=9) (oi:=_) (v:=_) rfl U7 U7 U7 (λ_ _ _ h=>h) (yieldsIf_load_mid (by rfl) _ _ rfl _ _ rfl _ _ (λw q=>q.2) underlying174 rfl HSR.o) U6 ?_;refine pz ?_;refine wpAnyH_ready (rs:=[5]) U7 U8 ?_;refine hA (λK hK=>?_)
 (try simp only[List.getElem_toArray,List.getElem_cons_zero,List.getElem_cons_succ])
 go_simp
 (go_at_call 141;refine(ca.o _ U5).r ?_)
 refine hK.o _ _ ?_ (λhHeld=>?_)
 ·exact U119
 clear hK K;refine pz ?_;refine hU 10 ?_;refine pz ?_
 exact Us27
theorem A1.Ir(h:A1 z l k w m x)(i:Nat)(pc at' tg ot rg:Int)(hi:m.ok i)(hk:(m.fr i).kind=2)(hb:Ab (m.fr i).Sc tg=0)(hs:(m.fr i).Sc≠0):Cs 222 #[ptr (z.wq k),ptr z.c,.pointer (some ⟨z.fr,19*i,none⟩),pc,.agg #[(9:Int),at',tg,ot,rg]] w (.tuple #[]) λw'=>A1 z l k w' (m.ak i {m.fr i with pc:=pc}) {x with aB:=tg,gw:=true,gl:=true,gy:=0,R8:=9}:=by
 have bg:=af.new w #[(9:Int),at',tg,ot,rg] 235 _ rfl;have c0:=Hd (λw=>nV (m.fr i).Sc tg w);rw[hb]at c0;have fl:=h.iB i hi;have fri:(m.ak i {m.fr i with pc:=pc}).fr i={m.fr i with pc:=pc}:=Co.dE hi fl;have FE:=Hd (λw (h:A1 z l k w m x)=>(⟨h.frame i hi 2 U0 _ rfl,h.sM,h.aF i hi 2 U0 ↑pc {m.fr i with pc:=pc} rfl⟩:w.cell? ⟨z.fr,19*i+2,none⟩=some (.int .i64 (m.fr i).pc)/\(∀j,w.frozen? ⟨z.fr,j,none⟩=false)/\A1 z l k (w.setCell ⟨z.fr,19*i+2,none⟩ ↑pc) (m.ak i {m.fr i with pc:=pc}) x));have FG:=Hd (λw (h:A1 z l k w (m.ak i {m.fr i with pc:=pc}) x)=>(⟨h.cell 8 _ rfl,h.cell 9 _ rfl,h.cell 10 _ rfl,h.cell 11 _ rfl,h.cell 1 _ rfl,h.fz,h.oN,(((((h.set 8 ↑tg {x with aB:=tg} ⟨rfl,rfl,rfl,rfl,rfl⟩ (λ_ _ _ _ _ _=>rfl)).set 9 (.bool true) {x with aB:=tg,gw:=true} ⟨rfl,rfl,rfl,rfl,rfl⟩ (λ_ _ _ _ _ _=>rfl)).set 10 (.bool true) {x with aB:=tg,gw:=true,gl:=true} ⟨rfl,rfl,rfl,rfl,rfl⟩ (λ_ _ _ _ _ _=>rfl)).set 11 (.int .i64 0) {x with aB:=tg,gw:=true,gl:=true,gy:=0} ⟨rfl,rfl,rfl,rfl,rfl⟩ (λ_ _ _ _ _ _=>rfl)).set 1 (.int .i64 9) {x with aB:=tg,gw:=true,gl:=true,gy:=0,R8:=9} ⟨rfl,rfl,rfl,rfl,rfl⟩ (λ_ _ _ _ _ _=>rfl))⟩:w.cell? ⟨z.wq k,8,none⟩=some ↑x.aB/\w.cell? ⟨z.wq k,9,none⟩=some (.bool x.gw)/\w.cell? ⟨z.wq k,10,none⟩=some (.bool x.gl)/\w.cell? ⟨z.wq k,11,none⟩=some ↑x.gy/\w.cell? ⟨z.wq k,1,none⟩=some ↑x.R8/\(∀j,w.frozen? ⟨z.wq k,j,none⟩=false)/\(¬z.wq k=z.fr/\¬z.fr=z.wq k)/\
   A1 z l k (((((w.setCell ⟨z.wq k,8,none⟩ ↑tg).setCell ⟨z.wq k,9,none⟩ (.bool true)).setCell ⟨z.wq k,10,none⟩ (.bool true)).setCell ⟨z.wq k,11,none⟩ (.int .i64 0)).setCell ⟨z.wq k,1,none⟩ (.int .i64 9)) (m.ak i {m.fr i with pc:=pc}) {x with aB:=tg,gw:=true,gl:=true,gy:=0,R8:=9}))
 have F15:=Hd (λw (h:A1 z l k w (m.ak i {m.fr i with pc:=pc}) {x with aB:=tg,gw:=true,gl:=true,gy:=0,R8:=9})=>(h.frame i hi 15 U0 _ U115:w.cell? ⟨z.fr,19*i+15,none⟩=some (.int .i64 (m.fr i).Sc)));have HC:=h.alloc (.cells #[(9:Int),at',tg,ot,rg] 235);have y0:(w.alloc (.cells #[(9:Int),at',tg,ot,rg] 235)).cell? ⟨z.fr,19*i,none⟩=some (.int .i64 2):=HC.frame i hi 0 U0 _ U67;have y15:(w.alloc (.cells #[(9:Int),at',tg,ot,rg] 235)).cell? ⟨z.fr,19*i+15,none⟩=some (.int .i64 (m.fr i).Sc):=HC.frame i hi 15 U0 _ rfl;have g0:(w.alloc (.cells #[(9:Int),at',tg,ot,rg] 235)).cell? ⟨w.heap.size,0,none⟩=some (.int .i64 9):=bg.cell 0;have g2:(w.alloc (.cells #[(9:Int),at',tg,ot,rg] 235)).cell? ⟨w.heap.size,2,none⟩=some ↑tg:=bg.cell 2;have nbf:¬(w.heap.size=z.fr):=by have:=h.frame i hi 0 U0 _ rfl;have:=bL w _ this;intro e;rw[<-e]at this;exact absurd this (Nat.lt_irrefl _)
 have nbq:¬(w.heap.size=z.wq k):=by have:=h.lt;omega
 have hs1:((m.fr i).Sc==0)=false:=beq_false_of_ne hs;clear fl fri;generalize(m.ak i {m.fr i with pc:=pc})=MP at*;clear h bg hi hk hb hs;generalize hsg:(m.fr i).Sc=sg at*;clear hsg;generalize 19*i=I at*;go_enter func222,ntmps222;go_upto_region 1 with fail;generalize w.alloc (.cells #[(9:Int),at',tg,ot,rg] 235)=W at*;generalize w.heap.size=b at*
 go_region_held3 (λw'=>w'.cell? ⟨z.fr,I+15,none⟩=some ↑sg/\w'.cell? ⟨b,2,none⟩=some ↑tg)
  (exact U161)
  (first|(go_at_call 253;refine(c0.o _).r ?_))
 replace HC:=HC.drew;replace y0:=kd y0;replace g0:=kd g0;replace g2:=kd g2;clear y15;generalize W.drew=W1 at*;obtain⟨u2,uz,HC⟩:=FE.out _ HC;obtain⟨s8,s9,s10,s11,s1,sz,sn,HC⟩:=FG.out _ HC;have u15:=F15.out _ HC;have sn1:=sn.1;have sn2:=sn.2;go_upto_region 9 with fail;clear s8 s9 s10 s11 s1 sz u2 uz;generalize(((((((W1.setCell ⟨z.fr,I+2,none⟩ ↑pc).setCell ⟨z.wq k,8,none⟩ ↑tg).setCell ⟨z.wq k,9,none⟩ (.bool true)).setCell ⟨z.wq k,10,none⟩ (.bool true)).setCell ⟨z.wq k,11,none⟩ (.int .i64 0)).setCell ⟨z.wq k,1,none⟩ (.int .i64 9)))=W2 at*;go_wp2_with fail
 go_end0
 exact⟨rfl,HC⟩
theorem A1.Io(h:A1 z l k w m x)(i:Nat)(pc at' tg ot rg:Int)(hi:m.ok i)(hk:(m.fr i).kind=2)(hb:Ab (m.fr i).Sc tg=0)(hs:(m.fr i).Sc=0)(p:Nat)(hp:m.ok p)(hpi:p≠i)(hpa:(m.fr i).Sg=p):Cs 222 #[ptr (z.wq k),ptr z.c,.pointer (some ⟨z.fr,19*i,none⟩),pc,.agg #[(10:Int),at',tg,ot,rg]] w (.tuple #[]) λw'=>A1 z l k w' ((m.ak i {m.fr i with pc:=pc}).ak p {m.fr p with rg:=(m.fr i).rg}) {x with aB:=tg,gw:=false,gl:=true,gy:=0,R8:=9}:=by
 have bg:=af.new w #[(10:Int),at',tg,ot,rg] 235 _ rfl;have c0:=Hd (λw=>nV (m.fr i).Sc tg w);rw[hb]at c0;have fl:=h.iB i hi;have fri:(m.ak i {m.fr i with pc:=pc}).fr i={m.fr i with pc:=pc}:=Co.dE hi fl;have FE:=Hd (λw (h:A1 z l k w m x)=>(⟨h.frame i hi 2 U0 _ rfl,h.sM,h.aF i hi 2 U0 ↑pc {m.fr i with pc:=pc} rfl⟩:w.cell? ⟨z.fr,19*i+2,none⟩=some (.int .i64 (m.fr i).pc)/\(∀j,w.frozen? ⟨z.fr,j,none⟩=false)/\A1 z l k (w.setCell ⟨z.fr,19*i+2,none⟩ ↑pc) (m.ak i {m.fr i with pc:=pc}) x));have FG:=Hd (λw (h:A1 z l k w (m.ak i {m.fr i with pc:=pc}) x)=>(⟨h.cell 8 _ rfl,h.cell 9 _ rfl,h.cell 10 _ rfl,h.cell 11 _ rfl,h.cell 1 _ rfl,h.fz,h.oN,(((((h.set 8 ↑tg {x with aB:=tg} ⟨rfl,rfl,rfl,rfl,rfl⟩ (λ_ _ _ _ _ _=>rfl)).set 9 (.bool false) {x with aB:=tg,gw:=false} ⟨rfl,rfl,rfl,rfl,rfl⟩ (λ_ _ _ _ _ _=>rfl)).set 10 (.bool true) {x with aB:=tg,gw:=false,gl:=true} ⟨rfl,rfl,rfl,rfl,rfl⟩ (λ_ _ _ _ _ _=>rfl)).set 11 (.int .i64 0) {x with aB:=tg,gw:=false,gl:=true,gy:=0} ⟨rfl,rfl,rfl,rfl,rfl⟩ (λ_ _ _ _ _ _=>rfl)).set 1 (.int .i64 9) {x with aB:=tg,gw:=false,gl:=true,gy:=0,R8:=9} ⟨rfl,rfl,rfl,rfl,rfl⟩ (λ_ _ _ _ _ _=>rfl))⟩:w.cell? ⟨z.wq k,8,none⟩=some ↑x.aB/\w.cell? ⟨z.wq k,9,none⟩=some (.bool x.gw)/\w.cell? ⟨z.wq k,10,none⟩=some (.bool x.gl)/\w.cell? ⟨z.wq k,11,none⟩=some ↑x.gy/\w.cell? ⟨z.wq k,1,none⟩=some ↑x.R8/\(∀j,w.frozen? ⟨z.wq k,j,none⟩=false)/\(¬z.wq k=z.fr/\¬z.fr=z.wq k)/\
   A1 z l k (((((w.setCell ⟨z.wq k,8,none⟩ ↑tg).setCell ⟨z.wq k,9,none⟩ (.bool false)).setCell ⟨z.wq k,10,none⟩ (.bool true)).setCell ⟨z.wq k,11,none⟩ (.int .i64 0)).setCell ⟨z.wq k,1,none⟩ (.int .i64 9)) (m.ak i {m.fr i with pc:=pc}) {x with aB:=tg,gw:=false,gl:=true,gy:=0,R8:=9}))
 have F15:=Hd (λw (h:A1 z l k w (m.ak i {m.fr i with pc:=pc}) {x with aB:=tg,gw:=false,gl:=true,gy:=0,R8:=9})=>(h.frame i hi 15 U0 _ U115:w.cell? ⟨z.fr,19*i+15,none⟩=some (.int .i64 (m.fr i).Sc)));have frp:(m.ak i {m.fr i with pc:=pc}).fr p=m.fr p:=Co.fU (λe=>hpi e.symm);have frpi:((m.ak i {m.fr i with pc:=pc}).ak p {m.fr p with rg:=(m.fr i).rg}).fr i={m.fr i with pc:=pc}:=(Co.fU hpi).trans fri;have FS:=Hd (λw (h:A1 z l k w (m.ak i {m.fr i with pc:=pc}) {x with aB:=tg,gw:=false,gl:=true,gy:=0,R8:=9})=>(⟨h.frame i hi 11 U0 _ (by rw[fri,<-hpa];rfl),U105⟩:w.cell? ⟨z.fr,19*i+11,none⟩=some ↑p/\w.rangeAt z.fr (19*i+3) (jE (m.fr i).rg)));have FM:=Hd (λw (h:A1 z l k w ((m.ak i {m.fr i with pc:=pc}).ak p {m.fr p with rg:=(m.fr i).rg}) {x with aB:=tg,gw:=false,gl:=true,gy:=0,R8:=9})=>(⟨h.frame i hi 11 U0 _ (by rw[frpi,<-hpa];rfl),U103⟩:w.cell? ⟨z.fr,19*i+11,none⟩=some ↑p/\w.rangeAt z.fr (19*i+3) (jE (m.fr i).rg)));have HRG:=Hd (λw (h:A1 z l k w (m.ak i {m.fr i with pc:=pc}) {x with aB:=tg,gw:=false,gl:=true,gy:=0,R8:=9})=>h.jw p hp (m.fr i).rg);have HTH:=Hd (λw (h:A1 z l k w (m.ak i {m.fr i with pc:=pc}) {x with aB:=tg,gw:=false,gl:=true,gy:=0,R8:=9})=>(show w.there z.fr (19*p+3) ((jE (m.fr i).rg).toArray.size)from h.jA p hp));have HON:=Hd (jv (m.fr i).rg);have ca:=Hd (λw (h:A1 z l k w (m.ak i {m.fr i with pc:=pc}) {x with aB:=tg,gw:=false,gl:=true,gy:=0,R8:=9})=>h.at_ p hp);have HSR:=Hd (show(prog.info? 174).map (·.size)=some (jE (m.fr i).rg).length from ky);rw[frp]at HRG
 have HC:=h.alloc (.cells #[(10:Int),at',tg,ot,rg] 235);have y0:(w.alloc (.cells #[(10:Int),at',tg,ot,rg] 235)).cell? ⟨z.fr,19*i,none⟩=some (.int .i64 2):=HC.frame i hi 0 U0 _ U67;have y15:(w.alloc (.cells #[(10:Int),at',tg,ot,rg] 235)).cell? ⟨z.fr,19*i+15,none⟩=some (.int .i64 (m.fr i).Sc):=HC.frame i hi 15 U0 _ rfl;have g0:(w.alloc (.cells #[(10:Int),at',tg,ot,rg] 235)).cell? ⟨w.heap.size,0,none⟩=some (.int .i64 10):=bg.cell 0;have g2:(w.alloc (.cells #[(10:Int),at',tg,ot,rg] 235)).cell? ⟨w.heap.size,2,none⟩=some ↑tg:=bg.cell 2;have nbf:¬(w.heap.size=z.fr):=by have:=h.frame i hi 0 U0 _ rfl;have:=bL w _ this;intro e;rw[<-e]at this;exact absurd this (Nat.lt_irrefl _)
 have nbq:¬(w.heap.size=z.wq k):=by have:=h.lt;omega
 rw[hs]at F15;generalize((m.ak i {m.fr i with pc:=pc}).ak p {m.fr p with rg:=(m.fr i).rg})=M3 at*;generalize jE (m.fr i).rg=rs at*;clear fl fri frp frpi;generalize(m.ak i {m.fr i with pc:=pc})=MP at*;clear h bg hi hk hb hs hpi hpa hp;generalize hsg:(m.fr i).Sc=sg at*;clear hsg;generalize 19*i=I at*;go_enter func222,ntmps222;go_upto_region 1 with fail;generalize w.alloc (.cells #[(10:Int),at',tg,ot,rg] 235)=W at*;generalize w.heap.size=b at*
 go_region_held3 (λw'=>w'.cell? ⟨z.fr,I+15,none⟩=some ↑sg/\w'.cell? ⟨b,2,none⟩=some ↑tg)
  (exact U161)
  (first|(go_at_call 253;refine(c0.o _).r ?_))
 replace HC:=HC.drew;replace y0:=kd y0;replace g0:=kd g0;replace g2:=kd g2;clear y15;generalize W.drew=W1 at*;obtain⟨u2,uz,HC⟩:=FE.out _ HC;obtain⟨s8,s9,s10,s11,s1,sz,sn,HC⟩:=FG.out _ HC;have u15:=F15.out _ HC;have sn1:=sn.1;have sn2:=sn.2;go_upto_region 10 with fail;generalize(((((((W1.setCell ⟨z.fr,I+2,none⟩ ↑pc).setCell ⟨z.wq k,8,none⟩ ↑tg).setCell ⟨z.wq k,9,none⟩ (.bool false)).setCell ⟨z.wq k,10,none⟩ (.bool true)).setCell ⟨z.wq k,11,none⟩ (.int .i64 0)).setCell ⟨z.wq k,1,none⟩ (.int .i64 9)))=W2 at*;refine wp_region_held_drew (S:=(λw'=>w'.cell? ⟨z.fr,I+11,none⟩=some ↑p/\w'.rangeAt z.fr (I+3) rs)) U7 ?_ (λhHeld=>?_)
 ·exact U119
 replace HC:=HC.drew;refine hU 0 ?_;refine hU 1 ?_;refine pz ?_;refine hU 2 ?_;refine hU 3 ?_;refine hU 4 ?_;refine pz ?_;refine hU 6 ?_;refine hU 7 ?_;refine hU 8 ?_;refine pz ?_;refine wpAnyH_take (i:=9) (oi:=_) (v:=_) rfl U7 U7 U7 (λ_ _ _ h=>h) (yieldsIf_load_mid (by rfl) _ _ rfl _ _ rfl _ _ (λw q=>q.2) underlying174 rfl HSR.o) U6 ?_;refine pz ?_;refine wpAnyH_ready (rs:=[5]) U7 U8 ?_;refine hA (λK hK=>?_)
 (try simp only[List.getElem_toArray,List.getElem_cons_zero,List.getElem_cons_succ])
 go_simp
 (go_at_call 141;refine(ca.o _ U5).r ?_)
 refine hK.o _ _ ?_ (λhHeld=>?_)
 ·exact U119
 clear hK K;refine pz ?_;refine hU 10 ?_
 exact Us27
theorem A1.Ip(h:A1 z l k w m x)(i:Nat)(pc at' tg ot rg:Int)(hi:m.ok i)(hk:(m.fr i).kind=2)(hb:Ab (m.fr i).Sc tg=0)(hs:(m.fr i).Sc≠0):Cs 222 #[ptr (z.wq k),ptr z.c,.pointer (some ⟨z.fr,19*i,none⟩),pc,.agg #[(10:Int),at',tg,ot,rg]] w (.tuple #[]) λw'=>A1 z l k w' (m.ak i {m.fr i with pc:=pc}) {x with aB:=tg,gw:=false,gl:=true,gy:=0,R8:=9}:=by
 have bg:=af.new w #[(10:Int),at',tg,ot,rg] 235 _ rfl;have c0:=Hd (λw=>nV (m.fr i).Sc tg w);rw[hb]at c0;have fl:=h.iB i hi;have fri:(m.ak i {m.fr i with pc:=pc}).fr i={m.fr i with pc:=pc}:=Co.dE hi fl;have FE:=Hd (λw (h:A1 z l k w m x)=>(⟨h.frame i hi 2 U0 _ rfl,h.sM,h.aF i hi 2 U0 ↑pc {m.fr i with pc:=pc} rfl⟩:w.cell? ⟨z.fr,19*i+2,none⟩=some (.int .i64 (m.fr i).pc)/\(∀j,w.frozen? ⟨z.fr,j,none⟩=false)/\A1 z l k (w.setCell ⟨z.fr,19*i+2,none⟩ ↑pc) (m.ak i {m.fr i with pc:=pc}) x));have FG:=Hd (λw (h:A1 z l k w (m.ak i {m.fr i with pc:=pc}) x)=>(⟨h.cell 8 _ rfl,h.cell 9 _ rfl,h.cell 10 _ rfl,h.cell 11 _ rfl,h.cell 1 _ rfl,h.fz,h.oN,(((((h.set 8 ↑tg {x with aB:=tg} ⟨rfl,rfl,rfl,rfl,rfl⟩ (λ_ _ _ _ _ _=>rfl)).set 9 (.bool false) {x with aB:=tg,gw:=false} ⟨rfl,rfl,rfl,rfl,rfl⟩ (λ_ _ _ _ _ _=>rfl)).set 10 (.bool true) {x with aB:=tg,gw:=false,gl:=true} ⟨rfl,rfl,rfl,rfl,rfl⟩ (λ_ _ _ _ _ _=>rfl)).set 11 (.int .i64 0) {x with aB:=tg,gw:=false,gl:=true,gy:=0} ⟨rfl,rfl,rfl,rfl,rfl⟩ (λ_ _ _ _ _ _=>rfl)).set 1 (.int .i64 9) {x with aB:=tg,gw:=false,gl:=true,gy:=0,R8:=9} ⟨rfl,rfl,rfl,rfl,rfl⟩ (λ_ _ _ _ _ _=>rfl))⟩:w.cell? ⟨z.wq k,8,none⟩=some ↑x.aB/\w.cell? ⟨z.wq k,9,none⟩=some (.bool x.gw)/\w.cell? ⟨z.wq k,10,none⟩=some (.bool x.gl)/\w.cell? ⟨z.wq k,11,none⟩=some ↑x.gy/\w.cell? ⟨z.wq k,1,none⟩=some ↑x.R8/\(∀j,w.frozen? ⟨z.wq k,j,none⟩=false)/\(¬z.wq k=z.fr/\¬z.fr=z.wq k)/\
   A1 z l k (((((w.setCell ⟨z.wq k,8,none⟩ ↑tg).setCell ⟨z.wq k,9,none⟩ (.bool false)).setCell ⟨z.wq k,10,none⟩ (.bool true)).setCell ⟨z.wq k,11,none⟩ (.int .i64 0)).setCell ⟨z.wq k,1,none⟩ (.int .i64 9)) (m.ak i {m.fr i with pc:=pc}) {x with aB:=tg,gw:=false,gl:=true,gy:=0,R8:=9}))
 have F15:=Hd (λw (h:A1 z l k w (m.ak i {m.fr i with pc:=pc}) {x with aB:=tg,gw:=false,gl:=true,gy:=0,R8:=9})=>(h.frame i hi 15 U0 _ U115:w.cell? ⟨z.fr,19*i+15,none⟩=some (.int .i64 (m.fr i).Sc)));have HC:=h.alloc (.cells #[(10:Int),at',tg,ot,rg] 235);have y0:(w.alloc (.cells #[(10:Int),at',tg,ot,rg] 235)).cell? ⟨z.fr,19*i,none⟩=some (.int .i64 2):=HC.frame i hi 0 U0 _ U67;have y15:(w.alloc (.cells #[(10:Int),at',tg,ot,rg] 235)).cell? ⟨z.fr,19*i+15,none⟩=some (.int .i64 (m.fr i).Sc):=HC.frame i hi 15 U0 _ rfl;have g0:(w.alloc (.cells #[(10:Int),at',tg,ot,rg] 235)).cell? ⟨w.heap.size,0,none⟩=some (.int .i64 10):=bg.cell 0;have g2:(w.alloc (.cells #[(10:Int),at',tg,ot,rg] 235)).cell? ⟨w.heap.size,2,none⟩=some ↑tg:=bg.cell 2;have nbf:¬(w.heap.size=z.fr):=by have:=h.frame i hi 0 U0 _ rfl;have:=bL w _ this;intro e;rw[<-e]at this;exact absurd this (Nat.lt_irrefl _)
 have nbq:¬(w.heap.size=z.wq k):=by have:=h.lt;omega
 have hs1:((m.fr i).Sc==0)=false:=beq_false_of_ne hs;clear fl fri;generalize(m.ak i {m.fr i with pc:=pc})=MP at*;clear h bg hi hk hb hs;generalize hsg:(m.fr i).Sc=sg at*;clear hsg;generalize 19*i=I at*;go_enter func222,ntmps222;go_upto_region 1 with fail;generalize w.alloc (.cells #[(10:Int),at',tg,ot,rg] 235)=W at*;generalize w.heap.size=b at*
 go_region_held3 (λw'=>w'.cell? ⟨z.fr,I+15,none⟩=some ↑sg/\w'.cell? ⟨b,2,none⟩=some ↑tg)
  (exact U161)
  (first|(go_at_call 253;refine(c0.o _).r ?_))
 replace HC:=HC.drew;replace y0:=kd y0;replace g0:=kd g0;replace g2:=kd g2;clear y15;generalize W.drew=W1 at*;obtain⟨u2,uz,HC⟩:=FE.out _ HC;obtain⟨s8,s9,s10,s11,s1,sz,sn,HC⟩:=FG.out _ HC;have u15:=F15.out _ HC;have sn1:=sn.1;have sn2:=sn.2;go_upto_region 9 with fail;clear s8 s9 s10 s11 s1 sz u2 uz;generalize(((((((W1.setCell ⟨z.fr,I+2,none⟩ ↑pc).setCell ⟨z.wq k,8,none⟩ ↑tg).setCell ⟨z.wq k,9,none⟩ (.bool false)).setCell ⟨z.wq k,10,none⟩ (.bool true)).setCell ⟨z.wq k,11,none⟩ (.int .i64 0)).setCell ⟨z.wq k,1,none⟩ (.int .i64 9)))=W2 at*;go_wp2_with fail
 go_end0
 exact⟨rfl,HC⟩
theorem Us71 {p:Prop} (h:p:=by
 generalize w.heap.size=b at*
 go_wp2_with (go_at_call 222;refine(c1.o _ U15).q λw3 H3=> ?_)
 go_end0
 exact⟨rfl,H3⟩):p:=h
theorem A1.Nn(h:A1 z l k w m x)(i:Nat)(pc fn:Int)(hi:m.ok i)(hx:x.Sa=i)(m':Co)(x':WS)(hf:m.fork x i pc fn=some (m',x')):Cs 220 #[ptr (z.wq k),ptr z.c,.pointer (some ⟨z.fr,19*i,none⟩),pc,fn] w (.tuple #[]) λw'=>A1 z l k w' m' x':=by
 unfold Co.fork at hf
 split at hf
 ·rename_i ha
  split at hf
  ·rename_i hp
   simp only[oe]at hf;obtain⟨rfl,rfl⟩:=hf
   exact h.zt i pc fn hi hx ha hp
  ·rename_i j B n hp
   split at hf
   ·rename_i hj
    simp only[oe]at hf;obtain⟨rfl,rfl⟩:=hf
    exact h.zu i pc fn hi hx ha j B n hp hj
   ·cases hf
 ·cases hf
theorem A1.Np(h:A1 z l k w m x)(i:Nat)(pc fn:Int)(hi:m.ok i)(hx:x.Sa=i)(m':Co)(x':WS)(hf:m.pipe x i pc fn=some (m',x')):Cs 221 #[ptr (z.wq k),ptr z.c,.pointer (some ⟨z.fr,19*i,none⟩),pc,fn] w (.tuple #[]) λw'=>A1 z l k w' m' x':=by
 unfold Co.pipe at hf
 split at hf
 ·rename_i ha
  split at hf
  ·rename_i hp
   simp only[oe]at hf;obtain⟨rfl,rfl⟩:=hf
   exact h.zA i pc fn hi hx ha hp
  ·rename_i j B n hp
   split at hf
   ·rename_i hj
    simp only[oe]at hf;obtain⟨rfl,rfl⟩:=hf
    exact h.zB i pc fn hi hx ha j B n hp hj
   ·cases hf
 ·cases hf
theorem NU(a b:Int):Ab a b=3∨Ab a b=0:=by
 unfold Ab
 split
 ·exact Or.inl rfl
 ·exact Or.inr rfl
theorem A1.DY(h:A1 z l k w m x)(i:Nat)(pc kn at' tg ot rg:Int)(hk9:kn=9∨kn=10)(hi:m.ok i)(m':Co)(x':WS)(hf:m.yA x i pc kn tg=some (m',x')):Cs 222 #[ptr (z.wq k),ptr z.c,.pointer (some ⟨z.fr,19*i,none⟩),pc,.agg #[kn,at',tg,ot,rg]] w (.tuple #[]) λw'=>A1 z l k w' m' x':=by
 unfold Co.yA at hf
 split at hf
 ·rename_i hk
  simp only[oe]at hf;obtain⟨rfl,rfl⟩:=hf
  exact h.zw i pc at' tg ot rg kn hi hk
 ·rename_i hk
  have hk:(m.fr i).kind=2:=Decidable.not_not.1 hk
  split at hf
  ·rename_i hb
   simp only[oe]at hf;obtain⟨rfl,rfl⟩:=hf
   exact h.Di i pc at' tg ot rg kn hi hk hb
  ·rename_i hb
   have hb:Ab (m.fr i).Sc tg=0:=(NU _ _).resolve_left hb
   split at hf
   ·rename_i hs
    split at hf
    ·rename_i hp
     simp only[oe]at hf;obtain⟨rfl,rfl⟩:=hf
     rcases hk9 with rfl|rfl
     ·exact h.Iq i pc at' tg ot rg hi hk hb hs _ hp.1 hp.2.1 hp.2.2.symm
     ·exact h.Io i pc at' tg ot rg hi hk hb hs _ hp.1 hp.2.1 hp.2.2.symm
    ·cases hf
   ·rename_i hs
    simp only[oe]at hf;obtain⟨rfl,rfl⟩:=hf
    rcases hk9 with rfl|rfl
    ·exact h.Ir i pc at' tg ot rg hi hk hb hs
    ·exact h.Ip i pc at' tg ot rg hi hk hb hs
theorem A1.Jz(h:A1 z l k w m x)(i:Nat)(hi:m.ok i)(m':Co)(x':WS)(hf:m.leaves x i=some (m',x')):Cs 223 #[ptr (z.wq k),ptr z.c,.pointer (some ⟨z.fr,19*i,none⟩)] w (.tuple #[]) λw'=>A1 z l k w' m' x':=by
 unfold Co.leaves at hf
 split at hf
 ·rename_i hk
  simp only[oe]at hf;obtain⟨rfl,rfl⟩:=hf
  exact h.xe i hi hk
 ·rename_i hk
  have hk:(m.fr i).kind=2:=Decidable.not_not.1 hk
  split at hf
  ·rename_i hs
   simp only[oe]at hf;obtain⟨rfl,rfl⟩:=hf
   exact h.xm i hi hk hs
  ·rename_i hs
   split at hf
   ·rename_i hp
    simp only[oe]at hf;obtain⟨rfl,rfl⟩:=hf
    exact h.Dj i _ hi hp.1 hp.2.1 hp.2.2.symm hk (Decidable.not_not.1 hs)
   ·cases hf
theorem A1.Nl(h:A1 z l k w m x)(i:Nat)(hi:m.ok i)(hx:x.Sa=i)(m':Co)(x':WS)(hf:m.pU x i=some (m',x')):Cs 224 #[ptr (z.wq k),ptr z.c,.pointer (some ⟨z.fr,19*i,none⟩)] w (.tuple #[]) λw'=>A1 z l k w' m' x':=by
 unfold Co.pU at hf
 split at hf
 ·rename_i hk
  split at hf
  ·rename_i hs
   simp only[oe]at hf;obtain⟨rfl,rfl⟩:=hf
   exact h.Ii i hi hk hs
  ·rename_i hs
   split at hf
   ·rename_i hp
    simp only[oe]at hf;obtain⟨rfl,rfl⟩:=hf
    exact h.zk i _ hi hp.1 hp.2.1 hp.2.2.symm hk (Decidable.not_not.1 hs)
   ·cases hf
 ·rename_i hk
  split at hf
  ·rename_i hpa
   simp only[oe]at hf;obtain⟨rfl,rfl⟩:=hf
   exact h.zi i hi hk hpa
  ·rename_i hpa
   split at hf
   ·rename_i hp
    simp only[oe]at hf;obtain⟨rfl,rfl⟩:=hf
    exact h.Ij i _ hi hx hp.1 hk hp.2.symm (λe=>hpa (by rw[<-hp.2,e];rfl))
   ·cases hf
theorem A1.Md(h:A1 z l k w m x)(i:Nat)(pc at' v ot rg:Int)(m':Co)(x':WS)(hc:∀w,A1 z l k w m x->Cs 220 #[ptr (z.wq k),ptr z.c,.pointer (some ⟨z.fr,19*i,none⟩),pc,v] w (.tuple #[]) λw'=>A1 z l k w' m' x'):Cs 151 #[ptr (z.wq k),ptr z.c,.pointer (some ⟨z.fr,19*i,none⟩),pc,.agg #[(6:Int),at',v,ot,rg]] w (.tuple #[]) λw'=>A1 z l k w' m' x':=by
 have bg:=af.new w #[(6:Int),at',v,ot,rg] 235 _ rfl;have HC:=h.alloc (.cells #[(6:Int),at',v,ot,rg] 235);have c1:=Hd hc;have g0:(w.alloc (.cells #[(6:Int),at',v,ot,rg] 235)).cell? ⟨w.heap.size,0,none⟩=some (.int .i64 6):=bg.cell 0;have g1:(w.alloc (.cells #[(6:Int),at',v,ot,rg] 235)).cell? ⟨w.heap.size,1,none⟩=some ↑at':=bg.cell 1;have g2:(w.alloc (.cells #[(6:Int),at',v,ot,rg] 235)).cell? ⟨w.heap.size,2,none⟩=some ↑v:=bg.cell 2;have g3:(w.alloc (.cells #[(6:Int),at',v,ot,rg] 235)).cell? ⟨w.heap.size,3,none⟩=some ↑ot:=bg.cell 3;have g4:(w.alloc (.cells #[(6:Int),at',v,ot,rg] 235)).cell? ⟨w.heap.size,4,none⟩=some ↑rg:=bg.cell 4;clear h bg hc;generalize 19*i=I at*;go_enter func151,ntmps151;go_upto_region 1 with fail;generalize w.alloc (.cells #[(6:Int),at',v,ot,rg] 235)=W at*;generalize w.heap.size=b at*
 go_wp2_with (go_at_call 220;refine(c1.o _ U15).q λw3 H3=> ?_)
 go_end0
 exact⟨rfl,H3⟩
theorem A1.Me(h:A1 z l k w m x)(i:Nat)(pc at' v ot rg:Int)(m':Co)(x':WS)(hc:∀w,A1 z l k w m x->Cs 221 #[ptr (z.wq k),ptr z.c,.pointer (some ⟨z.fr,19*i,none⟩),pc,v] w (.tuple #[]) λw'=>A1 z l k w' m' x'):Cs 151 #[ptr (z.wq k),ptr z.c,.pointer (some ⟨z.fr,19*i,none⟩),pc,.agg #[(8:Int),at',v,ot,rg]] w (.tuple #[]) λw'=>A1 z l k w' m' x':=by
 have bg:=af.new w #[(8:Int),at',v,ot,rg] 235 _ rfl;have HC:=h.alloc (.cells #[(8:Int),at',v,ot,rg] 235);have c1:=Hd hc;have g0:(w.alloc (.cells #[(8:Int),at',v,ot,rg] 235)).cell? ⟨w.heap.size,0,none⟩=some (.int .i64 8):=bg.cell 0;have g1:(w.alloc (.cells #[(8:Int),at',v,ot,rg] 235)).cell? ⟨w.heap.size,1,none⟩=some ↑at':=bg.cell 1;have g2:(w.alloc (.cells #[(8:Int),at',v,ot,rg] 235)).cell? ⟨w.heap.size,2,none⟩=some ↑v:=bg.cell 2;have g3:(w.alloc (.cells #[(8:Int),at',v,ot,rg] 235)).cell? ⟨w.heap.size,3,none⟩=some ↑ot:=bg.cell 3;have g4:(w.alloc (.cells #[(8:Int),at',v,ot,rg] 235)).cell? ⟨w.heap.size,4,none⟩=some ↑rg:=bg.cell 4;clear h bg hc;generalize 19*i=I at*;go_enter func151,ntmps151;go_upto_region 1 with fail;generalize w.alloc (.cells #[(8:Int),at',v,ot,rg] 235)=W at*;generalize w.heap.size=b at*
 go_wp2_with (go_at_call 221;refine(c1.o _ U15).q λw3 H3=> ?_)
 go_end0
 exact⟨rfl,H3⟩
theorem A1.Mf(h:A1 z l k w m x)(i:Nat)(pc at' v ot rg:Int)(m':Co)(x':WS)(hc:∀w,A1 z l k w m x->Cs 222 #[ptr (z.wq k),ptr z.c,.pointer (some ⟨z.fr,19*i,none⟩),pc,.agg #[(9:Int),at',v,ot,rg]] w (.tuple #[]) λw'=>A1 z l k w' m' x'):Cs 151 #[ptr (z.wq k),ptr z.c,.pointer (some ⟨z.fr,19*i,none⟩),pc,.agg #[(9:Int),at',v,ot,rg]] w (.tuple #[]) λw'=>A1 z l k w' m' x':=by
 have bg:=af.new w #[(9:Int),at',v,ot,rg] 235 _ rfl;have HC:=h.alloc (.cells #[(9:Int),at',v,ot,rg] 235);have c1:=Hd hc;have g0:(w.alloc (.cells #[(9:Int),at',v,ot,rg] 235)).cell? ⟨w.heap.size,0,none⟩=some (.int .i64 9):=bg.cell 0;have g1:(w.alloc (.cells #[(9:Int),at',v,ot,rg] 235)).cell? ⟨w.heap.size,1,none⟩=some ↑at':=bg.cell 1;have g2:(w.alloc (.cells #[(9:Int),at',v,ot,rg] 235)).cell? ⟨w.heap.size,2,none⟩=some ↑v:=bg.cell 2;have g3:(w.alloc (.cells #[(9:Int),at',v,ot,rg] 235)).cell? ⟨w.heap.size,3,none⟩=some ↑ot:=bg.cell 3;have g4:(w.alloc (.cells #[(9:Int),at',v,ot,rg] 235)).cell? ⟨w.heap.size,4,none⟩=some ↑rg:=bg.cell 4;clear h bg hc;generalize 19*i=I at*;go_enter func151,ntmps151;go_upto_region 1 with fail;generalize w.alloc (.cells #[(9:Int),at',v,ot,rg] 235)=W at*
 exact Us71
theorem A1.IX(h:A1 z l k w m x)(i:Nat)(pc at' v ot rg:Int)(m':Co)(x':WS)(hc:∀w,A1 z l k w m x->Cs 222 #[ptr (z.wq k),ptr z.c,.pointer (some ⟨z.fr,19*i,none⟩),pc,.agg #[(10:Int),at',v,ot,rg]] w (.tuple #[]) λw'=>A1 z l k w' m' x'):Cs 151 #[ptr (z.wq k),ptr z.c,.pointer (some ⟨z.fr,19*i,none⟩),pc,.agg #[(10:Int),at',v,ot,rg]] w (.tuple #[]) λw'=>A1 z l k w' m' x':=by
 have bg:=af.new w #[(10:Int),at',v,ot,rg] 235 _ rfl;have HC:=h.alloc (.cells #[(10:Int),at',v,ot,rg] 235);have c1:=Hd hc;have g0:(w.alloc (.cells #[(10:Int),at',v,ot,rg] 235)).cell? ⟨w.heap.size,0,none⟩=some (.int .i64 10):=bg.cell 0;have g1:(w.alloc (.cells #[(10:Int),at',v,ot,rg] 235)).cell? ⟨w.heap.size,1,none⟩=some ↑at':=bg.cell 1;have g2:(w.alloc (.cells #[(10:Int),at',v,ot,rg] 235)).cell? ⟨w.heap.size,2,none⟩=some ↑v:=bg.cell 2;have g3:(w.alloc (.cells #[(10:Int),at',v,ot,rg] 235)).cell? ⟨w.heap.size,3,none⟩=some ↑ot:=bg.cell 3;have g4:(w.alloc (.cells #[(10:Int),at',v,ot,rg] 235)).cell? ⟨w.heap.size,4,none⟩=some ↑rg:=bg.cell 4;clear h bg hc;generalize 19*i=I at*;go_enter func151,ntmps151;go_upto_region 1 with fail;generalize w.alloc (.cells #[(10:Int),at',v,ot,rg] 235)=W at*
 exact Us71
theorem A1.IY(h:A1 z l k w m x)(i:Nat)(pc at' v ot rg:Int)(m':Co)(x':WS)(hc:∀w,A1 z l k w m x->Cs 223 #[ptr (z.wq k),ptr z.c,.pointer (some ⟨z.fr,19*i,none⟩)] w (.tuple #[]) λw'=>A1 z l k w' m' x'):Cs 151 #[ptr (z.wq k),ptr z.c,.pointer (some ⟨z.fr,19*i,none⟩),pc,.agg #[(11:Int),at',v,ot,rg]] w (.tuple #[]) λw'=>A1 z l k w' m' x':=by
 have bg:=af.new w #[(11:Int),at',v,ot,rg] 235 _ rfl;have HC:=h.alloc (.cells #[(11:Int),at',v,ot,rg] 235);have c1:=Hd hc;have g0:(w.alloc (.cells #[(11:Int),at',v,ot,rg] 235)).cell? ⟨w.heap.size,0,none⟩=some (.int .i64 11):=bg.cell 0;have g1:(w.alloc (.cells #[(11:Int),at',v,ot,rg] 235)).cell? ⟨w.heap.size,1,none⟩=some ↑at':=bg.cell 1;have g2:(w.alloc (.cells #[(11:Int),at',v,ot,rg] 235)).cell? ⟨w.heap.size,2,none⟩=some ↑v:=bg.cell 2;have g3:(w.alloc (.cells #[(11:Int),at',v,ot,rg] 235)).cell? ⟨w.heap.size,3,none⟩=some ↑ot:=bg.cell 3;have g4:(w.alloc (.cells #[(11:Int),at',v,ot,rg] 235)).cell? ⟨w.heap.size,4,none⟩=some ↑rg:=bg.cell 4;clear h bg hc;generalize 19*i=I at*;go_enter func151,ntmps151;go_upto_region 1 with fail;generalize w.alloc (.cells #[(11:Int),at',v,ot,rg] 235)=W at*;generalize w.heap.size=b at*
 go_wp2_with (go_at_call 223;refine(c1.o _ U15).q λw3 H3=> ?_)
 go_end0
 exact⟨rfl,H3⟩
theorem A1.IZ(h:A1 z l k w m x)(i:Nat)(pc at' v ot rg:Int)(m':Co)(x':WS)(hc:∀w,A1 z l k w m x->Cs 224 #[ptr (z.wq k),ptr z.c,.pointer (some ⟨z.fr,19*i,none⟩)] w (.tuple #[]) λw'=>A1 z l k w' m' x'):Cs 151 #[ptr (z.wq k),ptr z.c,.pointer (some ⟨z.fr,19*i,none⟩),pc,.agg #[(12:Int),at',v,ot,rg]] w (.tuple #[]) λw'=>A1 z l k w' m' x':=by
 have bg:=af.new w #[(12:Int),at',v,ot,rg] 235 _ rfl;have HC:=h.alloc (.cells #[(12:Int),at',v,ot,rg] 235);have c1:=Hd hc;have g0:(w.alloc (.cells #[(12:Int),at',v,ot,rg] 235)).cell? ⟨w.heap.size,0,none⟩=some (.int .i64 12):=bg.cell 0;have g1:(w.alloc (.cells #[(12:Int),at',v,ot,rg] 235)).cell? ⟨w.heap.size,1,none⟩=some ↑at':=bg.cell 1;have g2:(w.alloc (.cells #[(12:Int),at',v,ot,rg] 235)).cell? ⟨w.heap.size,2,none⟩=some ↑v:=bg.cell 2;have g3:(w.alloc (.cells #[(12:Int),at',v,ot,rg] 235)).cell? ⟨w.heap.size,3,none⟩=some ↑ot:=bg.cell 3;have g4:(w.alloc (.cells #[(12:Int),at',v,ot,rg] 235)).cell? ⟨w.heap.size,4,none⟩=some ↑rg:=bg.cell 4;clear h bg hc;generalize 19*i=I at*;go_enter func151,ntmps151;go_upto_region 1 with fail;generalize w.alloc (.cells #[(12:Int),at',v,ot,rg] 235)=W at*;generalize w.heap.size=b at*
 go_wp2_with (go_at_call 224;refine(c1.o _ U15).q λw3 H3=> ?_)
 go_end0
 exact⟨rfl,H3⟩
theorem A1.Pv(h:A1 z l k w m x)(i:Nat)(pc kn at' v ot rg:Int)(hi:m.ok i)(hx:x.Sa=i)(m':Co)(x':WS)(hf:m.turn x i pc kn v=some (m',x')):Cs 151 #[ptr (z.wq k),ptr z.c,.pointer (some ⟨z.fr,19*i,none⟩),pc,.agg #[kn,at',v,ot,rg]] w (.tuple #[]) λw'=>A1 z l k w' m' x':=by
 unfold Co.turn at hf
 split at hf
 ·rename_i e;subst e;exact h.Md i pc at' v ot rg m' x' (λw h=>h.Nn i pc v hi hx m' x' hf)
 split at hf
 ·rename_i e;subst e;exact h.Me i pc at' v ot rg m' x' (λw h=>h.Np i pc v hi hx m' x' hf)
 split at hf
 ·rename_i e
  rcases e with rfl|rfl
  ·exact h.Mf i pc at' v ot rg m' x' (λw h=>h.DY i pc 9 at' v ot rg (Or.inl rfl) hi m' x' hf)
  ·exact h.IX i pc at' v ot rg m' x' (λw h=>h.DY i pc 10 at' v ot rg (Or.inr rfl) hi m' x' hf)
 split at hf
 ·rename_i e;subst e;exact h.IY i pc at' v ot rg m' x' (λw h=>h.Jz i hi m' x' hf)
 split at hf
 ·rename_i e;subst e;exact h.IZ i pc at' v ot rg m' x' (λw h=>h.Nl i hi hx m' x' hf)
 ·cases hf
end Go.Proofs.YteiignfflbmafaaGreat.Tp
