/- TopOne, part 17. -/
import Derived.Test.YteiignfflbmafaaGreatQ15
set_option linter.unusedVariables false
set_option linter.unusedSimpArgs false
set_option maxRecDepth 100000
set_option maxHeartbeats 8000000
namespace Go.Proofs.YteiignfflbmafaaGreat.Tp
open Go.Proofs.Tryz
open Go.RowKit Go.Proofs.YteiignfflbmafaaGreat.Tok
theorem Us108 {p:Prop} (h:p:=by
 by_cases e:j=k
 ·subst e;exact I.Dr j x hk
 ·rw[Sm _ _ e]at h;exact I.Dr j y h):p:=h
structure mY(G:Gh)(m:Vw)(G':Gh)(m':Vw)(k:Nat):Prop where
 pl:m'.pl=m.pl
 Sq:∀i r,G.Sq i=.W k r->G'.Sq i=.W k r/\m'.fr i=m.fr i/\G'.ph i=G.ph i/\G'.aU i=G.aU i
 au:∀i,G.Sq i=.W k 0->m.kd i=2->(m'.fr (m.pa i)).ae=(m.fr (m.pa i)).ae
 w3:∀i,G'.Sq i=.W k 3->G.Sq i=.W k 3
 aU:G'.aU (2000+k)=G.aU (2000+k)
 tl:m'.tl k=m.tl k
 T:G'.T k=G.T k
 lo:G.lo k<=G'.lo k
 RD:m'.sl k (G.T k)=m.sl k (G.T k)
 nx:∀v,m.nx v<=m'.nx v
 tk:∀v n,n<m.nx v->G.tk v n=k->G'.tk v n=k
 cr:∀v,G.cr v≠some k->G'.cr v≠some k
 Ns:∀v,m.sv v<m.nx v->G.tk v (m.sv v)=k->m'.sv v=m.sv v/\(G.cr v=some k->G'.cr v=some k)/\G'.H v=G.H v/\G'.dk v=G.dk v/\(G.dk v=2->m'.sl v (G.H v-1)=m.sl v (G.H v-1))
 fin:∀s it,Fin m.log s it->Fin m'.log s it
 ae:m.ae<=m'.ae
theorem Ready.congr{G G':Gh}{m m':Vw}{i:Nat}(h:Ready G m i)(h1:m'.fr i=m.fr i)(h2:G'.ph i=G.ph i):Ready G' m' i:=by
 unfold Ready Vw.kd at*;rw[h1,h2];exact h
theorem mY.RA{G G':Gh}{m m':Vw}{k:Nat}(S:mY G m G' m' k){i r:Nat}(o:G.Sq i=.W k r)(h:Ready G m i):Ready G' m' i:=h.congr (S.Sq i r o).2.1 (S.Sq i r o).2.2.1
theorem Wait.congr{G G':Gh}{m m':Vw}{k v:Nat}{r:DW}(h:Wait G m k v r)(S:mY G m G' m' k):Wait G' m' k v r:=by
 obtain⟨h1,h2,h3,h4⟩:=h
 exact⟨by rw[S.pl];exact h1,Int.lt_of_lt_of_le h2 (S.nx v),S.tk v _ h2 h3,S.cr v h4⟩
theorem jH.congr{G G':Gh}{m m':Vw}{k v:Nat}{r:DW}(h:jH G m k v r)(S:mY G m G' m' k):jH G' m' k v r:=by
 obtain⟨h1,h2,h3,h4⟩:=h;have q:=(S.Ns v h3 (h2▸h4)).1
 exact⟨by rw[S.pl];exact h1,by rw[q];exact h2,by rw[q];exact Int.lt_of_lt_of_le h3 (S.nx v),S.tk v _ (by rw[h2];exact h3) h4⟩
theorem ig.congr{G G':Gh}{m m':Vw}{k:Nat}{r:DW}(h:ig G m k r)(S:mY G m G' m' k):ig G' m' k r:=by
 obtain⟨h1,h2,h3,h4,h5,h6⟩:=h;have hT:=S.RD;rw[h4]at hT;refine⟨by rw[S.pl];exact h1,h2,by rw[S.tl];exact h3,by rw[S.T];exact h4,h5,?_⟩;have hl:=S.lo;have hp:=S.pl
 split at h6<;>simp_all<;>omega
theorem xI.congr{G G':Gh}{m m':Vw}{k:Nat}{r:DW}(h:xI G m k r)(S:mY G m G' m' k):xI G' m' k r:=by
 obtain⟨h1,h2,h3,h4⟩:=h;have hT:=S.RD;have c:=λi (o:G.Sq i=.W k 0)=>(S.Sq i 0 o).1;have rd:=λi (o:G.Sq i=.W k 0) (h:Ready G m i)=>S.RA o h;have e1:=S.tl;have e2:=S.T;have w:=λv (h:Wait G m k v r)=>h.congr S;have cc:=λv (h:jH G m k v r)=>h.congr S;have cr:=S.cr k;refine⟨by rw[S.pl];exact h1,h2,h3,?_⟩
 split at h4<;>grind
theorem lD.congr{G G':Gh}{m m':Vw}{k v:Nat}{r:DW}(h:lD G m k v r)(S:mY G m G' m' k):lD G' m' k v r:=by
 obtain⟨h1,h2,h3,h4⟩:=h;have c:=λi (o:G.Sq i=.W k 0)=>(S.Sq i 0 o).1;have rd:=λi (o:G.Sq i=.W k 0) (h:Ready G m i)=>S.RA o h;have w:=λv (h:Wait G m k v r)=>h.congr S;have cc:=λv (h:jH G m k v r)=>h.congr S;have cr:=S.cr v;have q:jH G m k v r->m'.sv v=m.sv v/\(G.cr v=some k->G'.cr v=some k)/\G'.H v=G.H v/\G'.dk v=G.dk v/\(G.dk v=2->m'.sl v (G.H v-1)=m.sl v (G.H v-1)):=λ⟨_,a,b,c⟩=>S.Ns v b (a▸c);have hp:=S.pl;refine⟨by rw[S.pl];exact h1,h2,by rw[S.pl];exact h3,?_⟩
 split at h4
 case h_7=>
  obtain⟨g1,g2,g3,g4,g5,i,g6,g7,g8⟩:=h4;have Q:=q g2;refine⟨g1,cc v g2,Q.2.1 g3,by rw[Q.2.2.2.1];exact g4,by rw[Q.2.2.1];exact g5,i,?_,c i g7,rd i g7 g8⟩;rw[g5,Q.2.2.2.2 g4,<-g5]
  exact g6
 all_goals grind
theorem Run.congr{G G':Gh}{m m':Vw}{i:Nat}(h:Run G m i)(h1:m'.fr i=m.fr i)(h2:G'.ph i=G.ph i):Run G' m' i:=by
 unfold Run Vw.kd at*;rw[h1,h2];exact h
theorem zJ.congr{G G':Gh}{m m':Vw}{k:Nat}{x:WS}{i ph:Nat}(h:zJ G m k x i ph)(S:mY G m G' m' k):zJ G' m' k x i ph/\m'.fr i=m.fr i/\(m'.fr (m.pa i)).ae=(m.fr (m.pa i)).ae:=by
 obtain⟨h1,h2,h3,h4,h5⟩:=h;obtain⟨a,b,c,d⟩:=S.Sq i 0 h2;refine⟨⟨h1,a,?_,by rw[c];exact h4,by rw[b];exact h5⟩,b,S.au i h2 h3⟩;unfold Vw.kd at*;rw[b];exact h3
theorem Ring.congr{m m':Vw}{i:Nat}{r:NW}(h:Ring m i r)(hp:m'.pl=m.pl)(h1:m'.fr i=m.fr i)(h2:(m'.fr (m.pa i)).ae=(m.fr (m.pa i)).ae):Ring m' i r:=by
 obtain⟨a,b,c,d,e⟩:=h;unfold Ring Vw.pa at*;rw[h1,h2,hp]
 exact⟨a,b,c,d,e⟩
theorem Cl.congr{G G':Gh}{m m':Vw}{k:Nat}{x:WS}(h:Cl G m k x)(S:mY G m G' m' k):Cl G' m' k x:=by
 have Sq:=S.Sq
 cases h with
 |yU a=>exact .yU a
 |dM r v a b c=>exact .dM r v a b (c.congr S)
 |pop r a b c=>exact .pop r a b (c.congr S)
 |tC r i l a b c d e e2 f g h1 h2 h3 h4 h5 h6=>
  obtain⟨o1,o2,o3,o4⟩:=Sq l 0 e;obtain⟨q1,q2,q3,q4⟩:=Sq i 1 h1
  exact .tC r i l a b (c.congr S) d o1 (e2.congr o2 o3) f g q1 (by unfold Vw.kd at*;rw[q2];exact h2) (by rw[q3];exact h3) (by rw[q2];exact h4) (by rw[q2];exact h5) h6
 |tF r l j a b c d e e2 f g h1=>
  obtain⟨o1,o2,o3,o4⟩:=Sq l 0 e;obtain⟨q1,q2,q3,q4⟩:=Sq j 1 g
  exact .tF r l j a b (c.congr S) d o1 (e2.congr o2 o3) f q1 (h1.congr q2 q3)
 |run i a b c d=>obtain⟨q1,q2,q3,q4⟩:=Sq i 0 c;exact .run i a b q1 (d.congr q2 q3)
 |joined i a b c d=>obtain⟨q1,q2,q3,q4⟩:=Sq i 2 c;exact .joined i a b q1 (d.congr q2 q3)
 |spawn i j a b c d e f g h1 h2 h3=>
  obtain⟨o1,o2,o3,o4⟩:=Sq i 0 d;obtain⟨q1,q2,q3,q4⟩:=Sq j 3 e
  exact .spawn i j a b c o1 q1 (f.congr o2 o3) (by unfold Vw.kd at*;rw[q2];exact g) (by unfold Vw.pa at*;rw[q2];exact h1) (by rw[q4];exact h2) (by rw[o2];exact h3)
 |lI p a b c d=>exact .lI p a b (by rw[S.aU];exact c) d
 |resume p a b c d=>obtain⟨q1,q2,q3,q4⟩:=Sq p 2 c;exact .resume p a b q1 (d.congr q2 q3)
 |advance i a b c d=>obtain⟨q1,q2,q3⟩:=b.congr S;exact .advance i a q1 U63 d
 |wH i a b c d=>obtain⟨q1,q2,q3⟩:=b.congr S;exact .wH i a q1 U63 d
 |lK i r a b c d e f g h1 h2 h3=>obtain⟨q1,q2,q3⟩:=b.congr S;exact .lK i r a q1 U63 d e f (by rw[S.pl];exact g) h1 h2 (by unfold Vw.pa at*;rw[q2];exact h3)
 |pY i r a b c d e f g h1 h2 h3 h4=>obtain⟨q1,q2,q3⟩:=b.congr S;exact .pY i r a q1 c d (by rw[S.pl];exact e) f g h1 (by unfold Vw.pa at*;rw[q2];exact h2) (by rw[q2];exact h3) h4
 |look i a b c d e=>obtain⟨q1,q2,q3⟩:=b.congr S;exact .look i a q1 U63 d (by rw[q2];exact e)
 |ending i a b c d=>obtain⟨q1,q2,q3⟩:=b.congr S;exact .ending i a q1 U63 d
 |closing i r lk a b c d e f g h1 h2 h3=>obtain⟨q1,q2,q3⟩:=b.congr S;exact .closing i r lk a q1 U63 d e f (g.congr S.pl q2 q3) h1 h2 h3
 |drop i a b c d e=>
  obtain⟨q1,q2,q3⟩:=b.congr S;refine .drop i a q1 U63 d (λz=>?_);obtain⟨z1,z2⟩:=e z;refine⟨z1,?_⟩;unfold Vw.pa at*;rw[q2]
  exact(Sq _ 1 z2).1
 |finish l a b c d=>obtain⟨q1,q2,q3,q4⟩:=Sq l 0 c;exact .finish l a b q1 U59
 |complete l a b c d=>obtain⟨q1,q2,q3,q4⟩:=Sq l 2 c;exact .complete l a b q1 U59
 |loop l a b c d=>obtain⟨q1,q2,q3,q4⟩:=Sq l 0 c;exact .loop l a b q1 U59
 |gI l r a b c d e f g h1 h2 h3 h4 h5 h6 h7 h8=>
  refine .gI l r a b c (by rw[S.pl];exact d) e f g h1 (by rw[S.pl];exact h2) h3 (Int.le_trans h4 S.ae) h5 h6 (λz=>?_) (λz=>S.fin _ _ (h8 z));obtain⟨z1,z2,z3,z4⟩:=h7 z;obtain⟨q1,q2,q3,q4⟩:=Sq l 0 z1
  exact⟨q1,by unfold Vw.kd at*;rw[q2];exact z2,by rw[q2];exact z3,by rw[q2];exact z4⟩
 |start l a b c d e f=>obtain⟨q1,q2,q3,q4⟩:=Sq l 0 c;exact .start l a b q1 U59 (by rw[q2];exact e) (by rw[q2];exact S.fin _ _ f)
 |begins l c a b d e f g h1 h2 h3 h4=>
  obtain⟨o1,o2,o3,o4⟩:=Sq l 0 e;obtain⟨q1,q2,q3,q4⟩:=Sq c 3 f
  exact .begins l c a b d o1 q1 (by unfold Vw.kd at*;rw[o2];exact g) (by unfold Vw.kd at*;rw[q2];exact h1) (by unfold Vw.pa at*;rw[q2];exact h2) (by rw[q3];exact h3) (by rw[q4];exact h4)
theorem Idle.congr{G G':Gh}{m m':Vw}{tm tm':Int}{k:Nat}{x:WS}(h:Idle G m tm k x)(S:mY G m G' m' k)(ht:tm<=tm'):Idle G' m' tm' k x:=by
 obtain⟨a,b,c,d,e1,e2⟩:=h;refine⟨a,λh2 h3=>?_,⟨c.1,Int.le_trans c.2 ht⟩,λv z=>?_,λi z=>e1 i (S.w3 i z),λz=>S.aU.trans (e2 z)⟩
 ·rw[S.tl,S.T];exact b h2 h3
 ·by_cases q:G.cr v=some k
  ·exact d v q
  ·exact absurd z (S.cr v q)
theorem NS.O8{G G':Gh}{m m':Vw}{k:Nat}(N:NS G m G' m' k){tm:Int}(F:bP G m tm)(j:Nat)(hj:j≠k):mY G m G' m' j:=by
 have hd:∀v,G'.lo v=G.lo v:=λv=>by unfold Gh.lo;rw[N.H,N.dk]
 refine⟨N.pl,λi r h=>N.Rx i j r hj h,λi h h2=>N.au _ (F.iter i (by rw[h];exact λz=>by cases z) h2).1,λi h=>N.w3 i j hj h,N.aU j hj,N.q _ _,by rw[N.T],by rw[hd];exact Int.le_refl _,?_,λv=>by rw[show m'.nx v=m.nx v from N.q _ _];exact Int.le_refl _,λv n h1 h2=>by rw[N.tk];exact h2,λv h=>by rw[N.cr];exact h,λv h1 h2=>⟨N.q _ _,λz=>by rw[N.cr];exact z,by rw[N.H],by rw[N.dk],λz=>?_⟩,N.fin,N.ae⟩
 ·unfold Vw.sl;rw[N.pl];exact N.q _ _
 ·unfold Vw.sl;rw[N.pl];exact N.q _ _
theorem NS.dq{G G':Gh}{m m':Vw}{k:Nat}(N:NS G m G' m' k){tm tm':Int}(ht:tm<=tm'){v:Nat}(h:eP G m tm v):eP G' m' tm' v:=by
 obtain⟨a,b,c,d,e,f,g,h1,h2,h3⟩:=h;have q:=N.q v;have e0:m'.hd v=m.hd v:=q 0;have e1:m'.tl v=m.tl v:=q 1;have e2:m'.nx v=m.nx v:=q 2;have e3:m'.sv v=m.sv v:=q 3;refine⟨by rw[e0,N.H,N.dk];exact a,by unfold Gh.lo at*;rw[N.H,N.dk];exact b,by rw[N.H,N.T];exact c,by rw[N.T];omega,by rw[e1,N.T];exact e,λn n1 n2=>?_,by rw[e2,e3];omega,by rw[N.dk,N.cr,N.tk,e2,e3];exact h1,by rw[N.dk,N.cr];exact h2,by rw[N.dk];exact h3⟩;rw[N.H]at n1;rw[N.T]at n2;obtain⟨i,p1,p2,p3⟩:=f n n1 n2;obtain⟨r1,r2,r3⟩:=N.Re i v n p2;refine⟨i,?_,r1,p3.congr r2 r3⟩;unfold Vw.sl;rw[N.pl]
 exact(q _).trans p1
theorem Inv.ns{G G':Gh}{m m':Vw}{ws:Nat->Option WS}{tm tm':Int}(I:Inv G m ws tm){k:Nat}{x x':WS}(hk:ws k=some x)(N:NS G m G' m' k)(F:bP G' m' tm')(ht:tm<=tm')(ht2:tm'<=90000)(hc:Cl G' m' k x')(hi:Idle G' m' tm' k x'):Inv G' m' (Sd ws k (some x')) tm':=by
 refine⟨by rw[N.pl];exact I.ok,by have:=I.Pg;omega,λj y h=>?_,λv hv=>N.dq ht (I.dq v (by rw[<-N.pl];exact hv)),λj y h=>?_,F⟩
 ·rw[N.pl]
  exact Us108
 ·by_cases e:j=k
  ·subst e;rw[Sb]at h;cases h;exact⟨hc,hi⟩
  ·rw[Sm _ _ e]at h
   obtain⟨a,b⟩:=I.cl j y h;have S:=N.O8 I.aJ j e
   exact⟨a.congr S,b.congr S ht⟩
def Ad.Ke(p:Pl):Ad->Bool
 | .q v j=>Decidable.decide (v<p.wk.toNat/\j<4+p.dq.toNat)
 | .f i j=>Decidable.decide (1<=i/\i<=p.fr.toNat/\j<10)
theorem Ad.mK(p:Pl)(a:Ad):a.Ke p=true↔a.yC p:=by cases a<;>simp[Ad.Ke,Ad.yC]
def Co.vw(m:Co):Vw:={pl:=m.pl,W:=λa=>if a.Ke m.pl=true then m.wd a else 0,fr:=λi=>(m.fr i).fv,Sj:=λi=>m.Sj.getD i false,log:=m.log,ae:=m.ae}
theorem Co.QY{m:Co}{a:Ad}(h:a.yC m.pl):m.vw.W a=m.wd a:=if_pos ((Ad.mK _ _).2 h)
theorem Co.zg{m m':Co}(h:m.Sn){a:Ad}(ha:a.yC m.pl)(v:Int)(hw:m'.RY=m.RY.set (a.ix m.pl) v)(hp:m'.pl=m.pl)(hf:m'.aJ=m.aJ)(hh:m'.Sj=m.Sj)(hl:m'.log=m.log)(hs:m'.ae=m.ae):m'.vw={m.vw with W:=Sd m.vw.W a v}:=by
 unfold Co.vw;rw[hp,hl,hs,hh];have e1:(λi=>(m'.fr i).fv)=(λi=>(m.fr i).fv):=by unfold Co.fr;rw[hf]
 have e2:(λb:Ad=>if b.Ke m.pl=true then m'.wd b else 0)=Sd (λb:Ad=>if b.Ke m.pl=true then m.wd b else 0) a v:=by
  funext b
  unfold Sd
  by_cases hb:b.yC m.pl
  ·have q:=(Ad.mK m.pl b).2 hb
   simp only[q,if_true]
   exact Co.Pw h ha hb v m' hw hp
  ·have q:¬b.Ke m.pl=true:=λq=>hb ((Ad.mK _ _).1 q)
   have ne:b≠a:=by rintro rfl;exact hb ha
   simp[q,ne]
 rw[e1,e2]
theorem Co.Lu{m m':Co}(hw:m'.RY=m.RY)(hp:m'.pl=m.pl)(hf:m'.aJ=m.aJ)(hh:m'.Sj=m.Sj)(hl:m'.log=m.log)(hs:m'.ae=m.ae):m'.vw=m.vw:=by
 unfold Co.vw;have e1:(λi=>(m'.fr i).fv)=(λi=>(m.fr i).fv):=by unfold Co.fr;rw[hf]
 have e2:m'.wd=m.wd:=by unfold Co.wd;rw[hw,hp]
 rw[hp,hl,hs,hh,e1,e2]
theorem Ad.Qf{p:Pl}(i j:Nat)(h1:1<=i)(h2:i<=p.fr.toNat)(hj:j<10):(Ad.f i j).yC p:=⟨h1,h2,hj⟩
def rF(k:Nat)(p:aY):Prop:=p=.W k 0∨p=.W k 1∨∃v n,p=.D v n
def fK(k:Nat)(o o':Nat->aY):Prop:=∀i,o' i=o i∨(rF k (o i)/\rF k (o' i))
theorem fK.refl(k:Nat)(o:Nat->aY):fK k o o:=λ_=>Or.inl rfl
theorem rF.ne{k:Nat}{p q:aY}(h:rF k q)(h1:∀v n,p≠ .D v n)(h2:p≠ .W k 0)(h3:p≠ .W k 1):q≠p:=by
 rintro rfl
 rcases h with a|a|⟨v,n,a⟩
 ·exact h2 a
 ·exact h3 a
 ·exact h1 v n a
theorem rF.acts{k:Nat}{p:aY}(h:rF k p):p.acts=1:=by
 rcases h with a|a|⟨v,n,a⟩<;>rw[a]<;>rfl
theorem fK.iff{k:Nat}{o o':Nat->aY}(h:fK k o o')(i:Nat)(p:aY)(h1:∀v n,p≠ .D v n)(h2:p≠ .W k 0)(h3:p≠ .W k 1):o' i=p↔o i=p:=by
 rcases h i with e|⟨a,b⟩
 ·rw[e]
 ·exact⟨λz=>absurd z (b.ne h1 h2 h3),λz=>absurd z (a.ne h1 h2 h3)⟩
theorem fK.acts{k:Nat}{o o':Nat->aY}(h:fK k o o')(i:Nat):(o' i).acts=(o i).acts:=by
 rcases h i with e|⟨a,b⟩
 ·rw[e]
 ·rw[a.acts,b.acts]
theorem rF.new{k:Nat}{p:aY}(h:rF k p):p.new=0:=by
 rcases h with a|a|⟨v,n,a⟩<;>rw[a]<;>rfl
theorem rF.hand{k:Nat}{p:aY}(h:rF k p):p.hand=0∨p.hand=k+1:=by
 rcases h with a|a|⟨v,n,a⟩<;>rw[a]
 ·exact Or.inr rfl
 ·exact Or.inl rfl
 ·exact Or.inl rfl
theorem bP.moved{G:Gh}{m:Vw}{tm:Int}(F:bP G m tm){G':Gh}{k:Nat}(W':Ad->Int)(hW:∀i j,W' (.f i j)=m.W (.f i j))(hn:∀g,G.Sq g≠ .W k 3)(hm:fK k G.Sq G'.Sq)(h1:G'.aU=G.aU)(h2:G'.cur=G.cur)(h3:G'.ph=G.ph):
  bP G' {m with W:=W'} (tm+1):=by
 have hF:∀f,G'.Sq f=.F↔G.Sq f=.F:=λf=>hm.iff f .F (λ_ _ z=>by cases z) (λz=>by cases z) (λz=>by cases z);have hnh:∀f p,((G.Sq f).new≠0/\(G.Sq p).hand=(G.Sq f).new)->(G'.Sq f).new≠0/\(G'.Sq p).hand=(G'.Sq f).new:=λf p ⟨a,b⟩=>by
  have e1:G'.Sq f=G.Sq f:=by
   rcases hm f with e|⟨x,y⟩
   ·exact e
   ·exact absurd x.new a
  have e2:G'.Sq p=G.Sq p:=by
   rcases hm p with e|⟨x,y⟩
   ·exact e
   ·rcases x.hand with z|z
    ·exact absurd (b.symm.trans z) a
    ·exact absurd (aY.fA (b.symm.trans z)) (hn f)
  rw[e1,e2]
  exact⟨a,b⟩
 refine{hld:= ?hld,bd:= ?bd,kind:= ?kind,due:= ?due,bF:= ?bF,kC:= ?kC,iter:= ?iter,ix:= ?ix,jD:= ?jD,iO:= ?iO,jq:= ?jq,st0:= ?st0,loop:= ?loop,au:= ?au,jG:= ?jG,dO:= ?dO,dU:= ?dU,dV:= ?dV,c1:= ?c1,c2:= ?c2,dn:= ?dn,jn:= ?jn,jz:= ?jz,dG:= ?dG,one:= ?one,ko:= ?ko,stt:= ?stt,dJ:= ?dJ,dK:= ?dK,dP:= ?dP,dC:= ?dC,lg:= ?lg,sr:= ?sr,seen:= ?seen,few:= ?few}
 case hld=>
  exact λf=>(F.hld f).trans (not_congr (hF f).symm)
 case bd=>
  exact λf hf=>F.bd f ((not_congr (hF f)).1 hf)
 case kind=>
  exact λf hf=>F.kind f ((not_congr (hF f)).1 hf)
 case due=>
  exact λf hf=>F.due f ((not_congr (hF f)).1 hf)
 case bF=>
  exact λf hf a b=>by obtain⟨x,y⟩:=F.bF f ((not_congr (hF f)).1 hf) a b;exact⟨(not_congr (hF _)).2 x,y⟩
 case kC=>
  exact λf hf a b c=>hnh f _ (F.kC f ((not_congr (hF f)).1 hf) a b (by rw[<-h1];exact c))
 case iter=>
  exact λf hf a=>by obtain⟨x,y⟩:=F.iter f ((not_congr (hF f)).1 hf) a;exact⟨(not_congr (hF _)).2 x,y⟩
 case ix=>
  exact λf hf a=>by rw[h3];exact F.ix f ((not_congr (hF f)).1 hf) a
 case jD=>
  intro f hf a b;rw[h3]at b;obtain⟨q1,q2,q3,q4,q5,q6⟩:=F.jD f ((not_congr (hF f)).1 hf) a b;obtain⟨r1,r2⟩:=hnh f _ ⟨q1,q2⟩
  exact⟨r1,r2,q3,q4,by rw[h2];exact q5,q6⟩
 case iO=>
  exact λf hf a b=>by rw[h1,h2];exact F.iO f ((not_congr (hF f)).1 hf) a (by rw[<-h3];exact b)
 case jq=>
  exact λf hf a b=>by rw[h1];exact F.jq f ((not_congr (hF f)).1 hf) a (by rw[<-h3];exact b)
 case st0=>
  exact λf hf a b c=>(hm.iff _ _ (λ_ _ z=>by cases z) (λz=>by cases z) (λz=>by cases z)).2 (F.st0 f ((not_congr (hF f)).1 hf) a (by rw[<-h3];exact b) c)
 case loop=>
  intro f hf a;obtain⟨x,y,z⟩:=F.loop f ((not_congr (hF f)).1 hf) a
  exact⟨(hm.iff _ _ (λ_ _ z=>by cases z) (λz=>by cases z) (λz=>by cases z)).2 x,y,by rw[h3];exact z⟩
 case au=>
  exact λf hf=>F.au f ((not_congr (hF f)).1 hf)
 case jG=>
  exact λf hf a=>Int.le_trans (F.jG f ((not_congr (hF f)).1 hf) a) U2
 case dO=>
  exact λf hf=>F.dO f ((not_congr (hF f)).1 hf)
 case dU=>
  intro f hf a b;obtain⟨x,y,z⟩:=F.dU f ((not_congr (hF f)).1 hf) a b;rw[h2,h3]
  exact⟨x,(not_congr (hF _)).2 y,z⟩
 case dV=>
  intro f hf a b;obtain⟨y,z⟩:=F.dV f ((not_congr (hF f)).1 hf) a b;rw[h2,h3]
  exact⟨(not_congr (hF _)).2 y,z⟩
 case c1=>
  exact λf hf a b=>(hW _ _).trans (F.c1 f ((not_congr (hF f)).1 hf) a b)
 case c2=>
  exact λf hf a b c=>(hW _ _).trans (F.c2 f ((not_congr (hF f)).1 hf) a b c)
 case dn=>
  intro f b h1' h2' h3' h4;have e:W' (.f f (5+4*b))=m.dn f b:=hW _ _;simp only[Vw.dn]at h4⊢;rw[e]at h4⊢
  exact F.dn f b h1' h2' h3' h4
 case jn=>
  intro f hf;obtain⟨a,b⟩:=F.jn f ((not_congr (hF f)).1 hf);rw[h1,hm.acts];show _<=W' _/\W' _<=_;rw[hW]
  exact⟨a,Int.le_trans b U2⟩
 case jz=>
  exact λf j z=>(hW _ _).trans (F.jz f j ((hm.iff _ _ (λ_ _ z=>by cases z) (λz=>by cases z) (λz=>by cases z)).1 z))
 case dG=>
  exact λf hf a b=>by rw[h1];exact F.dG f ((not_congr (hF f)).1 hf) a b
 case one=>
  exact λf g a b=>F.one f g ((not_congr (hF f)).1 a) ((not_congr (hF g)).1 b)
 case ko=>
  intro f a b c;have e:W' (.f f 1)=m.W (.f f 1):=hW _ _;obtain⟨q1,q2,q3,q4⟩:=F.ko f a b (λz=>c (e.trans z))
  exact⟨q1,(hm.iff _ _ (λ_ _ z=>by cases z) (λz=>by cases z) (λz=>by cases z)).2 q2,q3,e.trans q4⟩
 case stt=>
  exact λf b c d e=>(hW _ _).trans (F.stt f b c d e)
 case dJ=>
  intro d a b;rw[h1]at a;obtain⟨x,y,z⟩:=F.dJ d a b
  exact⟨(not_congr (hF _)).2 x,y,by rw[h1];exact z⟩
 case dK=>
  intro j a;rw[h1]at a⊢;obtain⟨x,y⟩:=F.dK j a
  exact⟨(not_congr (hF _)).2 x,y⟩
 case dP=>
  exact λd hd=>by rw[h1];exact F.dP d hd
 case dC=>
  intro f j z;rw[h1]
  rcases hm f with e|⟨a,b⟩
  ·exact F.dC f j (e.symm.trans z)
  ·have:=b.new;rw[z]at this;cases this
 case lg=>
  exact F.lg
 case sr=>
  have:=F.sr;exact⟨this.1,Int.le_trans this.2 U2⟩
 case seen=>
  exact F.seen
 case few=>
  have:=F.few;show(m.log.length:Int)<=_;omega
theorem Inv.walk{G G':Gh}{m:Vw}{ws:Nat->Option WS}{tm:Int}(I:Inv G m ws tm)(ht:tm+1<=90000)(k:Nat)(x x':WS)(hk:ws k=some x)(hn:∀g,G.Sq g≠ .W k 3)
  (W':Ad->Int) (hW:∀i j,W' (.f i j)=m.W (.f i j)) (hm:fK k G.Sq G'.Sq) (e1:G'.aU=G.aU) (e2:G'.cur=G.cur) (e3:G'.ph=G.ph)
  (hd:∀v,v<m.pl.wk.toNat->eP G' {m with W:=W'} (tm+1) v) (hS:∀j,j≠k->mY G m G' {m with W:=W'} j) (hc:Cl G' {m with W:=W'} k x') (hi:Idle G' {m with W:=W'} (tm+1) k x'):Inv G' {m with W:=W'} (Sd ws k (some x')) (tm+1):=by
 refine⟨I.ok,by have:=I.Pg;omega,λj y h=>?_,hd,λj y h=>?_,I.aJ.moved W' hW hn hm e1 e2 e3⟩
 ·exact Us108
 ·by_cases e:j=k
  ·subst e;rw[Sb]at h;cases h;exact⟨hc,hi⟩
  ·rw[Sm _ _ e]at h
   obtain⟨a,b⟩:=I.cl j y h
   exact⟨a.congr (hS j e),b.congr (hS j e) U2⟩
def Gh.at_(G:Gh)(v:Nat)(o:Nat->aY)(H T:Int)(d:Nat)(c:Option Nat)(t:Int->Nat):Gh:=
 {G with Sq:=o,H:=Sd G.H v H,T:=Sd G.T v T,dk:=Sd G.dk v d,cr:=Sd G.cr v c,tk:=Sd G.tk v t}
structure pO(G:Gh)(m:Vw)(k v:Nat)(W':Ad->Int)(o:Nat->aY)(H T:Int)(d:Nat)(c:Option Nat)(t:Int->Nat):Prop where
 f:∀i j,W' (.f i j)=m.W (.f i j)
 q:∀u j,u≠v->W' (.q u j)=m.W (.q u j)
 mv:fK k G.Sq o
 ow:k≠v->W' (.q v 1)=m.tl v/\T=G.T v/\W' (.q v (4+(G.T v%m.pl.dq).toNat))=m.sl v (G.T v)
 lo:G.lo v<=H-(if d=2 then 1 else 0)
 nx:m.nx v<=W' (.q v 2)
 tk:∀n,n<m.nx v->t n=G.tk v n
 cr:∀j,j≠k->G.cr v≠some j->c≠some j
 Ns:∀j,j≠k->m.sv v<m.nx v->G.tk v (m.sv v)=j->W' (.q v 3)=m.sv v/\c=G.cr v/\H=G.H v/\d=G.dk v/\(G.dk v=2->W' (.q v (4+((G.H v-1)%m.pl.dq).toNat))=m.sl v (G.H v-1))
 out:∀u i n,u≠v->G.Sq i=.D u n->o i=.D u n
theorem pO.O8{G:Gh}{m:Vw}{k v:Nat}{W':Ad->Int}{o:Nat->aY}{H T:Int}{d:Nat}{c:Option Nat}{t:Int->Nat}(S:pO G m k v W' o H T d c t)(j:Nat)(hj:j≠k):mY G m (G.at_ v o H T d c t) {m with W:=W'} j:=by
 obtain⟨sf,sq,sm,so,sl,sn,st,sc,sr,sx⟩:=S;refine⟨rfl,λi r h=>?_,λ_ _ _=>rfl,λi h=>?_,rfl,?_,?_,?_,?_,λu=>?_,λu n h1 h2=>?_,λu h=>?_,λu h1 h2=>?_,λ_ _ h=>h,Int.le_refl _⟩
 ·refine⟨?_,rfl,rfl,rfl⟩
  rcases sm i with e|⟨a,b⟩
  ·exact e.trans h
  ·exact absurd h (a.ne (λ_ _ z=>by cases z) (λz=>by cases z;exact hj rfl) (λz=>by cases z;exact hj rfl))
 ·rcases sm i with e|⟨a,b⟩
  ·exact e.symm.trans h
  ·have q:=b.new;have h:o i=.W j 3:=h;rw[h]at q;cases q
 ·by_cases e:j=v
  ·subst e;exact(so (Ne.symm hj)).1
  ·exact sq j 1 e
 ·by_cases e:j=v
  ·subst e;exact(Sb _ _ _).trans (so (Ne.symm hj)).2.1
  ·exact Sm _ _ e
 ·by_cases e:j=v
  ·subst e
   show _<=Sd G.H j H j-(if Sd G.dk j d j=2 then 1 else 0);rw[Sb,Sb];exact sl
  ·show _<=Sd G.H v H j-(if Sd G.dk v d j=2 then 1 else 0)
   rw[Sm _ _ e,Sm _ _ e];exact Int.le_refl _
 ·by_cases e:j=v
  ·subst e;exact(so (Ne.symm hj)).2.2
  ·exact sq j _ e
 ·by_cases e:u=v
  ·subst e;exact sn
  ·exact Int.le_of_eq (sq u 2 e).symm
 ·by_cases e:u=v
  ·subst e
   show Sd G.tk u t u n=j;rw[Sb,st n h1];exact h2
  ·show Sd G.tk v t u n=j
   rw[Sm _ _ e];exact h2
 ·by_cases e:u=v
  ·subst e
   show Sd G.cr u c u≠some j;rw[Sb];exact sc j hj h
  ·show Sd G.cr v c u≠some j
   rw[Sm _ _ e];exact h
 ·by_cases e:u=v
  ·subst e
   obtain⟨a1,a2,a3,a4,a5⟩:=sr j hj h1 h2;refine⟨a1,λz=>?_,?_,?_,a5⟩
   ·show Sd G.cr u c u=some j
    rw[Sb,a2];exact z
   ·exact(Sb _ _ _).trans a3
   ·exact(Sb _ _ _).trans a4
  ·refine⟨sq u 3 e,λz=>?_,Sm _ _ e,Sm _ _ e,λ_=>sq u _ e⟩
   show Sd G.cr v c u=some j;rw[Sm _ _ e];exact z
theorem pO.other{G:Gh}{m:Vw}{tm:Int}{k v:Nat}{W':Ad->Int}{o:Nat->aY}{H T:Int}{d:Nat}{c:Option Nat}{t:Int->Nat}(S:pO G m k v W' o H T d c t)(u:Nat)(hu:u≠v)(h:eP G m tm u):eP (G.at_ v o H T d c t) {m with W:=W'} (tm+1) u:=by
 obtain⟨a1,a2,a3,a4,a5,a6,a7,a8,a9,a10⟩:=h;have q:=S.q u;have e1:(G.at_ v o H T d c t).H u=G.H u:=Sm _ _ hu;have e2:(G.at_ v o H T d c t).T u=G.T u:=Sm _ _ hu;have e3:(G.at_ v o H T d c t).dk u=G.dk u:=Sm _ _ hu;have e4:(G.at_ v o H T d c t).cr u=G.cr u:=Sm _ _ hu;have e5:(G.at_ v o H T d c t).tk u=G.tk u:=Sm _ _ hu;refine⟨?_,?_,by rw[e1,e2];exact a3,by rw[e2];omega,?_,λn h1 h2=>?_,?_,λz=>?_,λz=>?_,by rw[e3];exact a10⟩
 ·rw[e1,e3];exact(q 0 hu).trans a1
 ·unfold Gh.lo at*;rw[e1,e3];exact a2
 ·rw[e2];show W' _<=_/\_<=W' _;rw[q 1 hu];exact a5
 ·rw[e1]at h1;rw[e2]at h2
  obtain⟨i,p1,p2,p3⟩:=a6 n h1 h2
  exact⟨i,(q _ hu).trans p1,S.out u i n hu p2,p3⟩
 ·show 0<=W' _/\W' _<=W' _/\W' _<=_
  rw[q 2 hu,q 3 hu];exact⟨a7.1,a7.2.1,Int.le_trans a7.2.2 U2⟩
 ·rw[e3]at z
  rw[e4,e5];show W' _<W' _/\∃c,_/\G.tk u (W' _)=c;rw[q 2 hu,q 3 hu];exact a8 z
 ·rw[e3]at z;rw[e4];exact a9 z
theorem Inv.RQ{G:Gh}{m:Vw}{ws:Nat->Option WS}{tm:Int}(I:Inv G m ws tm)(ht:tm+1<=90000){k v:Nat}{x x':WS}(hk:ws k=some x)(h6:x.R8=0∨x.R8=1∨x.R8=2∨x.R8=3)
  {W':Ad->Int} {o:Nat->aY} {H T:Int} {d:Nat} {c:Option Nat} {t:Int->Nat} (S:pO G m k v W' o H T d c t) (hd:eP (G.at_ v o H T d c t) {m with W:=W'} (tm+1) v) (hc:Cl (G.at_ v o H T d c t) {m with W:=W'} k x') (hi:Idle (G.at_ v o H T d c t) {m with W:=W'} (tm+1) k x'):
  Inv (G.at_ v o H T d c t) {m with W:=W'} (Sd ws k (some x')) (tm+1):=
 I.walk ht k x x' hk (λg z=>by have:=((I.cl k x hk).2.2.2.2.2.1 g z).1;omega) W' S.f S.mv rfl rfl rfl (λu hu=>by
  by_cases e:u=v
  ·subst e;exact hd
  ·exact S.other u e (I.dq u hu)) (λj hj=>S.O8 j hj) hc hi
theorem Us85 {p:Prop} (h:p:=by
 simp only[DW.step,DW.vs,decide_eq_true_eq,hS _ hs,ep]
 exact⟨by trivial,v0 _ rfl rfl rfl rfl rfl rfl,decide_eq_true hs⟩):p:=h
def Vw.sq(m:Vw)(n:Int):Nat:=4+(n%m.pl.dq).toNat
def DW.vs(r:DW)(v:Nat)(m:Vw):DW×(Ad->Int):=
 match r.nx with
 | .room=>if wrap64 (m.pl.dq-1)<=wrap64 (r.t-m.hd v)then({r with Sn:=true,nx:=.fin},m.W)else({r with nx:=.lay},m.W)
 | .lay=>({r with nx:=.grow},Sd m.W (.q v (m.sq r.t)) r.x)
 | .grow=>({r with t:=wrap64 (r.t+1),nx:=.fin},Sd m.W (.q v 1) (wrap64 (r.t+1)))
 | .less=>({r with nx:=.looks},Sd m.W (.q v 1) (wrap64 (r.t-1)))
 | .looks=>if m.hd v<=wrap64 (r.t-1)then({r with nx:=.takes},m.W)else({r with nx:=.aX},m.W)
 | .takes=>({r with t:=wrap64 (r.t-1),x:=m.W (.q v (m.sq (wrap64 (r.t-1)))),Sl:=true,nx:=.fin},m.W)
 | .aX=>({r with nx:=.ask .again},Sd m.W (.q v 1) r.t)
 | .ask t=>({r with ta:=m.pl.bN v 2,tn:=m.nx v,nx:=.mine t},Sd m.W (.q v 2) (wrap64 (m.nx v+1)))
 | .mine t=>if m.sv v=r.tn then({r with nx:=t.nx},m.W)else(r,m.W)
 | .aW=>({r with nx:=.aI},Sd m.W (.q v 1) (wrap64 (r.t-1)))
 | .aI=>if m.hd v<=wrap64 (r.t-1)then({r with nx:=.leave true},m.W)else({r with nx:=.puts},m.W)
 | .puts=>({r with nx:=.leave false},Sd m.W (.q v 1) r.t)
 | .leave k=>({r with nx:=if k=true then .takes else .fin},Sd m.W (.q v 3) (wrap64 (r.tn+1)))
 | .first=>({r with h:=m.hd v,nx:=.claims},m.W)
 | .claims=>({r with nx:=.finds},Sd m.W (.q v 0) (wrap64 (r.h+1)))
 | .finds=>if wrap64 (r.h+1)<=m.tl v then({r with nx:=.carries},m.W)else({r with nx:=.aS},m.W)
 | .aS=>({r with nx:=.leave false},Sd m.W (.q v 0) r.h)
 | .carries=>({r with x:=m.W (.q v (m.sq r.h)),Sl:=true,nx:=.leave false},m.W)
 | .fin=>(r,m.W)
def DW.GD(r:DW)(p:Pl)(v:Nat):Prop:=
 match r.nx with
 | .lay=>0<=r.t
 | .takes=>0<=wrap64 (r.t-1)
 | .carries=>0<=r.h
 | .mine _=>r.ta=p.bN v 2
 | .leave _=>r.ta=p.bN v 2
 |_=>True
theorem Ad.q_in{p:Pl}(v j:Nat)(hv:v<p.wk.toNat)(hj:j<4):(Ad.q v j).yC p:=⟨hv,by omega⟩
theorem Ad.s_in{p:Pl}(hp:p.ok)(v:Nat)(hv:v<p.wk.toNat)(n:Int):(Ad.q v (4+(n%p.dq).toNat)).yC p:=by
 have m0:=Int.emod_nonneg n (show p.dq≠0 by unfold Pl.ok at hp;omega);have m1:=Int.emod_lt_of_pos n (show 0<p.dq by unfold Pl.ok at hp;omega)
 exact⟨hv,by omega⟩
theorem DW.A9{m:Co}(h:m.Sn)(r:DW)(v:Nat)(hp:r.p=m.pl)(hw:r.Sk=v)(hv:v<m.pl.wk.toNat)(hs:r.GD m.pl v):
  (r.step m.RY).1=(r.vs v m.vw).1/\(m.walk r).vw={m.vw with W:=(r.vs v m.vw).2}/\r.tK m.RY=true:=by
 have hb:∀j:Nat,j<4->m.RY.getD (m.pl.bN v j) 0=m.vw.W (.q v j):=λj hj=>by
  rw[Co.QY (Ad.q_in v j hv hj),vk h.1 v hv j];rfl
 have hS:∀n:Int,0<=n->m.RY.getD (m.pl.sN v n) 0=m.vw.W (.q v (m.vw.sq n)):=λn hn=>by
  show _=m.vw.W (.q v (4+(n%m.pl.dq).toNat));rw[Co.QY (Ad.s_in h.1 v hv n),Ms h.1 v hv n hn];rfl
 have st:∀j:Nat,j<4->∀(y:Int)(m':Co),m'.RY=m.RY.set (m.pl.bN v j) y->m'.pl=m.pl->m'.aJ=m.aJ->m'.Sj=m.Sj->m'.log=m.log->m'.ae=m.ae->m'.vw={m.vw with W:=Sd m.vw.W (.q v j) y}:=λj hj y m' e=>Co.zg h (Ad.q_in v j hv hj) y (by rw[e,vk h.1 v hv j]);have sS:∀n:Int,0<=n->∀(y:Int)(m':Co),m'.RY=m.RY.set (m.pl.sN v n) y->m'.pl=m.pl->m'.aJ=m.aJ->m'.Sj=m.Sj->m'.log=m.log->m'.ae=m.ae->m'.vw={m.vw with W:=Sd m.vw.W (.q v (m.vw.sq n)) y}:=λn hn y m' e=>Co.zg h (Ad.s_in h.1 v hv n) y (by rw[e,Ms h.1 v hv n hn]);have ta1:m.pl.bN v 2+1=m.pl.bN v 3:=by
  have a:=vk h.1 v hv 2;have b:=vk h.1 v hv 3
  exact(congrArg (· +1) a).trans b.symm
 have l3:m.pl.bN v 3<m.RY.length:=by
  have q:=Ad.Fe h (Ad.q_in v 3 hv U0);have b:=vk h.1 v hv 3;rw[show m.pl.bN v 3=(Ad.q v 3).ix m.pl from b];exact q
 have h0:m.RY.getD (m.pl.bN v 0) 0=m.vw.hd v:=hb 0 U0;have h1:m.RY.getD (m.pl.bN v 1) 0=m.vw.tl v:=hb 1 U0;have h2:m.RY.getD (m.pl.bN v 2) 0=m.vw.nx v:=hb 2 U0;have h3:m.RY.getD (m.pl.bN v 2+1) 0=m.vw.sv v:=by rw[ta1];exact hb 3 U0
 have v0:∀m':Co,m'.RY=m.RY->m'.pl=m.pl->m'.aJ=m.aJ->m'.Sj=m.Sj->m'.log=m.log->m'.ae=m.ae->m'.vw={m.vw with W:=m.vw.W}:=λm' a b c d e f=>Co.Lu a b c d e f;have ep:m.vw.pl=m.pl:=rfl;obtain⟨p,Sk,t,x,hh,ta,tn,nx,Sl,Sn⟩:=r;dsimp only at hp hw;subst hp hw;unfold Co.walk
 cases nx
 case room=>simp only[DW.step,DW.vs,decide_eq_true_eq,h0,ep];split<;>exact⟨by trivial,v0 _ rfl rfl rfl rfl rfl rfl,rfl⟩
 case looks=>simp only[DW.step,DW.vs,decide_eq_true_eq,h0,ep];split<;>exact⟨by trivial,v0 _ rfl rfl rfl rfl rfl rfl,rfl⟩
 case aI=>simp only[DW.step,DW.vs,decide_eq_true_eq,h0,ep];split<;>exact⟨by trivial,v0 _ rfl rfl rfl rfl rfl rfl,rfl⟩
 case finds=>simp only[DW.step,DW.vs,decide_eq_true_eq,h1,ep];split<;>exact⟨by trivial,v0 _ rfl rfl rfl rfl rfl rfl,rfl⟩
 case mine th=>
  obtain rfl:ta=m.pl.bN v 2:=hs;have l3':m.pl.bN v 2+1<m.RY.length:=by rw[ta1];exact l3
  simp only[DW.step,DW.vs,decide_eq_true_eq,beq_iff_eq,h3,ep];split<;>exact⟨by trivial,v0 _ rfl rfl rfl rfl rfl rfl,decide_eq_true l3'⟩
 case leave kk=>
  obtain rfl:ta=m.pl.bN v 2:=hs;have l3':m.pl.bN v 2+1<m.RY.length:=by rw[ta1];exact l3
  simp only[DW.step,DW.vs,decide_eq_true_eq,ep]
  exact⟨by trivial,st 3 U0 _ _ (by rw[ta1];rfl) rfl rfl rfl rfl rfl,decide_eq_true l3'⟩
 case lay=>
  have hs:0<=t:=hs;simp only[DW.step,DW.vs,decide_eq_true_eq,ep]
  exact⟨by trivial,sS t hs _ _ rfl rfl rfl rfl rfl rfl,decide_eq_true hs⟩
 case takes=>
  have hs:0<=wrap64 (t-1):=hs
  exact Us85
 case carries=>
  have hs:0<=hh:=hs
  exact Us85
 case first=>
  simp only[DW.step,DW.vs,h0,ep]
  exact⟨by trivial,v0 _ rfl rfl rfl rfl rfl rfl,rfl⟩
 case fin=>exact⟨by trivial,v0 _ rfl rfl rfl rfl rfl rfl,rfl⟩
 case ask th=>
  simp only[DW.step,DW.vs,h2,ep]
  exact⟨by trivial,st 2 U0 _ _ rfl rfl rfl rfl rfl rfl,rfl⟩
 case claims=>exact⟨by trivial,st 0 U0 _ _ rfl rfl rfl rfl rfl rfl,rfl⟩
 case aS=>exact⟨by trivial,st 0 U0 _ _ rfl rfl rfl rfl rfl rfl,rfl⟩
 all_goals exact⟨by trivial,st 1 U0 _ _ rfl rfl rfl rfl rfl rfl,rfl⟩
theorem wrap_small{n:Int}(h1: -1000000<=n)(h2:n<=1000000):wrap64 n=n:=by unfold wrap64;omega
theorem Ot{a b d:Int}(h:a<b)(h2:b-a<d):a%d≠b%d:=λe=>by
 have q:=Int.emod_eq_emod_iff_emod_sub_eq_zero.1 e.symm;rw[Int.emod_eq_of_lt U2 h2]at q
 omega
theorem QA{m:Vw}(hp:m.pl.ok){a b:Int}(h:a<b)(h2:b-a<m.pl.dq):m.sq a≠m.sq b:=λe=>by
 have d0:m.pl.dq≠0:=by unfold Pl.ok at hp;omega
 have n1:=Int.emod_nonneg a d0;have n2:=Int.emod_nonneg b d0;unfold Vw.sq at e
 exact Ot h h2 U2
theorem gX{α:Type}(f:Ad->α)(u v i j:Nat)(y:α):Sd f (.q u i) y (.q v j)=if v=u/\j=i then y else f (.q v j):=by
 unfold Sd;simp only[Ad.q.injEq]
theorem nX{α:Type}(f:Ad->α)(u v i j:Nat)(y:α):Sd f (.q u i) y (.f v j)=f (.f v j):=Sm f y U8
theorem vF(d:Nat):0<=(if d=1 then(1:Int)else 0)/\0<=(if d=2 then(1:Int)else 0)/\(if d=1 then(1:Int)else 0)+(if d=2 then(1:Int)else 0)<=1:=by
 by_cases h1:d=1
 ·subst h1;decide
 ·by_cases h2:d=2
  ·subst h2;decide
  ·rw[if_neg h1,if_neg h2];decide
theorem G7(m:Vw)(n:Int):4<=m.sq n:=by unfold Vw.sq;omega
theorem pO.mine{G:Gh}{m:Vw}{k:Nat}{W':Ad->Int}{o:Nat->aY}{T:Int}(f:∀i j,W' (.f i j)=m.W (.f i j))(q:∀u j,u≠k->W' (.q u j)=m.W (.q u j))(mv:fK k G.Sq o)(h2:W' (.q k 2)=m.nx k)(h3:W' (.q k 3)=m.sv k)
  (hs:G.dk k=2->W' (.q k (m.sq (G.H k-1)))=m.sl k (G.H k-1)) (out:∀u i n,u≠k->G.Sq i=.D u n->o i=.D u n):pO G m k k W' o (G.H k) T (G.dk k) (G.cr k) (G.tk k):=
 ⟨f,q,mv,λh=>absurd rfl h,Int.le_refl _,Int.le_of_eq h2.symm,λ_ _=>rfl,λ_ _ h=>h,λ_ _ _ _=>⟨h3,rfl,rfl,rfl,hs⟩,out⟩
theorem Inv.Cy{G:Gh}{m:Vw}{ws:Nat->Option WS}{tm:Int}(I:Inv G m ws tm)(ht:tm+1<=90000){k:Nat}{x:WS}(hk:ws k=some x)(hx:x.R8=3){r:DW}(hq:x.dq=some r)(hP:ig G m k r)(hn:r.nx=.room)(hb:¬wrap64 (m.pl.dq-1)<=wrap64 (r.t-m.hd k))
  :ig G m k {r with nx:=.lay}:=by
 obtain⟨h1,h2,h3,h4,h5,h6⟩:=hP;refine⟨h1,h2,h3,h4,h5,?_⟩;show r.t-G.lo k<=m.pl.dq-1;have D:=I.dq k (I.Dr k x hk);obtain⟨a1,a2,a3,a4,a5,a6,a7,a8,a9,a10⟩:=D;have hok:=I.ok;have Pg:=I.Pg;unfold Pl.ok at hok;unfold Gh.lo at*;rw[a1]at hb;obtain⟨b1,b2,b3⟩:=vF (G.dk k);generalize(if G.dk k=1 then(1:Int)else 0)=c1 at*;generalize(if G.dk k=2 then(1:Int)else 0)=c2 at*;clear a8 a9 a6;rw[wrap_small U2 U2,wrap_small U2 U2]at hb
 omega
theorem Inv.Gi{G:Gh}{m:Vw}{ws:Nat->Option WS}{tm:Int}(I:Inv G m ws tm){k:Nat}{x:WS}(hk:ws k=some x){r:DW}(hP:ig G m k r)(hn:r.nx=.lay):
  pO G m k k (r.vs k m).2 G.Sq (G.H k) (G.T k) (G.dk k) (G.cr k) (G.tk k)/\eP (G.at_ k G.Sq (G.H k) (G.T k) (G.dk k) (G.cr k) (G.tk k)) {m with W:=(r.vs k m).2} (tm+1) k/\ig (G.at_ k G.Sq (G.H k) (G.T k) (G.dk k) (G.cr k) (G.tk k)) {m with W:=(r.vs k m).2} k (r.vs k m).1:=by
 obtain⟨p1,p2,p3,p4,p5,p6⟩:=hP;rw[hn]at p6;have p6:r.t-G.lo k<=m.pl.dq-1:=p6;have hok:=I.ok;have V:r.vs k m=({r with nx:=.grow},Sd m.W (.q k (m.sq r.t)) r.x):=by unfold DW.vs;rw[hn]
 obtain⟨a1,a2,a3,a4,a5,a6,a7,a8,a9,a10⟩:=I.dq k (I.Dr k x hk);have g4:=G7 m r.t;have e:∀j,j<4->(Sd m.W (.q k (m.sq r.t)) r.x) (.q k j)=m.W (.q k j):=λj hj=>by rw[gX,if_neg U2]
 have e0:=e 0 U0;have e1:=e 1 U0;have e2:=e 2 U0;have e3:=e 3 U0;have es:∀n,G.lo k<=n->n<r.t->(Sd m.W (.q k (m.sq r.t)) r.x) (.q k (m.sq n))=m.W (.q k (m.sq n)):=λn l1 l2=>by
  rw[gX,if_neg];rintro⟨_,q⟩
  exact QA hok l2 U2 q
 rw[V];dsimp only;refine⟨pO.mine (λi j=>nX _ _ _ _ _ _) (λu j hu=>by rw[gX,if_neg U2]) (fK.refl _ _) e2 e3 (λz=>es _ (by unfold Gh.lo;rw[z];simp) U2) (λ_ _ _ _ h=>h),?_,?_⟩
 ·refine⟨?_,?_,?_,?_,?_,λn n1 n2=>?_,?_,λz=>?_,λz=>?_,?_⟩<;>simp only[Gh.at_,Gh.lo,Vw.hd,Vw.tl,Vw.nx,Vw.sv,Sb,e0,e1,e2,e3]at*
  ·exact a1
  ·exact a2
  ·exact a3
  ·omega
  ·exact a5
  ·obtain⟨i,q1,q2,q3⟩:=a6 n n1 n2
   refine⟨i,?_,q2,q3⟩;have l:G.H k-(if G.dk k=2 then 1 else 0)<=G.H k:=by have:=vF (G.dk k);omega
   exact(es n U2 U2).trans q1
  ·exact U130
  ·exact a8 z
  ·exact a9 z
  ·exact a10
 ·refine⟨p1,p2,?_,?_,p5,?_,?_⟩<;>simp only[Gh.at_,Gh.lo,Vw.hd,Vw.tl,Vw.nx,Vw.sv,Sb,e0,e1,e2,e3]at*
  ·exact p3
  ·exact p4
  ·exact p6
  ·exact Sb _ _ _
theorem Inv.Cx{G:Gh}{m:Vw}{ws:Nat->Option WS}{tm:Int}(I:Inv G m ws tm)(ht:tm+1<=90000){k:Nat}{x:WS}(hk:ws k=some x){r:DW}(hP:ig G m k r)(hn:r.nx=.grow)(l i:Nat)(hl:r.x=l)(ol:G.Sq l=.W k 0)(rl:Ready G m l)(oi:G.Sq i=.W k 1):
  (r.vs k m).1={r with t:=r.t+1,nx:=.fin}/\pO G m k k (r.vs k m).2 (Sd (Sd G.Sq l (.D k r.t)) i (.W k 0)) (G.H k) (r.t+1) (G.dk k) (G.cr k) (G.tk k)/\
  eP (G.at_ k (Sd (Sd G.Sq l (.D k r.t)) i (.W k 0)) (G.H k) (r.t+1) (G.dk k) (G.cr k) (G.tk k)) {m with W:=(r.vs k m).2} (tm+1) k/\(r.vs k m).2 (.q k 1)=r.t+1:=by
 obtain⟨p1,p2,p3,p4,p5,p6⟩:=hP;rw[hn]at p6;have p6:r.t-G.lo k<=m.pl.dq-1/\m.sl k r.t=r.x:=p6;have hok:=I.ok;obtain⟨a1,a2,a3,a4,a5,a6,a7,a8,a9,a10⟩:=I.dq k (I.Dr k x hk);have l0:0<=r.t:=by have:=vF (G.dk k);unfold Gh.lo at a2;omega
 have V:r.vs k m=({r with t:=r.t+1,nx:=.fin},Sd m.W (.q k 1) (r.t+1)):=by unfold DW.vs;rw[hn];dsimp only;rw[wrap_small U2 U2]
 have e0:(Sd m.W (.q k 1) (r.t+1)) (.q k 0)=m.W (.q k 0):=by rw[gX,if_neg U2]
 have e1:(Sd m.W (.q k 1) (r.t+1)) (.q k 1)=r.t+1:=Sb _ _ _;have e2:(Sd m.W (.q k 1) (r.t+1)) (.q k 2)=m.W (.q k 2):=by rw[gX,if_neg U2]
 have e3:(Sd m.W (.q k 1) (r.t+1)) (.q k 3)=m.W (.q k 3):=by rw[gX,if_neg U2]
 have es:∀n,(Sd m.W (.q k 1) (r.t+1)) (.q k (m.sq n))=m.W (.q k (m.sq n)):=λn=>by
  have:=G7 m n
  rw[gX,if_neg U2]
 have li:l≠i:=by rintro rfl;rw[ol]at oi;cases oi
 have oD:∀u j n,G.Sq j=.D u n->(Sd (Sd G.Sq l (.D k r.t)) i (.W k 0)) j=.D u n:=λu j n h=>by
  rw[Sm _ _ (by rintro rfl;rw[oi]at h;cases h),Sm _ _ (by rintro rfl;rw[ol]at h;cases h)];exact h
 rw[V];dsimp only;refine⟨rfl,pO.mine (λi j=>nX _ _ _ _ _ _) (λu j hu=>by rw[gX,if_neg U2]) (λj=>?_) e2 e3 (λz=>es _) (λu j n _ h=>oD u j n h),?_,e1⟩
 ·by_cases ji:j=i
  ·subst ji;right;rw[Sb,oi];exact⟨Or.inr (Or.inl rfl),Or.inl rfl⟩
  ·rw[Sm _ _ ji]
   by_cases jl:j=l
   ·subst jl;right;rw[Sb,ol];exact⟨Or.inl rfl,Or.inr (Or.inr ⟨_,_,rfl⟩)⟩
   ·left;exact Sm _ _ jl
 ·refine⟨?_,?_,?_,?_,?_,λn n1 n2=>?_,?_,λz=>?_,λz=>?_,?_⟩<;>simp only[Gh.at_,Gh.lo,Vw.hd,Vw.tl,Vw.nx,Vw.sv,Sb,e0,e1,e2,e3]at*
  ·exact a1
  ·exact a2
  ·omega
  ·omega
  ·omega
  ·by_cases en:n=r.t
   ·subst en
    refine⟨l,(es _).trans (p6.2.trans hl),?_,rl⟩;rw[Sm _ _ li,Sb]
   ·obtain⟨j,q1,q2,q3⟩:=a6 n n1 U2
    exact⟨j,(es n).trans q1,oD _ _ _ q2,q3⟩
  ·exact U130
  ·exact a8 z
  ·exact a9 z
  ·exact a10
theorem Us59 {p:Prop} (h:p:=by
 obtain⟨i,q1,q2,q3⟩:=a6 n n1 n2
 exact⟨i,(es n).trans q1,q2,q3⟩):p:=h
theorem mG{G:Gh}{m:Vw}{tm:Int}{k v:Nat}{r:DW}(D:eP G m tm v)(C:jH G m k v r)(h:G.cr v≠some k):G.dk v=0:=by
 by_cases z:G.dk v=0
 ·exact z
 ·obtain⟨_,c,hc,ht⟩:=D.dk z
  obtain⟨_,c2,_,c4⟩:=C;rw[c2,ht]at c4;subst c4
  exact absurd hc h
theorem iL(f:Ad->Int)(k j i:Nat)(y:Int)(h:i≠j):Sd f (.q k j) y (.q k i)=f (.q k i):=by rw[gX,if_neg U2]
theorem Gj(m:Vw)(k j:Nat)(y:Int)(h:j<4)(n:Int):Sd m.W (.q k j) y (.q k (m.sq n))=m.W (.q k (m.sq n)):=by
 have:=G7 m n
 rw[gX,if_neg U2]
theorem eY{G:Gh}{m:Vw}{tm:Int}(k v:Nat)(D:eP G m tm v):pO G m k v m.W G.Sq (G.H v) (G.T v) (G.dk v) (G.cr v) (G.tk v)/\eP (G.at_ v G.Sq (G.H v) (G.T v) (G.dk v) (G.cr v) (G.tk v)) {m with W:=m.W} (tm+1) v:=by
 obtain⟨a1,a2,a3,a4,a5,a6,a7,a8,a9,a10⟩:=D;refine⟨⟨λ_ _=>rfl,λ_ _ _=>rfl,fK.refl _ _,λ_=>⟨rfl,rfl,rfl⟩,Int.le_refl _,Int.le_refl _,λ_ _=>rfl,λ_ _ h=>h,λ_ _ _ _=>⟨rfl,rfl,rfl,rfl,λ_=>rfl⟩,λ_ _ _ _ h=>h⟩,?_⟩;refine⟨?_,?_,?_,?_,?_,λn n1 n2=>?_,?_,λz=>?_,λz=>?_,?_⟩<;>simp only[Gh.at_,Gh.lo,Sb]at*
 ·exact a1
 ·exact a2
 ·exact a3
 ·omega
 ·exact a5
 ·exact a6 n n1 n2
 ·exact U130
 ·exact a8 z
 ·exact a9 z
 ·exact a10
theorem oU{G:Gh}{m:Vw}{tm:Int}(k:Nat)(D:eP G m tm k)(y:Int)(h1:y<=G.T k)(h2:G.T k-1<=y):pO G m k k (Sd m.W (.q k 1) y) G.Sq (G.H k) (G.T k) (G.dk k) (G.cr k) (G.tk k)/\eP (G.at_ k G.Sq (G.H k) (G.T k) (G.dk k) (G.cr k) (G.tk k)) {m with W:=Sd m.W (.q k 1) y} (tm+1) k:=by
 obtain⟨a1,a2,a3,a4,a5,a6,a7,a8,a9,a10⟩:=D;have e0:=iL m.W k 1 0 y U0;have e1:Sd m.W (.q k 1) y (.q k 1)=y:=Sb _ _ _;have e2:=iL m.W k 1 2 y U0;have e3:=iL m.W k 1 3 y U0;have es:=Gj m k 1 y U0;refine⟨pO.mine (λi j=>nX _ _ _ _ _ _) (λu j hu=>by rw[gX,if_neg U2]) (fK.refl _ _) e2 e3 (λz=>es _) (λ_ _ _ _ h=>h),?_⟩;refine⟨?_,?_,?_,?_,?_,λn n1 n2=>?_,?_,λz=>?_,λz=>?_,?_⟩<;>simp only[Gh.at_,Gh.lo,Vw.hd,Vw.tl,Vw.nx,Vw.sv,Sb,e0,e1,e2,e3]at*
 ·exact a1
 ·exact a2
 ·exact a3
 ·omega
 ·exact⟨h1,h2⟩
 ·exact Us59
 ·exact U130
 ·exact a8 z
 ·exact a9 z
 ·exact a10
theorem zU{G:Gh}{m:Vw}{tm:Int}(k:Nat)(D:eP G m tm k)(h1:m.hd k<=G.T k-1)(h2:m.tl k=G.T k-1):∃i:Nat,m.sl k (G.T k-1)=i/\Ready G m i/\G.Sq i=.D k (G.T k-1)/\
  pO G m k k m.W (Sd G.Sq i (.W k 0)) (G.H k) (G.T k-1) (G.dk k) (G.cr k) (G.tk k)/\eP (G.at_ k (Sd G.Sq i (.W k 0)) (G.H k) (G.T k-1) (G.dk k) (G.cr k) (G.tk k)) {m with W:=m.W} (tm+1) k:=by
 obtain⟨a1,a2,a3,a4,a5,a6,a7,a8,a9,a10⟩:=D;have c12:=vF (G.dk k);obtain⟨i,q1,q2,q3⟩:=a6 (G.T k-1) U2 U2;refine⟨i,q1,q3,q2,pO.mine (λ_ _=>rfl) (λ_ _ _=>rfl) (λj=>?_) rfl rfl (λ_=>rfl) (λu j n hu h=>?_),?_⟩
 ·by_cases e:j=i
  ·exact U148
  ·left;exact Sm _ _ e
 ·rw[Sm _ _ U104];exact h
 ·refine⟨?_,?_,?_,?_,?_,λn n1 n2=>?_,?_,λz=>?_,λz=>?_,?_⟩<;>simp only[Gh.at_,Gh.lo,Sb]at*
  ·exact a1
  ·exact a2
  ·omega
  ·omega
  ·exact⟨by omega,by omega⟩
  ·obtain⟨j,r1,r2,r3⟩:=a6 n n1 U2
   refine⟨j,r1,?_,r3⟩;rw[Sm _ _ U116];exact r2
  ·exact U130
  ·exact a8 z
  ·exact a9 z
  ·exact a10
theorem Us89 {p:Prop} (h:p:=by
 clear a6 a8 a9
 rcases hd with⟨h,_,h'⟩|⟨h,_,h'⟩<;>omega):p:=h
theorem Ei{G:Gh}{m:Vw}{tm:Int}(k v:Nat)(D:eP G m tm v):pO G m k v (Sd m.W (.q v 2) (m.nx v+1)) G.Sq (G.H v) (G.T v) (G.dk v) (G.cr v) (Sd (G.tk v) (m.nx v) k)/\eP (G.at_ v G.Sq (G.H v) (G.T v) (G.dk v) (G.cr v) (Sd (G.tk v) (m.nx v) k)) {m with W:=Sd m.W (.q v 2) (m.nx v+1)} (tm+1) v:=by
 obtain⟨a1,a2,a3,a4,a5,a6,a7,a8,a9,a10⟩:=D;have e0:=iL m.W v 2 0 (m.nx v+1) U0;have e1:=iL m.W v 2 1 (m.nx v+1) U0;have e2:Sd m.W (.q v 2) (m.nx v+1) (.q v 2)=m.nx v+1:=Sb _ _ _;have e3:=iL m.W v 2 3 (m.nx v+1) U0;have es:=Gj m v 2 (m.nx v+1) U0;refine⟨⟨λi j=>nX _ _ _ _ _ _,λu j hu=>by rw[gX,if_neg U2],fK.refl _ _,λ_=>⟨e1,rfl,es _⟩,Int.le_refl _,by rw[e2];omega,λn hn=>Sm _ _ U2,λ_ _ h=>h,λ_ _ _ _=>⟨e3,rfl,rfl,rfl,λ_=>es _⟩,λ_ _ _ _ h=>h⟩,?_⟩;refine⟨?_,?_,?_,?_,?_,λn n1 n2=>?_,?_,λz=>?_,λz=>?_,?_⟩<;>simp only[Gh.at_,Gh.lo,Vw.hd,Vw.tl,Vw.nx,Vw.sv,Sb,e0,e1,e2,e3]at*
 ·exact a1
 ·exact a2
 ·exact a3
 ·omega
 ·exact a5
 ·exact Us59
 ·exact⟨a7.1,by omega,by omega⟩
 ·obtain⟨b1,c,b2,b3⟩:=a8 z
  exact⟨by omega,c,b2,by rw[Sm _ _ U2];exact b3⟩
 ·exact a9 z
 ·exact a10
theorem qo{G:Gh}{m:Vw}{tm:Int}(k v:Nat)(D:eP G m tm v)(h0:G.dk v=0)(h1:m.sv v<m.nx v)(h2:G.tk v (m.sv v)=k):pO G m k v (Sd m.W (.q v 3) (m.sv v+1)) G.Sq (G.H v) (G.T v) (G.dk v) (G.cr v) (G.tk v)/\eP (G.at_ v G.Sq (G.H v) (G.T v) (G.dk v) (G.cr v) (G.tk v)) {m with W:=Sd m.W (.q v 3) (m.sv v+1)} (tm+1) v:=by
 obtain⟨a1,a2,a3,a4,a5,a6,a7,a8,a9,a10⟩:=D;have e0:=iL m.W v 3 0 (m.sv v+1) U0;have e1:=iL m.W v 3 1 (m.sv v+1) U0;have e2:=iL m.W v 3 2 (m.sv v+1) U0;have e3:Sd m.W (.q v 3) (m.sv v+1) (.q v 3)=m.sv v+1:=Sb _ _ _;have es:=Gj m v 3 (m.sv v+1) U0;refine⟨⟨λi j=>nX _ _ _ _ _ _,λu j hu=>by rw[gX,if_neg U2],fK.refl _ _,λ_=>⟨e1,rfl,es _⟩,Int.le_refl _,by rw[e2];exact Int.le_refl _,λn hn=>rfl,λ_ _ h=>h,λj hj _ z=>absurd (h2.symm.trans z).symm hj,λ_ _ _ _ h=>h⟩,?_⟩;refine⟨?_,?_,?_,?_,?_,λn n1 n2=>?_,?_,λz=>?_,λz=>?_,?_⟩<;>simp only[Gh.at_,Gh.lo,Vw.hd,Vw.tl,Vw.nx,Vw.sv,Sb,e0,e1,e2,e3]at*
 ·exact a1
 ·exact a2
 ·exact a3
 ·omega
 ·exact a5
 ·exact Us59
 ·exact⟨by omega,by omega,by omega⟩
 ·exact absurd h0 z
 ·exact a9 z
 ·exact a10
theorem zT{G:Gh}{m:Vw}{tm:Int}(k v:Nat)(D:eP G m tm v)(d:Nat)(c:Option Nat)(hd:(d=1/\c=some k/\G.dk v=0)∨(d=0/\c=none/\G.dk v<=1))(h1:m.sv v<m.nx v)(h2:G.tk v (m.sv v)=k):pO G m k v (Sd m.W (.q v 0) (G.H v+(if d=1 then 1 else 0))) G.Sq (G.H v) (G.T v) d c (G.tk v)/\eP (G.at_ v G.Sq (G.H v) (G.T v) d c (G.tk v)) {m with W:=Sd m.W (.q v 0) (G.H v+(if d=1 then 1 else 0))} (tm+1) v:=by
 obtain⟨a1,a2,a3,a4,a5,a6,a7,a8,a9,a10⟩:=D;have d2:d≠2:=by
  exact Us89
 have g2:G.dk v≠2:=by
  exact Us89
 unfold Gh.lo at a2;rw[if_neg g2]at a2;generalize hy:G.H v+(if d=1 then 1 else 0)=y;have e0:Sd m.W (.q v 0) y (.q v 0)=y:=Sb _ _ _;have e1:=iL m.W v 0 1 y U0;have e2:=iL m.W v 0 2 y U0;have e3:=iL m.W v 0 3 y U0;have es:=Gj m v 0 y U0;refine⟨⟨λi j=>nX _ _ _ _ _ _,λu j hu=>by rw[gX,if_neg U2],fK.refl _ _,λ_=>⟨e1,rfl,es _⟩,by unfold Gh.lo;rw[if_neg d2,if_neg g2];exact Int.le_refl _,by rw[e2];exact Int.le_refl _,λn hn=>rfl,λj hj z=>?_,λj hj _ z=>absurd (h2.symm.trans z).symm hj,λ_ _ _ _ h=>h⟩,?_⟩
 ·rcases hd with⟨_,b,_⟩|⟨_,b,_⟩
  ·rw[b];intro q;cases q;exact hj rfl
  ·rw[b];exact λq=>by cases q
 refine⟨?_,?_,?_,?_,?_,λn n1 n2=>?_,?_,λz=>?_,λz=>?_,?_⟩<;>simp only[Gh.at_,Gh.lo,Vw.hd,Vw.tl,Vw.nx,Vw.sv,Sb,e0,e1,e2,e3,if_neg d2]at*
 ·exact hy.symm
 ·exact a2
 ·exact a3
 ·omega
 ·exact a5
 ·exact Us59
 ·exact U130
 ·rcases hd with⟨b1,b2,_⟩|⟨b1,b2,_⟩
  ·exact⟨h1,k,b2,h2⟩
  ·exact absurd b1 z
 ·rcases hd with⟨b1,b2,_⟩|⟨b1,b2,_⟩
  ·clear a6 a8 a9;omega
  ·exact b2
 ·exact Us89
theorem JN{G:Gh}{m:Vw}{tm:Int}(k v:Nat)(D:eP G m tm v)(hd:G.dk v=1)(hc:G.cr v=some k)(h1:m.sv v<m.nx v)(h2:G.tk v (m.sv v)=k)(ht:G.H v+1<=m.tl v):∃i:Nat,m.sl v (G.H v)=i/\Ready G m i/\G.Sq i=.D v (G.H v)/\
  pO G m k v m.W (Sd G.Sq i (.W k 0)) (G.H v+1) (G.T v) 2 (some k) (G.tk v)/\eP (G.at_ v (Sd G.Sq i (.W k 0)) (G.H v+1) (G.T v) 2 (some k) (G.tk v)) {m with W:=m.W} (tm+1) v:=by
 obtain⟨a1,a2,a3,a4,a5,a6,a7,a8,a9,a10⟩:=D;obtain⟨i,q1,q2,q3⟩:=a6 (G.H v) (Int.le_refl _) U2;unfold Gh.lo at a2;rw[if_neg U2]at a2;rw[if_pos hd]at a1;refine⟨i,q1,q3,q2,⟨λ_ _=>rfl,λ_ _ _=>rfl,λj=>?_,λ_=>⟨rfl,rfl,rfl⟩,by unfold Gh.lo;rw[if_neg U2,if_pos rfl];omega,Int.le_refl _,λn hn=>rfl,λj hj z=>?_,λj hj _ z=>absurd (h2.symm.trans z).symm hj,λu j n hu h=>?_⟩,?_⟩
 ·by_cases e:j=i
  ·exact U148
  ·left;exact Sm _ _ e
 ·intro q;cases q;exact hj rfl
 ·rw[Sm _ _ U104];exact h
 ·refine⟨?_,?_,?_,?_,?_,λn n1 n2=>?_,?_,λz=>?_,λz=>?_,?_⟩<;>try simp only[Gh.at_,Gh.lo,Sb]at*
  ·rw[a1];simp
  ·simp;omega
  ·omega
  ·omega
  ·exact a5
  ·obtain⟨j,r1,r2,r3⟩:=a6 n U2 n2
   refine⟨j,r1,?_,r3⟩;rw[Sm _ _ U116];exact r2
  ·exact U130
  ·exact⟨h1,k,rfl,h2⟩
  ·omega
  ·omega
theorem Ej{G:Gh}{m:Vw}{tm:Int}(k v:Nat)(D:eP G m tm v)(hd:G.dk v=2)(hc:G.cr v=some k)(h1:m.sv v<m.nx v)(h2:G.tk v (m.sv v)=k):
  pO G m k v m.W G.Sq (G.H v) (G.T v) 0 none (G.tk v)/\eP (G.at_ v G.Sq (G.H v) (G.T v) 0 none (G.tk v)) {m with W:=m.W} (tm+1) v:=by
 obtain⟨a1,a2,a3,a4,a5,a6,a7,a8,a9,a10⟩:=D;unfold Gh.lo at a2;rw[if_pos hd]at a2;rw[if_neg U2]at a1;refine⟨⟨λ_ _=>rfl,λ_ _ _=>rfl,fK.refl _ _,λ_=>⟨rfl,rfl,rfl⟩,by unfold Gh.lo;rw[if_pos hd,if_neg U0];omega,Int.le_refl _,λn hn=>rfl,λj hj z q=>(by cases q),λj hj _ z=>absurd (h2.symm.trans z).symm hj,λu j n hu h=>h⟩,?_⟩;refine⟨?_,?_,?_,?_,?_,λn n1 n2=>?_,?_,λz=>?_,λz=>?_,?_⟩<;>try simp only[Gh.at_,Gh.lo,Sb]at*
 ·rw[a1];simp
 ·simp;omega
 ·exact a3
 ·omega
 ·exact a5
 ·exact a6 n n1 n2
 ·exact U130
 ·exact absurd rfl z
 ·omega
def bR(G:Gh)(m:Vw)(k v:Nat)(W':Ad->Int)(tm:Int)(G':Gh):Prop:=
 ∃o H T d c t,G'=G.at_ v o H T d c t/\pO G m k v W' o H T d c t/\eP (G.at_ v o H T d c t) {m with W:=W'} tm v
theorem bR.mk{G:Gh}{m:Vw}{k v:Nat}{W':Ad->Int}{tm:Int}{o:Nat->aY}{H T:Int}{d:Nat}{c:Option Nat}{t:Int->Nat}(h:pO G m k v W' o H T d c t/\eP (G.at_ v o H T d c t) {m with W:=W'} tm v):bR G m k v W' tm (G.at_ v o H T d c t):=
 ⟨o,H,T,d,c,t,rfl,h.1,h.2⟩
theorem bR.inv{G G':Gh}{m:Vw}{ws:Nat->Option WS}{tm:Int}(I:Inv G m ws tm)(ht:tm+1<=90000){k v:Nat}{x x':WS}(hk:ws k=some x)(h6:x.R8=0∨x.R8=1∨x.R8=2∨x.R8=3)
  {W':Ad->Int} (S:bR G m k v W' (tm+1) G') (hc:Cl G' {m with W:=W'} k x') (hi:Idle G' {m with W:=W'} (tm+1) k x'):Inv G' {m with W:=W'} (Sd ws k (some x')) (tm+1):=by
 obtain⟨o,H,T,d,c,t,rfl,S1,S2⟩:=S
 exact I.RQ ht hk h6 S1 S2 hc hi
theorem bR.aU{G G':Gh}{m:Vw}{k v:Nat}{W':Ad->Int}{tm:Int}(S:bR G m k v W' tm G'):G'.aU=G.aU:=by
 obtain⟨o,H,T,d,c,t,rfl,S1,S2⟩:=S
 rfl
theorem bR.w3{G G':Gh}{m:Vw}{k v:Nat}{W':Ad->Int}{tm:Int}(S:bR G m k v W' tm G'){i j:Nat}(h:G'.Sq i=.W j 3):G.Sq i=.W j 3:=by
 obtain⟨o,H,T,d,c,t,rfl,S1,S2⟩:=S
 rcases S1.mv i with e|⟨a,b⟩
 ·exact e.symm.trans h
 ·have q:=b.new;have h:o i=.W j 3:=h;rw[h]at q;cases q
theorem bR.mine{G G':Gh}{m:Vw}{k v:Nat}{W':Ad->Int}{tm:Int}(S:bR G m k v W' tm G')(h:k≠v):W' (.q k 1)=m.tl k/\G'.T k=G.T k:=by
 obtain⟨o,H,T,d,c,t,rfl,S1,S2⟩:=S
 exact⟨S1.q k 1 h,Sm _ _ h⟩
theorem eP.nums{G:Gh}{m:Vw}{tm:Int}{v:Nat}(D:eP G m tm v):0<=G.H v/\G.H v<=G.T v/\G.T v<=tm:=by
 have a:=D.lo;have b:=vF (G.dk v);unfold Gh.lo at a
 exact⟨by omega,D.le,D.top⟩
theorem Inv.OT{G:Gh}{m:Vw}{ws:Nat->Option WS}{tm:Int}(I:Inv G m ws tm)(ht:tm+1<=90000){k:Nat}{x:WS}(hk:ws k=some x)(hx:x.R8≠1){r:DW}(hP:xI G m k r):
  r.GD m.pl k/\∃G',bR G m k k (r.vs k m).2 (tm+1) G'/\(∀u,G'.cr u≠some k)/\(r.vs k m).1.p=m.pl/\(r.vs k m).1.Sk=k/\
   (((r.vs k m).1.nx.ends=false/\xI G' {m with W:=(r.vs k m).2} k (r.vs k m).1)∨
    ((r.vs k m).1.nx.ends=true/\(r.vs k m).2 (.q k 1)=(r.vs k m).1.t/\G'.T k=(r.vs k m).1.t/\((r.vs k m).1.Sl=true->∃i:Nat,(r.vs k m).1.x=i/\G'.Sq i=.W k 0/\Ready G' {m with W:=(r.vs k m).2} i))):=by
 have D:=I.dq k (I.Dr k x hk);obtain⟨n0,n1,n2⟩:=D.nums;have cr0:∀u,G.cr u≠some k:=λu z=>hx ((I.cl k x hk).2.2.2.2.1 u z).1;obtain⟨p,Sk,t,y,h,ta,tn,nx,Sl,Sn⟩:=r;obtain⟨p1,p2,p3,p4⟩:=hP;dsimp only at p1 p2 p3;subst p1 p2 p3;have same:∀u,(G.at_ k G.Sq (G.H k) (G.T k) (G.dk k) (G.cr k) (G.tk k)).cr u≠some k:=λu=>by
  show Sd G.cr k (G.cr k) u≠_;unfold Sd;split
  ·exact cr0 k
  ·exact cr0 u
 have e2:∀y,Sd m.W (.q k 1) y (.q k 2)=m.W (.q k 2):=λy=>iL m.W k 1 2 y U0;have e3:∀y,Sd m.W (.q k 1) y (.q k 3)=m.W (.q k 3):=λy=>iL m.W k 1 3 y U0
 cases nx
 case less=>
  obtain⟨a,b⟩:=p4;dsimp only at a b;have w:wrap64 (t-1)=t-1:=wrap_small U2 U2;refine⟨trivial,_,.mk (oU k D _ U114 U114),same,rfl,rfl,Or.inl ⟨rfl,rfl,rfl,rfl,?_,?_⟩⟩
  ·exact(Sb _ _ _).trans w
  ·exact(Sb _ _ _).trans b
 case looks=>
  obtain⟨a,b⟩:=p4;dsimp only at a b;have w:wrap64 (t-1)=t-1:=wrap_small U2 U2
  by_cases c:m.hd k<=wrap64 (t-1)
  ·have V:(DW.vs ⟨m.pl,k,t,y,h,ta,tn,.looks,false,Sn⟩ k m)=(⟨m.pl,k,t,y,h,ta,tn,.takes,false,Sn⟩,m.W):=by unfold DW.vs;dsimp only;rw[if_pos c]
   rw[V];obtain⟨i,q1,q2,q3,q4⟩:=zU k D (by rw[w]at c;omega) U2;refine⟨trivial,_,.mk q4,same,rfl,rfl,Or.inl ⟨rfl,rfl,rfl,rfl,?_,?_,i,?_,?_,q2⟩⟩
   ·show m.tl k=Sd G.T k (G.T k-1) k
    rw[Sb];omega
   ·show t=Sd G.T k (G.T k-1) k+1
    rw[Sb];omega
   ·show m.sl k (Sd G.T k (G.T k-1) k)=i
    rw[Sb];exact q1
   ·exact Sb _ _ _
  ·have V:(DW.vs ⟨m.pl,k,t,y,h,ta,tn,.looks,false,Sn⟩ k m)=(⟨m.pl,k,t,y,h,ta,tn,.aX,false,Sn⟩,m.W):=by unfold DW.vs;dsimp only;rw[if_neg c]
   rw[V];refine⟨trivial,_,.mk (eY k k D),same,rfl,rfl,Or.inl ⟨rfl,rfl,rfl,rfl,a,(Sb _ _ _).trans b⟩⟩
 case takes=>
  obtain⟨a,b,i,q1,q2,q3⟩:=p4;dsimp only at a b q1;have w:wrap64 (t-1)=G.T k:=by rw[wrap_small U2 U2];omega
  refine⟨?_,_,.mk (eY k k D),same,rfl,rfl,Or.inr ⟨rfl,?_,?_,λ_=>⟨i,?_,q2,q3⟩⟩⟩
  ·show 0<=wrap64 (t-1)
   rw[w];omega
  ·exact a.trans w.symm
  ·exact(Sb _ _ _).trans w.symm
  ·show m.W (.q k (m.sq (wrap64 (t-1))))=i
   rw[w];exact q1
 case aX=>
  obtain⟨a,b⟩:=p4;dsimp only at a b;refine⟨trivial,_,.mk (oU k D t U2 U2),same,rfl,rfl,Or.inl ⟨rfl,rfl,rfl,rfl,Sb _ _ _,(Sb _ _ _).trans b⟩⟩
 case ask th=>
  cases th
  case first=>exact p4.elim
  case again=>
   obtain⟨a,b⟩:=p4;dsimp only at a b;have w:wrap64 (m.nx k+1)=m.nx k+1:=wrap_small U45 U45;have V:(DW.vs ⟨m.pl,k,t,y,h,ta,tn,.ask .again,false,Sn⟩ k m)=(⟨m.pl,k,t,y,h,m.pl.bN k 2,m.nx k,.mine .again,false,Sn⟩,Sd m.W (.q k 2) (m.nx k+1)):=by unfold DW.vs;dsimp only;rw[w]
   rw[V];refine⟨trivial,_,.mk (Ei k k D),same,rfl,rfl,Or.inl ⟨rfl,rfl,rfl,rfl,?_,(Sb _ _ _).trans b,rfl,?_,?_,same k⟩⟩
   ·exact(iL m.W k 2 1 _ U0).trans a
   ·show m.nx k<Sd m.W (.q k 2) (m.nx k+1) (.q k 2)
    rw[Sb];omega
   ·show Sd G.tk k (Sd (G.tk k) (m.nx k) k) k (m.nx k)=k
    rw[Sb,Sb]
 case mine th=>
  cases th
  case first=>exact p4.elim
  case again=>
   obtain⟨a,b,c1,c2,c3,c4⟩:=p4;dsimp only at a b c1 c2 c3
   by_cases c:m.sv k=tn
   ·have V:(DW.vs ⟨m.pl,k,t,y,h,ta,tn,.mine .again,false,Sn⟩ k m)=(⟨m.pl,k,t,y,h,ta,tn,.aW,false,Sn⟩,m.W):=by unfold DW.vs;dsimp only;rw[if_pos c];rfl
    rw[V];refine⟨c1,_,.mk (eY k k D),same,rfl,rfl,Or.inl ⟨rfl,rfl,rfl,rfl,a,(Sb _ _ _).trans b,⟨c1,c.symm,by rw[c];exact c2,?_⟩,same k⟩⟩;show Sd G.tk k (G.tk k) k tn=k;rw[Sb];exact c3
   ·have V:(DW.vs ⟨m.pl,k,t,y,h,ta,tn,.mine .again,false,Sn⟩ k m)=(⟨m.pl,k,t,y,h,ta,tn,.mine .again,false,Sn⟩,m.W):=by unfold DW.vs;dsimp only;rw[if_neg c]
    rw[V];refine⟨c1,_,.mk (eY k k D),same,rfl,rfl,Or.inl ⟨rfl,rfl,rfl,rfl,a,(Sb _ _ _).trans b,c1,c2,?_,same k⟩⟩;show Sd G.tk k (G.tk k) k tn=k;rw[Sb];exact c3
 case aW=>
  obtain⟨a,b,⟨c1,c2,c3,c4⟩,c5⟩:=p4;dsimp only at a b c1 c2 c4;have w:wrap64 (t-1)=t-1:=wrap_small U2 U2;refine⟨trivial,_,.mk (oU k D _ U114 U114),same,rfl,rfl,Or.inl ⟨rfl,rfl,rfl,rfl,(Sb _ _ _).trans w,(Sb _ _ _).trans b,⟨c1,c2.trans (e3 _).symm,?_,?_⟩,same k⟩⟩
  ·show Sd m.W (.q k 1) _ (.q k 3)<Sd m.W (.q k 1) _ (.q k 2)
   rw[e2,e3];exact c3
  ·show Sd G.tk k (G.tk k) k tn=k
   rw[Sb];exact c4
 case aI=>
  obtain⟨a,b,⟨c1,c2,c3,c4⟩,c5⟩:=p4;dsimp only at a b c1 c2 c4;have w:wrap64 (t-1)=t-1:=wrap_small U2 U2;have ct:Sd G.tk k (G.tk k) k tn=k:=by rw[Sb];exact c4
  by_cases c:m.hd k<=wrap64 (t-1)
  ·have V:(DW.vs ⟨m.pl,k,t,y,h,ta,tn,.aI,false,Sn⟩ k m)=(⟨m.pl,k,t,y,h,ta,tn,.leave true,false,Sn⟩,m.W):=by unfold DW.vs;dsimp only;rw[if_pos c]
   rw[V];obtain⟨i,q1,q2,q3,q4⟩:=zU k D (by rw[w]at c;omega) U2;refine⟨trivial,_,.mk q4,same,rfl,rfl,Or.inl ⟨rfl,rfl,rfl,rfl,?_,?_,⟨i,?_,?_,q2⟩,⟨c1,c2,c3,ct⟩,same k⟩⟩
   ·show m.tl k=Sd G.T k (G.T k-1) k
    rw[Sb];omega
   ·show t=Sd G.T k (G.T k-1) k+1
    rw[Sb];omega
   ·show m.sl k (Sd G.T k (G.T k-1) k)=i
    rw[Sb];exact q1
   ·exact Sb _ _ _
  ·have V:(DW.vs ⟨m.pl,k,t,y,h,ta,tn,.aI,false,Sn⟩ k m)=(⟨m.pl,k,t,y,h,ta,tn,.puts,false,Sn⟩,m.W):=by unfold DW.vs;dsimp only;rw[if_neg c]
   rw[V];refine⟨trivial,_,.mk (eY k k D),same,rfl,rfl,Or.inl ⟨rfl,rfl,rfl,rfl,a,(Sb _ _ _).trans b,⟨c1,c2,c3,ct⟩,same k⟩⟩
 case puts=>
  obtain⟨a,b,⟨c1,c2,c3,c4⟩,c5⟩:=p4;dsimp only at a b c1 c2 c4;refine⟨trivial,_,.mk (oU k D t U2 U2),same,rfl,rfl,Or.inl ⟨rfl,rfl,rfl,rfl,Sb _ _ _,(Sb _ _ _).trans b,⟨c1,c2.trans (e3 _).symm,?_,?_⟩,same k⟩⟩
  ·show Sd m.W (.q k 1) _ (.q k 3)<Sd m.W (.q k 1) _ (.q k 2)
   rw[e2,e3];exact c3
  ·show Sd G.tk k (G.tk k) k tn=k
   rw[Sb];exact c4
 case leave b=>
  cases b
  ·obtain⟨a,b,C,c5⟩:=p4
   dsimp only at a b;have dk:=mG D C c5;obtain⟨c1,c2,c3,c4⟩:=C;dsimp only at c1 c2 c4;have w:wrap64 (tn+1)=m.sv k+1:=by rw[c2];exact wrap_small U45 U45
   have V:(DW.vs ⟨m.pl,k,t,y,h,ta,tn,.leave false,false,Sn⟩ k m)=(⟨m.pl,k,t,y,h,ta,tn,.fin,false,Sn⟩,Sd m.W (.q k 3) (m.sv k+1)):=by unfold DW.vs;dsimp only;rw[w];rfl
   rw[V];refine⟨c1,_,.mk (qo k k D dk c3 U88),same,rfl,rfl,Or.inr ⟨rfl,(iL m.W k 3 1 _ U0).trans a,(Sb _ _ _).trans b,λz=>by cases z⟩⟩
  ·obtain⟨a,b,⟨i,q1,q2,q3⟩,C,c5⟩:=p4
   dsimp only at a b;have dk:=mG D C c5;obtain⟨c1,c2,c3,c4⟩:=C;dsimp only at c1 c2 c4;have w:wrap64 (tn+1)=m.sv k+1:=by rw[c2];exact wrap_small U45 U45
   have V:(DW.vs ⟨m.pl,k,t,y,h,ta,tn,.leave true,false,Sn⟩ k m)=(⟨m.pl,k,t,y,h,ta,tn,.takes,false,Sn⟩,Sd m.W (.q k 3) (m.sv k+1)):=by unfold DW.vs;dsimp only;rw[w];rfl
   rw[V];have eT:(G.at_ k G.Sq (G.H k) (G.T k) (G.dk k) (G.cr k) (G.tk k)).T k=G.T k:=Sb _ _ _;refine⟨c1,_,.mk (qo k k D dk c3 U88),same,rfl,rfl,Or.inl ⟨rfl,rfl,rfl,rfl,?_,?_,i,?_,q2,q3⟩⟩
   ·rw[eT];exact(iL m.W k 3 1 _ U0).trans a
   ·rw[eT];exact b
   ·rw[eT];exact(Gj m k 3 _ U0 _).trans q1
 all_goals exact p4.elim
theorem Us93 {p:Prop} (h:p:=by
 show Sd m.W (.q v 0) _ (.q v 3)<Sd m.W (.q v 0) _ (.q v 2);rw[iL _ _ _ _ _ U0,iL _ _ _ _ _ U0];exact c3):p:=h
def Nx.sI(n:Nx):Prop:=n=.finds∨n=.aS∨n=.carries
theorem Inv.wO{G:Gh}{m:Vw}{ws:Nat->Option WS}{tm:Int}(I:Inv G m ws tm)(ht:tm+1<=90000){k v:Nat}{r:DW}(hP:lD G m k v r)(hcr:∀u,G.cr u=some k->u=v/\r.nx.sI):
  r.GD m.pl v/\∃G',bR G m k v (r.vs v m).2 (tm+1) G'/\(∀u,G'.cr u=some k->u=v/\(r.vs v m).1.nx.sI)/\(r.vs v m).1.p=m.pl/\(r.vs v m).1.Sk=v/\(r.vs v m).2 (.q k 1)=m.tl k/\G'.T k=G.T k/\
   (((r.vs v m).1.nx.ends=false/\lD G' {m with W:=(r.vs v m).2} k v (r.vs v m).1)∨
    ((r.vs v m).1.nx.ends=true/\((r.vs v m).1.Sl=true->∃i:Nat,(r.vs v m).1.x=i/\G'.Sq i=.W k 0/\Ready G' {m with W:=(r.vs v m).2} i))):=by
 obtain⟨p,Sk,t,y,h,ta,tn,nx,Sl,Sn⟩:=r;obtain⟨p1,p2,p3,p4⟩:=hP;dsimp only at p1 p2 hcr;subst p1 p2;have D:=I.dq v p3;obtain⟨n0,n1,n2⟩:=D.nums;have eT:∀o H d c t,(G.at_ v o H (G.T v) d c t).T k=G.T k:=λo H d c t=>by
  show Sd G.T v (G.T v) k=_;unfold Sd;split
  ·rename_i e;rw[e]
  ·rfl
 have ecr:∀o H T d c t u,(G.at_ v o H T d c t).cr u=some k->(u=v/\c=some k)∨(u≠v/\G.cr u=some k):=λo H T d c t u z=>by
  have z:Sd G.cr v c u=some k:=z
  by_cases e:u=v
  ·rw[e,Sb]at z;exact Or.inl ⟨e,z⟩
  ·rw[Sm _ _ e]at z;exact Or.inr ⟨e,z⟩
 have hno:∀n:Nx,¬nx.sI->∀o H T d t u,(G.at_ v o H T d (G.cr v) t).cr u=some k->u=v/\n.sI:=λn hn o H T d t u z=>by
  rcases ecr _ _ _ _ _ _ _ z with⟨a,b⟩|⟨a,b⟩
  ·exact absurd (hcr v b).2 hn
  ·exact U143
 have et:∀y j,j≠1->Sd m.W (.q v j) y (.q k 1)=m.tl k:=λy j hj=>by rw[gX,if_neg U2]
 have kc:¬nx.sI->G.cr v≠some k:=λhn z=>hn (hcr v z).2;have atk:∀o H T d c,(G.at_ v o H T d c (G.tk v)).tk v tn=G.tk v tn:=λo H T d c=>by
  show Sd G.tk v (G.tk v) v tn=_;rw[Sb]
 have acr:∀o H T d c t,(G.at_ v o H T d c t).cr v=c:=λo H T d c t=>Sb _ _ _;have adk:∀o H T d c t,(G.at_ v o H T d c t).dk v=d:=λo H T d c t=>Sb _ _ _;have aH:∀o H T d c t,(G.at_ v o H T d c t).H v=H:=λo H T d c t=>Sb _ _ _
 cases nx
 case ask th=>
  cases th
  case again=>exact p4.elim
  case first=>
   have p4:Sl=false:=p4;subst p4;have w:wrap64 (m.nx v+1)=m.nx v+1:=wrap_small U45 U45;have V:(DW.vs ⟨m.pl,v,t,y,h,ta,tn,.ask .first,false,Sn⟩ v m)=(⟨m.pl,v,t,y,h,m.pl.bN v 2,m.nx v,.mine .first,false,Sn⟩,Sd m.W (.q v 2) (m.nx v+1)):=by unfold DW.vs;dsimp only;rw[w]
   rw[V];refine⟨trivial,_,.mk (Ei k v D),hno _ U75 _ _ _ _ _,rfl,rfl,et _ _ U0,eT _ _ _ _ _,Or.inl ⟨rfl,rfl,rfl,p3,rfl,rfl,?_,?_,?_⟩⟩
   ·show m.nx v<Sd m.W (.q v 2) (m.nx v+1) (.q v 2)
    rw[Sb];omega
   ·show Sd G.tk v (Sd (G.tk v) (m.nx v) k) v (m.nx v)=k
    rw[Sb,Sb]
   ·rw[acr];exact kc U75
 case mine th=>
  cases th
  case again=>exact p4.elim
  case first=>
   obtain⟨g,c1,c2,c3,c4⟩:=p4;dsimp only at g c1 c2 c3;subst g
   by_cases c:m.sv v=tn
   ·have V:(DW.vs ⟨m.pl,v,t,y,h,ta,tn,.mine .first,false,Sn⟩ v m)=(⟨m.pl,v,t,y,h,ta,tn,.first,false,Sn⟩,m.W):=by unfold DW.vs;dsimp only;rw[if_pos c];rfl
    rw[V];refine⟨c1,_,.mk (eY k v D),hno _ U75 _ _ _ _ _,rfl,rfl,rfl,eT _ _ _ _ _,Or.inl ⟨rfl,rfl,rfl,p3,rfl,⟨c1,c.symm,by rw[c];exact c2,(atk _ _ _ _ _).trans c3⟩,?_⟩⟩;rw[acr];exact c4
   ·have V:(DW.vs ⟨m.pl,v,t,y,h,ta,tn,.mine .first,false,Sn⟩ v m)=(⟨m.pl,v,t,y,h,ta,tn,.mine .first,false,Sn⟩,m.W):=by unfold DW.vs;dsimp only;rw[if_neg c]
    rw[V];refine⟨c1,_,.mk (eY k v D),hno _ U75 _ _ _ _ _,rfl,rfl,rfl,eT _ _ _ _ _,Or.inl ⟨rfl,rfl,rfl,p3,rfl,c1,c2,(atk _ _ _ _ _).trans c3,?_⟩⟩;rw[acr];exact c4
 case first=>
  obtain⟨g,C,c5⟩:=p4;have dk:=mG D C c5;obtain⟨c1,c2,c3,c4⟩:=C;dsimp only at g c1 c2 c4;subst g;have hh:m.hd v=G.H v:=by have:=D.hd;rw[if_neg U2]at this;omega
  refine⟨trivial,_,.mk (eY k v D),hno _ U75 _ _ _ _ _,rfl,rfl,rfl,eT _ _ _ _ _,Or.inl ⟨rfl,rfl,rfl,p3,rfl,⟨c1,c2,c3,(atk _ _ _ _ _).trans c4⟩,?_,?_⟩⟩
  ·rw[acr];exact c5
  ·rw[aH];exact hh
 case claims=>
  obtain⟨g,C,c5,c6⟩:=p4;have dk:=mG D C c5;obtain⟨c1,c2,c3,c4⟩:=C;dsimp only at g c1 c2 c4 c6;subst g;have w:wrap64 (h+1)=G.H v+(if 1=1 then 1 else 0):=by rw[if_pos rfl,c6];exact wrap_small U2 U2
  have V:(DW.vs ⟨m.pl,v,t,y,h,ta,tn,.claims,false,Sn⟩ v m)=(⟨m.pl,v,t,y,h,ta,tn,.finds,false,Sn⟩,Sd m.W (.q v 0) (G.H v+(if 1=1 then 1 else 0))):=by unfold DW.vs;dsimp only;rw[w]
  rw[V];refine⟨trivial,_,.mk (zT k v D 1 (some k) (Or.inl ⟨rfl,rfl,dk⟩) c3 U88),λu z=>?_,rfl,rfl,et _ _ U0,eT _ _ _ _ _,Or.inl ⟨rfl,rfl,rfl,p3,rfl,⟨c1,c2.trans (iL m.W v 0 3 _ U0).symm,?_,(atk _ _ _ _ _).trans c4⟩,acr _ _ _ _ _ _,adk _ _ _ _ _ _,?_⟩⟩
  ·rcases ecr _ _ _ _ _ _ _ z with⟨a,b⟩|⟨a,b⟩
   ·exact⟨a,Or.inl rfl⟩
   ·exact U143
  ·exact Us93
  ·rw[aH];exact c6
 case finds=>
  obtain⟨g,C,c5,c6,c7⟩:=p4;obtain⟨c1,c2,c3,c4⟩:=C;dsimp only at g c1 c2 c4 c7;subst g;have c4':G.tk v (m.sv v)=k:=by rw[<-c2];exact c4
  have w:wrap64 (h+1)=G.H v+1:=by rw[c7];exact wrap_small U2 U2
  by_cases c:wrap64 (h+1)<=m.tl v
  ·have V:(DW.vs ⟨m.pl,v,t,y,h,ta,tn,.finds,false,Sn⟩ v m)=(⟨m.pl,v,t,y,h,ta,tn,.carries,false,Sn⟩,m.W):=by unfold DW.vs;dsimp only;rw[if_pos c]
   rw[V];obtain⟨i,q1,q2,q3,q4⟩:=JN k v D c6 c5 c3 c4' (by rw[<-w];exact c);refine⟨trivial,_,.mk q4,λu z=>?_,rfl,rfl,rfl,eT _ _ _ _ _,Or.inl ⟨rfl,rfl,rfl,p3,rfl,⟨c1,c2,c3,(atk _ _ _ _ _).trans c4⟩,acr _ _ _ _ _ _,adk _ _ _ _ _ _,?_,i,?_,Sb _ _ _,q2⟩⟩
   ·rcases ecr _ _ _ _ _ _ _ z with⟨a,b⟩|⟨a,b⟩
    ·exact⟨a,Or.inr (Or.inr rfl)⟩
    ·exact U143
   ·rw[aH];show h=_;omega
   ·show m.sl v h=i
    rw[c7];exact q1
  ·have V:(DW.vs ⟨m.pl,v,t,y,h,ta,tn,.finds,false,Sn⟩ v m)=(⟨m.pl,v,t,y,h,ta,tn,.aS,false,Sn⟩,m.W):=by unfold DW.vs;dsimp only;rw[if_neg c]
   rw[V];refine⟨trivial,_,.mk (eY k v D),λu z=>?_,rfl,rfl,rfl,eT _ _ _ _ _,Or.inl ⟨rfl,rfl,rfl,p3,rfl,⟨c1,c2,c3,(atk _ _ _ _ _).trans c4⟩,?_,?_,?_⟩⟩
   ·rcases ecr _ _ _ _ _ _ _ z with⟨a,b⟩|⟨a,b⟩
    ·exact⟨a,Or.inr (Or.inl rfl)⟩
    ·exact U143
   ·rw[acr];exact c5
   ·rw[adk];exact c6
   ·rw[aH];exact c7
 case aS=>
  obtain⟨g,C,c5,c6,c7⟩:=p4;obtain⟨c1,c2,c3,c4⟩:=C;dsimp only at g c1 c2 c4 c7;subst g;have c4':G.tk v (m.sv v)=k:=by rw[<-c2];exact c4
  have w:h=G.H v+(if 0=1 then 1 else 0):=by rw[if_neg U0,c7];simp
  have V:(DW.vs ⟨m.pl,v,t,y,h,ta,tn,.aS,false,Sn⟩ v m)=(⟨m.pl,v,t,y,h,ta,tn,.leave false,false,Sn⟩,Sd m.W (.q v 0) (G.H v+(if 0=1 then 1 else 0))):=by unfold DW.vs;dsimp only;rw[<-w]
  rw[V];refine⟨trivial,_,.mk (zT k v D 0 none (Or.inr ⟨rfl,rfl,by omega⟩) c3 c4'),λu z=>?_,rfl,rfl,et _ _ U0,eT _ _ _ _ _,Or.inl ⟨rfl,rfl,rfl,p3,⟨c1,c2.trans (iL m.W v 0 3 _ U0).symm,?_,(atk _ _ _ _ _).trans c4⟩,?_,λz=>by cases z⟩⟩
  ·rcases ecr _ _ _ _ _ _ _ z with⟨a,b⟩|⟨a,b⟩
   ·cases b
   ·exact U143
  ·exact Us93
  ·rw[acr];exact λz=>by cases z
 case carries=>
  obtain⟨g,C,c5,c6,c7,i,q1,q2,q3⟩:=p4;obtain⟨c1,c2,c3,c4⟩:=C;dsimp only at g c1 c2 c4 c7 q1;subst g;have c4':G.tk v (m.sv v)=k:=by rw[<-c2];exact c4
  have l0:=D.lo;unfold Gh.lo at l0;rw[if_pos c6]at l0;refine⟨by show 0<=h;omega,_,.mk (Ej k v D c6 c5 c3 c4'),λu z=>?_,rfl,rfl,rfl,eT _ _ _ _ _,Or.inl ⟨rfl,rfl,rfl,p3,⟨c1,c2,c3,(atk _ _ _ _ _).trans c4⟩,?_,λ_=>⟨i,q1,q2,q3⟩⟩⟩
  ·rcases ecr _ _ _ _ _ _ _ z with⟨a,b⟩|⟨a,b⟩
   ·cases b
   ·exact U143
  ·rw[acr];exact λz=>by cases z
 case leave b=>
  cases b
  case true=>exact p4.elim
  case false=>
   obtain⟨C,c5,c6⟩:=p4;have dk:=mG D C c5;obtain⟨c1,c2,c3,c4⟩:=C;dsimp only at c1 c2 c4 c6;have w:wrap64 (tn+1)=m.sv v+1:=by rw[c2];exact wrap_small U45 U45
   have V:(DW.vs ⟨m.pl,v,t,y,h,ta,tn,.leave false,Sl,Sn⟩ v m)=(⟨m.pl,v,t,y,h,ta,tn,.fin,Sl,Sn⟩,Sd m.W (.q v 3) (m.sv v+1)):=by unfold DW.vs;dsimp only;rw[w];rfl
   rw[V]
   exact⟨c1,_,.mk (qo k v D dk c3 U88),hno _ U75 _ _ _ _ _,rfl,rfl,et _ _ U0,eT _ _ _ _ _,Or.inr ⟨rfl,c6⟩⟩
 all_goals exact p4.elim
end Go.Proofs.YteiignfflbmafaaGreat.Tp
