/- TopOne, part 16. -/
import Derived.Test.YteiignfflbmafaaGreatQ15
set_option linter.unusedVariables false
set_option linter.unusedSimpArgs false
set_option maxRecDepth 100000
set_option maxHeartbeats 8000000
namespace Go.Proofs.YteiignfflbmafaaGreat.Tp
open Go.Proofs.Tryz
open Go.RowKit Go.Proofs.YteiignfflbmafaaGreat.Tok
theorem Us106 {p:Prop} (h:p:=by
 rcases List.mem_append.1 hx with h|h
 ·exact F.seen x h
 ·simp at h;subst h;exact hes):p:=h
theorem nM(l:List Ev){e:Ev}(h1:e.kind≠1)(h4:e.kind≠4)(s:Int):eQ (l++[e]) s=eQ l s:=by
 rw[iX];unfold j6;rw[if_neg h1,if_neg h4]
 split<;>rfl
theorem kM(l:List Ev){e:Ev}(h4:e.kind≠4)(s it:Int):Fin (l++[e]) s it↔Fin l s it:=
 ⟨λh=>(Fin.Az h).elim id (λz=>absurd z.1 h4),λh=>h.snoc e⟩
theorem Ez(l:List Ev)(e:Ev)(s it:Int)(h4:e.kind=4):Fin (l++[e]) s it↔Fin l s it∨(e.loop=s/\e.iter=it):=
 ⟨λh=>(Fin.Az h).imp id (λz=>z.2),λh=>h.elim (λz=>z.snoc e) (λ⟨a,b⟩=>by subst a;subst b;exact Fin.new e h4)⟩
theorem Ch(l:List Ev){e:Ev}(h:e.kind=1)(n:Nat)(b:Bool)(hl:eQ l e.loop=(n,b))(s:Int):eQ (l++[e]) s=if s=e.loop then(n+1,true)else eQ l s:=by
 rw[iX];unfold j6
 by_cases q:s=e.loop
 ·subst q;rw[if_pos rfl,if_pos h,hl,if_pos rfl]
 ·rw[if_neg (λz=>q z.symm),if_neg q]
theorem Ko(l:List Ev){e:Ev}(h:e.kind=4)(n:Nat)(b:Bool)(hl:eQ l e.loop=(n,b))(s:Int):eQ (l++[e]) s=if s=e.loop then(n,false)else eQ l s:=by
 rw[iX];unfold j6
 by_cases q:s=e.loop
 ·subst q;rw[if_pos rfl,if_neg U2,if_pos h,hl,if_pos rfl]
 ·rw[if_neg (λz=>q z.symm),if_neg q]
theorem fF{α:Type}(f:Ad->α)(i j a b:Nat)(y:α):Sd f (.f i j) y (.f a b)=if a=i/\b=j then y else f (.f a b):=by
 unfold Sd;simp only[Ad.f.injEq]
theorem bP.tell{G:Gh}{m:Vw}{tm:Int}(F:bP G m tm)(e:Ev)(he:e.kind≠1/\e.kind≠4/\True)(hev:Dw m.log e)(hes:e.loop<=m.ae)(heb:0<=e.loop):
  bP G {m with log:=m.log++[e]} (tm+1):=by
 have lq:∀s,eQ (m.log++[e]) s=eQ m.log s:=λs=>nM _ he.1 he.2.1 s;have fq:∀s it,Fin (m.log++[e]) s it↔Fin m.log s it:=λs it=>kM _ he.2.1 s it;have ls:cZ (m.log++[e]):=.snoc F.lg hev heb;have ss:∀x∈m.log++[e],x.loop<=m.ae:=λx hx=>by
  exact Us106
 have sw:((m.log++[e]).length:Int)<=tm+1:=by have:=F.few;simp;omega
 generalize m.log++[e]=lg at*
 exact⟨J8 F.hld,J9 F.bd,J9 F.kind,J9 F.due,J9 F.bF,J50 F.kC,J9 F.iter,J22 F.ix,J22 F.jD,J22 F.iO,J22 F.jq,J22 F.st0,J9 F.loop,J9 F.au,J9 F.jG,J9 F.dO,J9 F.dU,J9 F.dV,J9 F.c1,J9 F.c2,J51 F.dn,J9 F.jn,J8 F.jz,J9 F.dG,J8 F.one,J8 F.ko,J8 F.stt,J8 F.dJ,J8 F.dK,J8 F.dP,J8 F.dC,ls,J13 F.sr,ss,sw⟩
theorem bP.lW{G:Gh}{m:Vw}{tm:Int}(F:bP G m tm)(i:Nat)(b:Bool)(h:b=true->m.kd i=2):
  bP G {m with fr:=Sd m.fr i {m.fr i with due:=b}} (tm+1):=by
 have e_kind:∀f,((Sd m.fr i {m.fr i with due:=b}) f).kind=(m.fr f).kind:=λf=>by unfold Sd;by_cases e:f=i<;>simp_all
 have e_parent:∀f,((Sd m.fr i {m.fr i with due:=b}) f).Sg=(m.fr f).Sg:=λf=>by unfold Sd;by_cases e:f=i<;>simp_all
 have e_dirty:∀f,((Sd m.fr i {m.fr i with due:=b}) f).az=(m.fr f).az:=λf=>by unfold Sd;by_cases e:f=i<;>simp_all
 have e_due:∀f,((Sd m.fr i {m.fr i with due:=b}) f).due=if f=i then b else(m.fr f).due:=λf=>by unfold Sd;by_cases e:f=i<;>simp_all
 have e_index:∀f,((Sd m.fr i {m.fr i with due:=b}) f).index=(m.fr f).index:=λf=>by unfold Sd;by_cases e:f=i<;>simp_all
 have e_stage:∀f,((Sd m.fr i {m.fr i with due:=b}) f).Sc=(m.fr f).Sc:=λf=>by unfold Sd;by_cases e:f=i<;>simp_all
 have e_started:∀f,((Sd m.fr i {m.fr i with due:=b}) f).R9=(m.fr f).R9:=λf=>by unfold Sd;by_cases e:f=i<;>simp_all
 have e_serial:∀f,((Sd m.fr i {m.fr i with due:=b}) f).ae=(m.fr f).ae:=λf=>by unfold Sd;by_cases e:f=i<;>simp_all
 generalize(Sd m.fr i {m.fr i with due:=b})=fr at*
 exact⟨J10 F.hld,J11 F.bd,J11 F.kind,J11 F.due,J11 F.bF,J52 F.kC,J11 F.iter,J21 F.ix,J21 F.jD,J21 F.iO,J21 F.jq,J21 F.st0,J11 F.loop,J11 F.au,J11 F.jG,J11 F.dO,J11 F.dU,J11 F.dV,J11 F.c1,J11 F.c2,J10 F.dn,J11 F.jn,J10 F.jz,J11 F.dG,J10 F.one,J10 F.ko,J10 F.stt,J10 F.dJ,J10 F.dK,J10 F.dP,J10 F.dC,F.lg,J13 F.sr,F.seen,J14 F.few⟩
theorem bP.M9{G:Gh}{m:Vw}{tm:Int}(F:bP G m tm)(k i:Nat)(h1:G.Sq i=.W k 0)(h2:m.kd i=2)(h3:G.ph i=1)(h4:(m.fr i).Sc≠0)(g:Int)(g1:1<=g)(g2:g<=1048575):
  bP G {m with W:=Sd m.W (.f (m.pa i) (2+4*((m.fr i).index%2))) g,fr:=Sd m.fr i {m.fr i with Sc:=g}} (tm+1):=by
 have iF:G.Sq i≠ .F:=by rw[h1];exact λz=>by cases z
 obtain⟨p1,p2⟩:=F.iter i iF h2;obtain⟨a1,a2,a3,a4⟩:=F.iO i iF h2 h3;have nf:=Fin.Ap F.lg a4;have pi:m.pa i≠i:=λz=>by rw[z]at p2;omega
 have e_kind:∀f,((Sd m.fr i {m.fr i with Sc:=g}) f).kind=(m.fr f).kind:=λf=>by unfold Sd;by_cases e:f=i<;>simp_all
 have e_parent:∀f,((Sd m.fr i {m.fr i with Sc:=g}) f).Sg=(m.fr f).Sg:=λf=>by unfold Sd;by_cases e:f=i<;>simp_all
 have e_dirty:∀f,((Sd m.fr i {m.fr i with Sc:=g}) f).az=(m.fr f).az:=λf=>by unfold Sd;by_cases e:f=i<;>simp_all
 have e_due:∀f,((Sd m.fr i {m.fr i with Sc:=g}) f).due=(m.fr f).due:=λf=>by unfold Sd;by_cases e:f=i<;>simp_all
 have e_index:∀f,((Sd m.fr i {m.fr i with Sc:=g}) f).index=(m.fr f).index:=λf=>by unfold Sd;by_cases e:f=i<;>simp_all
 have e_stage:∀f,((Sd m.fr i {m.fr i with Sc:=g}) f).Sc=if f=i then g else(m.fr f).Sc:=λf=>by unfold Sd;by_cases e:f=i<;>simp_all
 have e_started:∀f,((Sd m.fr i {m.fr i with Sc:=g}) f).R9=(m.fr f).R9:=λf=>by unfold Sd;by_cases e:f=i<;>simp_all
 have e_serial:∀f,((Sd m.fr i {m.fr i with Sc:=g}) f).ae=(m.fr f).ae:=λf=>by unfold Sd;by_cases e:f=i<;>simp_all
 generalize(Sd m.fr i {m.fr i with Sc:=g})=fr at*
 exact⟨J10 F.hld,J11 F.bd,J11 F.kind,J11 F.due,J11 F.bF,J52 F.kC,J11 F.iter,J21 F.ix,J21 F.jD,J21 F.iO,J21 F.jq,J21 F.st0,J11 F.loop,J11 F.au,J11 F.jG,J11 F.dO,J11 F.dU,J11 F.dV,J11 F.c1,J11 F.c2,J10 F.dn,J11 F.jn,J10 F.jz,J11 F.dG,J10 F.one,J10 F.ko,J10 F.stt,J10 F.dJ,J10 F.dK,J10 F.dP,J10 F.dC,F.lg,J13 F.sr,F.seen,J14 F.few⟩
theorem bP.M8{G:Gh}{m:Vw}{tm:Int}(F:bP G m tm)(k i:Nat)(h1:G.Sq i=.W k 0)(h2:m.kd i=2)(h3:G.ph i=1)(h4:(m.fr i).Sc=0)(hn:∀g,G.Sq g≠ .W k 3)(g:Int)(g1:1<=g)(g2:g<=1048575):
  bP {G with Sq:=Sd (Sd G.Sq (m.pa i) (.W k 0)) i (.W k 1)} {m with W:=Sd m.W (.f (m.pa i) (2+4*((m.fr i).index%2))) g,fr:=Sd m.fr i {m.fr i with Sc:=g}} (tm+1):=by
 have hn2:∀g,(G.Sq g).new≠k+1:=λg z=>hn g (aY.fA z);have iF:G.Sq i≠ .F:=by rw[h1];exact λz=>by cases z
 obtain⟨p1,p2⟩:=F.iter i iF h2;obtain⟨a1,a2,a3,a4⟩:=F.iO i iF h2 h3;have nf:=Fin.Ap F.lg a4;have pi:m.pa i≠i:=λz=>by rw[z]at p2;omega
 have oI:=F.st0 i iF h2 U2 h4;have hF:∀f,(Sd (Sd G.Sq (m.pa i) (.W k 0)) i (.W k 1)) f=.F↔G.Sq f=.F:=λf=>by unfold Sd;by_cases e:f=i<;>by_cases e2:f=m.pa i<;>simp_all
 have e_kind:∀f,((Sd m.fr i {m.fr i with Sc:=g}) f).kind=(m.fr f).kind:=λf=>by unfold Sd;by_cases e:f=i<;>simp_all
 have e_parent:∀f,((Sd m.fr i {m.fr i with Sc:=g}) f).Sg=(m.fr f).Sg:=λf=>by unfold Sd;by_cases e:f=i<;>simp_all
 have e_dirty:∀f,((Sd m.fr i {m.fr i with Sc:=g}) f).az=(m.fr f).az:=λf=>by unfold Sd;by_cases e:f=i<;>simp_all
 have e_due:∀f,((Sd m.fr i {m.fr i with Sc:=g}) f).due=(m.fr f).due:=λf=>by unfold Sd;by_cases e:f=i<;>simp_all
 have e_index:∀f,((Sd m.fr i {m.fr i with Sc:=g}) f).index=(m.fr f).index:=λf=>by unfold Sd;by_cases e:f=i<;>simp_all
 have e_stage:∀f,((Sd m.fr i {m.fr i with Sc:=g}) f).Sc=if f=i then g else(m.fr f).Sc:=λf=>by unfold Sd;by_cases e:f=i<;>simp_all
 have e_started:∀f,((Sd m.fr i {m.fr i with Sc:=g}) f).R9=(m.fr f).R9:=λf=>by unfold Sd;by_cases e:f=i<;>simp_all
 have e_serial:∀f,((Sd m.fr i {m.fr i with Sc:=g}) f).ae=(m.fr f).ae:=λf=>by unfold Sd;by_cases e:f=i<;>simp_all
 generalize(Sd m.fr i {m.fr i with Sc:=g})=fr at*
 exact⟨J10 F.hld,J16 F.bd,J16 F.kind,J16 F.due,J16 F.bF,J62 F.kC,J16 F.iter,J23 F.ix,J23 F.jD,J23 F.iO,J23 F.jq,J23 F.st0,J16 F.loop,J16 F.au,J16 F.jG,J16 F.dO,J16 F.dU,J16 F.dV,J16 F.c1,J16 F.c2,J10 F.dn,J16 F.jn,J10 F.jz,J16 F.dG,J10 F.one,J10 F.ko,J10 F.stt,J10 F.dJ,J10 F.dK,J10 F.dP,J10 F.dC,F.lg,J13 F.sr,F.seen,J14 F.few⟩
theorem Us84 {p:Prop} (h:p:=by
 have:=F.dJ
 try simp only[Vw.kd,Vw.pa,Vw.jn,Vw.cn,Vw.dn,Vw.np,Vw.stt,fF,lq,fq]at*
 grind[Sd,aY.new,aY.hand,aY.acts]):p:=h
theorem Us23 {p:Prop} (h:p:=by
 have:=F.dJ
 try simp only[Vw.kd,Vw.pa,Vw.jn,Vw.cn,Vw.dn,Vw.np,Vw.stt,fF]at*
 grind[Sd,aY.new,aY.hand,aY.acts]):p:=h
theorem qW{s s' it it':Int}(h1:0<=it)(h2:it<=1000000)(h3:0<=it')(h4:it'<=1000000)(g1:0<=s)(g2:s<=1000000)(g3:0<=s')(g4:s'<=1000000)(h:aA s it 0=aA s' it' 0):s=s'/\it=it':=by
 unfold aA th at h
 omega
theorem bP.joins{G:Gh}{m:Vw}{tm:Int}(F:bP G m tm)(k l c:Nat)(h1:G.Sq l=.W k 0)(h2:G.Sq c=.W k 3)(l3:m.kd l=3)(c2:m.kd c=2)(pc:m.pa c=l)(c0:G.ph c=0)(hn:∀g,G.Sq g=.W k 3->g=c)(s1 s2:Int):
  bP {G with Sq:=Sd (Sd G.Sq c (.W k 0)) l (.I c),aU:=Sd G.aU c l,ph:=Sd G.ph c 1} {m with W:=Sd m.W (.f l 0) (m.jn l+1),log:=((m.log++[(Ev.mk 1 (m.fr l).ae (m.fr c).index s1)])++[(Ev.mk 2 (m.fr l).ae (m.fr c).index s2)])} (tm+2):=by
 have lF:G.Sq l≠ .F:=by rw[h1];exact λz=>by cases z
 have cF:G.Sq c≠ .F:=by rw[h2];exact λz=>by cases z
 have cl:c≠l:=by rintro rfl;omega
 have oc:=F.dC c k h2;obtain⟨b1,b2,b3⟩:=F.bd c cF;obtain⟨z1,z2,z3,z4,z5,z6⟩:=F.jD c cF c2 c0;rw[pc]at z4 z5 z6;have so:∀f,G.Sq f≠ .F->m.kd f=3->f≠l->(m.fr f).ae≠(m.fr l).ae:=λf a b c z=>c (F.one f l a lF b l3 z);have sr:=F.au l lF l3;have few:=F.few;have L1:eQ m.log (m.fr l).ae=((m.fr c).index,false):=z6;have lq1:∀s,eQ (m.log++[(Ev.mk 1 (m.fr l).ae (m.fr c).index s1)]) s=if s=(m.fr l).ae then((m.fr c).index+1,true)else eQ m.log s:=λs=>Ch m.log (e:=(Ev.mk 1 (m.fr l).ae (m.fr c).index s1)) rfl _ false L1 s;have lq:∀s,eQ ((m.log++[(Ev.mk 1 (m.fr l).ae (m.fr c).index s1)])++[(Ev.mk 2 (m.fr l).ae (m.fr c).index s2)]) s=if s=(m.fr l).ae then((m.fr c).index+1,true)else eQ m.log s:=λs=>(nM _ U8 U8 s).trans (lq1 s);have fq:∀s it,Fin ((m.log++[(Ev.mk 1 (m.fr l).ae (m.fr c).index s1)])++[(Ev.mk 2 (m.fr l).ae (m.fr c).index s2)]) s it↔Fin m.log s it:=λs it=>(kM _ U8 s it).trans (kM _ U8 s it);have ls:cZ ((m.log++[(Ev.mk 1 (m.fr l).ae (m.fr c).index s1)])++[(Ev.mk 2 (m.fr l).ae (m.fr c).index s2)]):=.snoc (.snoc F.lg (Or.inl ⟨rfl,by simpa using L1,by simp⟩) (Int.le_trans U0 sr.1)) (Or.inr (Or.inr (Or.inl ⟨Or.inl rfl,by simpa using lq1 (m.fr l).ae,by simp⟩))) (Int.le_trans U0 sr.1);have ss:∀x∈((m.log++[(Ev.mk 1 (m.fr l).ae (m.fr c).index s1)])++[(Ev.mk 2 (m.fr l).ae (m.fr c).index s2)]),x.loop<=m.ae:=λx hx=>by
  rcases List.mem_append.1 hx with h|h
  ·rcases List.mem_append.1 h with h|h
   ·exact F.seen x h
   ·simp at h;subst h;exact sr.2
  ·simp at h;subst h;exact sr.2
 have sw:(((m.log++[(Ev.mk 1 (m.fr l).ae (m.fr c).index s1)])++[(Ev.mk 2 (m.fr l).ae (m.fr c).index s2)]).length:Int)<=tm+2:=by simp;omega
 have q:=λf=>eU G.aU c l f U2;have p2l:∀f,G.Sq f≠ .F->m.kd f=2->m.pa f=l->f≠c->G.ph f=2:=λf a b d e=>by
  have w:=(F.ix f a b).2.2.2.2;have q0:=F.jD f a b;have q1:=F.iO f a b;rw[d]at q0 q1;rw[L1]at q1
  have:G.ph f≠0:=λz=>by
   obtain⟨a1,a2,_⟩:=q0 z;rw[h1]at a2
   exact e (hn f (aY.fA a2.symm))
  exact Us105
 have hF:∀f,(Sd (Sd G.Sq c (.W k 0)) l (.I c)) f=.F↔G.Sq f=.F:=λf=>by unfold Sd;by_cases e:f=c<;>by_cases e2:f=l<;>simp_all
 have hx:∀f,(G.Sq f).hand=k+1->G.Sq f=.W k 0:=λf=>aY.Kb;have tn:∀f,G.Sq f≠ .F->m.kd f=1->m.pa f≠0->m.pa f≠l:=λf a b d e=>by have:=(F.bF f a b d).2;rw[e]at this;exact this l3
 have tn2:∀f,G.Sq f≠ .F->m.kd f=3->m.pa f≠l:=λf a b e=>by have:=(F.loop f a b).2.1;rw[e]at this;exact this l3
 have tn3:∀f,G.Sq f≠ .F->m.kd f=1->m.pa f≠0->m.pa f≠c∨(G.Sq f).new=0:=λf a b d=>by
  by_cases e:m.pa f=c
  ·right
   by_cases z:G.aU f=m.pa f
   ·have:=F.dC f
    unfold aY.new
    split
    ·split
     ·rename_i j r hr h
      subst h
      have:=this j hr
      have t:=(F.bF f a b d).1
      omega
     ·rfl
    ·rfl
   ·have:=(F.kC f a b d z)
    rw[e,h2]at this
    exact absurd this.2.symm this.1
  ·exact Or.inl e
 generalize((m.log++[(Ev.mk 1 (m.fr l).ae (m.fr c).index s1)])++[(Ev.mk 2 (m.fr l).ae (m.fr c).index s2)])=lg at*;refine⟨J8 F.hld,J19 F.bd,J19 F.kind,J19 F.due,J53 F.bF,J63 F.kC,J53 F.iter,J32 F.ix,J64 F.jD,J32 F.iO,J32 F.jq,J32 F.st0,J65 F.loop,J19 F.au,J19 F.jG,J19 F.dO,J19 F.dU,J19 F.dV,J19 F.c1,J19 F.c2,J66 F.dn,J19 F.jn,J8 F.jz,J19 F.dG,J8 F.one,J8 F.ko,J8 F.stt,?dJ,J8 F.dK,J8 F.dP,J8 F.dC,ls,J13 F.sr,ss,sw⟩
 ·exact Us84
theorem bP.fin{G:Gh}{m:Vw}{tm:Int}(F:bP G m tm)(k i:Nat)(h1:G.Sq i=.W k 0)(h2:m.kd i=2)(h3:G.ph i=1)(hd:(m.fr i).az=false)(s1:Int):
  bP {G with ph:=Sd G.ph i 2} {m with W:=Sd m.W (.f (m.pa i) (2+4*((m.fr i).index%2))) 1048576,log:=(m.log++[(Ev.mk 4 (m.fr (m.pa i)).ae (m.fr i).index s1)])} (tm+1):=by
 have iF:G.Sq i≠ .F:=by rw[h1];exact λz=>by cases z
 obtain⟨lF,l3⟩:=F.iter i iF h2;obtain⟨a1,a2,a3,a4⟩:=F.iO i iF h2 h3;obtain⟨l,hl⟩:∃l,l=m.pa i:=⟨_,rfl⟩;rw[<-hl]at a1 a2 a3 a4 lF l3⊢;have so:∀f,G.Sq f≠ .F->m.kd f=3->f≠l->(m.fr f).ae≠(m.fr l).ae:=λf a b c z=>c (F.one f l a lF b l3 z);have sr:=F.au l lF l3;have few:=F.few;have lq:∀s,eQ (m.log++[(Ev.mk 4 (m.fr (m.pa i)).ae (m.fr i).index s1)]) s=if s=(m.fr l).ae then((m.fr i).index+1,false)else eQ m.log s:=λs=>by rw[<-hl];exact Ko m.log (e:=Ev.mk 4 (m.fr l).ae (m.fr i).index s1) rfl _ true a4 s
 have fq:∀s it,Fin (m.log++[(Ev.mk 4 (m.fr (m.pa i)).ae (m.fr i).index s1)]) s it↔(Fin m.log s it∨((m.fr l).ae=s/\((m.fr i).index:Int)=it)):=λs it=>by rw[<-hl];exact Ez m.log _ s it rfl
 have ls:cZ (m.log++[(Ev.mk 4 (m.fr (m.pa i)).ae (m.fr i).index s1)]):=.snoc F.lg (Or.inr (Or.inl ⟨rfl,by simpa[<-hl]using a4,by simp⟩)) (by rw[<-hl];exact Int.le_trans U0 sr.1);have ss:∀x∈(m.log++[(Ev.mk 4 (m.fr (m.pa i)).ae (m.fr i).index s1)]),x.loop<=m.ae:=λx hx=>by
  rcases List.mem_append.1 hx with h|h
  ·exact F.seen x h
  ·simp at h;subst h;rw[<-hl];exact sr.2
 have sw:((m.log++[(Ev.mk 4 (m.fr (m.pa i)).ae (m.fr i).index s1)]).length:Int)<=tm+1:=by simp;omega
 rw[<-hl]at lq fq ls ss sw;have hl2:=hl.symm;have i2:∀f,G.Sq f≠ .F->m.kd f=2->m.pa f=l->f≠i->G.ph f=2:=λf a b d e=>by
  have w:=(F.ix f a b).2.2.2.2;have q0:=F.jD f a b;have q1:=F.iO f a b;rw[d]at q0 q1;rw[a3]at q0 q1
  have:G.ph f≠0:=λz=>e (q0 z).2.2.2.2.1.symm
  have:G.ph f≠1:=λz=>e (q1 z).2.2.1.symm
  omega
 generalize(m.log++[Ev.mk 4 (m.fr l).ae (m.fr i).index s1])=lg at*;refine⟨J8 F.hld,J9 F.bd,J9 F.kind,J9 F.due,J9 F.bF,J50 F.kC,J9 F.iter,J24 F.ix,J24 F.jD,J24 F.iO,J24 F.jq,J24 F.st0,J9 F.loop,J9 F.au,J9 F.jG,J9 F.dO,J9 F.dU,J9 F.dV,J9 F.c1,J9 F.c2,J67 F.dn,J9 F.jn,J8 F.jz,J9 F.dG,J8 F.one,J8 F.ko,J8 F.stt,?dJ,J8 F.dK,J8 F.dP,J8 F.dC,ls,J13 F.sr,ss,sw⟩
 ·exact Us84
theorem bP.Nq{G:Gh}{m:Vw}{tm:Int}(F:bP G m tm)(i:Nat)(iF:G.Sq i≠ .F)(h2:m.kd i=2)(h3:G.ph i=2)(hb:(m.fr i).index<=100000):
  bP G {m with W:=Sd m.W (.f (m.pa i) (5+4*((m.fr i).index%2))) (aA (m.fr (m.pa i)).ae (m.fr i).index 0)} (tm+1):=by
 obtain⟨lF,l3⟩:=F.iter i iF h2;obtain⟨a1,a2⟩:=F.jq i iF h2 h3;have sr:=F.au _ lF l3;generalize m.pa i=l at*;refine⟨J2 F.hld,J4 F.bd,J4 F.kind,J4 F.due,J4 F.bF,J46 F.kC,J4 F.iter,J17 F.ix,J17 F.jD,J17 F.iO,J17 F.jq,J17 F.st0,J4 F.loop,J4 F.au,J4 F.jG,J4 F.dO,J4 F.dU,J4 F.dV,J4 F.c1,J4 F.c2,J68 F.dn,J4 F.jn,J2 F.jz,J4 F.dG,J2 F.one,J2 F.ko,J2 F.stt,?dJ,J2 F.dK,J2 F.dP,J2 F.dC,F.lg,J13 F.sr,F.seen,J14 F.few⟩
 ·exact Us23
theorem bP.Ou{G:Gh}{m:Vw}{tm:Int}(F:bP G m tm)(k l:Nat)(l3:m.kd l=3)(h1:G.Sq l=.W k 0)(h4:1<=(m.fr l).R9)(hn:∀g,G.Sq g≠ .W k 3):
  bP {G with Sq:=Sd G.Sq l .Z} {m with W:=Sd m.W (.f l 1) (aA (m.fr l).ae ((m.fr l).R9-1:Nat) 0)} (tm+1):=by
 have hn2:∀g,(G.Sq g).new≠k+1:=λg z=>hn g (aY.fA z);have hF:∀f,(Sd G.Sq l .Z) f=.F↔G.Sq f=.F:=λf=>by unfold Sd;by_cases e:f=l<;>simp_all
 refine⟨J2 F.hld,J5 F.bd,J5 F.kind,J5 F.due,J5 F.bF,J47 F.kC,J5 F.iter,J18 F.ix,J18 F.jD,J18 F.iO,J18 F.jq,J18 F.st0,J5 F.loop,J5 F.au,J5 F.jG,J5 F.dO,J5 F.dU,J5 F.dV,J5 F.c1,J5 F.c2,J2 F.dn,J5 F.jn,J2 F.jz,J5 F.dG,J2 F.one,J2 F.ko,J2 F.stt,?dJ,J2 F.dK,J2 F.dP,J2 F.dC,F.lg,J13 F.sr,F.seen,J14 F.few⟩
 ·exact Us23
theorem bP.I5{G:Gh}{m:Vw}{tm:Int}(F:bP G m tm)(k l:Nat)(l3:m.kd l=3)(h1:G.Sq l=.Z):
  bP {G with Sq:=Sd G.Sq l (.W k 0)} {m with W:=Sd m.W (.f l 1) 0} (tm+1):=by
 have hF:∀f,(Sd G.Sq l (.W k 0)) f=.F↔G.Sq f=.F:=λf=>by unfold Sd;by_cases e:f=l<;>simp_all
 refine⟨J2 F.hld,J5 F.bd,J5 F.kind,J5 F.due,J5 F.bF,J47 F.kC,J5 F.iter,J18 F.ix,J18 F.jD,J18 F.iO,J18 F.jq,J18 F.st0,J5 F.loop,J5 F.au,J5 F.jG,J5 F.dO,J5 F.dU,J5 F.dV,J5 F.c1,J5 F.c2,J2 F.dn,J5 F.jn,J2 F.jz,J5 F.dG,J2 F.one,J2 F.ko,J2 F.stt,?dJ,J2 F.dK,J2 F.dP,J2 F.dC,F.lg,J13 F.sr,F.seen,J14 F.few⟩
 ·exact Us23
theorem bP.I6{G:Gh}{m:Vw}{tm:Int}(F:bP G m tm)(k l:Nat)(l3:m.kd l=3)(h1:G.Sq l=.Z):
  bP {G with Sq:=Sd G.Sq l (.W k 1)} {m with W:=Sd m.W (.f l 1) 0} (tm+1):=by
 have hF:∀f,(Sd G.Sq l (.W k 1)) f=.F↔G.Sq f=.F:=λf=>by unfold Sd;by_cases e:f=l<;>simp_all
 refine⟨J2 F.hld,J5 F.bd,J5 F.kind,J5 F.due,J5 F.bF,J47 F.kC,J5 F.iter,J18 F.ix,J18 F.jD,J18 F.iO,J18 F.jq,J18 F.st0,J5 F.loop,J5 F.au,J5 F.jG,J5 F.dO,J5 F.dU,J5 F.dV,J5 F.c1,J5 F.c2,J2 F.dn,J5 F.jn,J2 F.jz,J5 F.dG,J2 F.one,J2 F.ko,J2 F.stt,?dJ,J2 F.dK,J2 F.dP,J2 F.dC,F.lg,J13 F.sr,F.seen,J14 F.few⟩
 ·exact Us23
theorem bP.count{G:Gh}{m:Vw}{tm:Int}(F:bP G m tm)(k c:Nat)(h1:G.Sq c=.W k 3)(c2:m.kd c=2)(c0:G.ph c=0):
  bP G {m with W:=Sd m.W (.f (m.pa c) (2+4*((m.fr c).index%2))) 0} (tm+1):=by
 have cF:G.Sq c≠ .F:=by rw[h1];exact λz=>by cases z
 obtain⟨lF,l3⟩:=F.iter c cF c2;obtain⟨z1,z2,z3,z4,z5,z6⟩:=F.jD c cF c2 c0;have nf:=Fin.Aq F.lg z6;generalize m.pa c=l at*;refine⟨J2 F.hld,J4 F.bd,J4 F.kind,J4 F.due,J4 F.bF,J46 F.kC,J4 F.iter,J17 F.ix,J17 F.jD,J17 F.iO,J17 F.jq,J17 F.st0,J4 F.loop,J4 F.au,J4 F.jG,J4 F.dO,J4 F.dU,J4 F.dV,J4 F.c1,J4 F.c2,J2 F.dn,J4 F.jn,J2 F.jz,J4 F.dG,J2 F.one,J2 F.ko,J2 F.stt,?dJ,J2 F.dK,J2 F.dP,J2 F.dC,F.lg,J13 F.sr,F.seen,J14 F.few⟩
 ·exact Us23
theorem bP.link{G:Gh}{m:Vw}{tm:Int}(F:bP G m tm)(l b:Nat)(v:Int):
  bP G {m with W:=Sd m.W (.f l (4+4*b)) v} (tm+1):=by
 refine⟨J2 F.hld,J4 F.bd,J4 F.kind,J4 F.due,J4 F.bF,J46 F.kC,J4 F.iter,J17 F.ix,J17 F.jD,J17 F.iO,J17 F.jq,J17 F.st0,J4 F.loop,J4 F.au,J4 F.jG,J4 F.dO,J4 F.dU,J4 F.dV,J4 F.c1,J4 F.c2,J2 F.dn,J4 F.jn,J2 F.jz,J4 F.dG,J2 F.one,J2 F.ko,J2 F.stt,?dJ,J2 F.dK,J2 F.dP,J2 F.dC,F.lg,J13 F.sr,F.seen,J14 F.few⟩
 ·exact Us23
theorem Us54 {p:Prop} (h:p:=by
 have:=F.jz _ _ z
 have:=F.jn (m.pa i) lF
 rw[z]at this;simp[aY.acts]at this
 omega):p:=h
theorem Us38 {p:Prop} (h:p:=by
 by_cases z:G.aU f=m.pa f
 ·exact U131
 ·have t:=F.kC f a b d z
  rw[e,h1]at t
  exact hn2 _ t.2.symm):p:=h
theorem bP.El{G:Gh}{m:Vw}{tm:Int}(F:bP G m tm)(k i:Nat)(h1:G.Sq i=.W k 0)(h2:m.kd i=2)(h3:G.ph i=2)(hd:(m.fr i).az=false)(hn:∀g,G.Sq g≠ .W k 3)(h4:(m.fr i).Sc=0):
  bP {G with Sq:=Sd (Sd G.Sq i .F) (m.pa i) (.W k 0),aU:=Sd G.aU i 0} {m with W:=Sd m.W (.f (m.pa i) 0) (m.jn (m.pa i)-1),Sj:=Sd m.Sj i false} (tm+1):=by
 have iF:G.Sq i≠ .F:=by rw[h1];exact λz=>by cases z
 have ik:m.kd i≠3:=by omega
 have ci:=F.dG i iF ik hd;obtain⟨b1,b2,b3⟩:=F.bd i iF;have hn2:∀g,(G.Sq g).new≠k+1:=λg z=>hn g (aY.fA z);have np1:∀f,G.Sq f≠ .F->m.kd f=1->m.pa f≠0->m.pa f≠i:=λf a b d e=>by
  exact Us38
 have np2:∀f,G.Sq f≠ .F->m.kd f=2->m.pa f≠i:=λf a b e=>by have:=(F.iter f a b).2;rw[e]at this;exact ik this
 have np3:∀f,G.Sq f≠ .F->m.kd f=3->m.pa f≠i:=λf a b e=>by have:=(F.loop f a b).1;rw[e,h1]at this;cases this
 obtain⟨lF,l3⟩:=F.iter i iF h2;obtain⟨o1,o2⟩:=F.jq i iF h2 h3;have li:m.pa i≠i:=λz=>by rw[z]at l3;omega
 have q:=λf=>eU G.aU i 0 f U2;have c1:=fG (o:=G.aU) (d:=i) (f:=m.pa i) U2 o1;have oI:=F.st0 i iF h2 U2 h4;have hF:∀f,(Sd (Sd G.Sq i .F) (m.pa i) (.W k 0)) f≠ .F↔(G.Sq f≠ .F/\f≠i):=λf=>by unfold Sd;by_cases e:f=i<;>by_cases e2:f=m.pa i<;>simp_all
 have hjz:∀j,G.Sq (m.pa i)≠ .W j 2:=λj z=>by
  exact Us54
 have pi0:m.pa i≠0:=by have:=F.bd _ lF;omega
 generalize hl:m.pa i=l at*
 exact⟨J25 F.hld,J26 F.bd,J6 F.kind,J6 F.due,J33 F.bF,J34 F.kC,J35 F.iter,J15 F.ix,J15 F.jD,J15 F.iO,J15 F.jq,J15 F.st0,J36 F.loop,J6 F.au,J6 F.jG,J6 F.dO,J6 F.dU,J6 F.dV,J6 F.c1,J6 F.c2,J2 F.dn,J37 F.jn,J2 F.jz,J38 F.dG,J2 F.one,J2 F.ko,J2 F.stt,J39 F.dJ,J40 F.dK,J41 F.dP,J2 F.dC,F.lg,J13 F.sr,F.seen,J14 F.few⟩
theorem bP.Em{G:Gh}{m:Vw}{tm:Int}(F:bP G m tm)(k i:Nat)(h1:G.Sq i=.W k 0)(h2:m.kd i=2)(h3:G.ph i=2)(hd:(m.fr i).az=false)(hn:∀g,G.Sq g≠ .W k 3)(h4:(m.fr i).Sc≠0)(hl:m.jn (m.pa i)=1):
  bP {G with Sq:=Sd (Sd G.Sq i .F) (m.pa i) (.W k 2),aU:=Sd G.aU i 0} {m with W:=Sd m.W (.f (m.pa i) 0) (m.jn (m.pa i)-1),Sj:=Sd m.Sj i false} (tm+1):=by
 have iF:G.Sq i≠ .F:=by rw[h1];exact λz=>by cases z
 have ik:m.kd i≠3:=by omega
 have ci:=F.dG i iF ik hd;obtain⟨b1,b2,b3⟩:=F.bd i iF;have hn2:∀g,(G.Sq g).new≠k+1:=λg z=>hn g (aY.fA z);have np1:∀f,G.Sq f≠ .F->m.kd f=1->m.pa f≠0->m.pa f≠i:=λf a b d e=>by
  exact Us38
 have np2:∀f,G.Sq f≠ .F->m.kd f=2->m.pa f≠i:=λf a b e=>by have:=(F.iter f a b).2;rw[e]at this;exact ik this
 have np3:∀f,G.Sq f≠ .F->m.kd f=3->m.pa f≠i:=λf a b e=>by have:=(F.loop f a b).1;rw[e,h1]at this;cases this
 obtain⟨lF,l3⟩:=F.iter i iF h2;obtain⟨o1,o2⟩:=F.jq i iF h2 h3;have li:m.pa i≠i:=λz=>by rw[z]at l3;omega
 have q:=λf=>eU G.aU i 0 f U2;have c1:=fG (o:=G.aU) (d:=i) (f:=m.pa i) U2 o1;have oS:G.Sq (m.pa i)=.S:=by
  have hj:=F.jn (m.pa i) lF;have c1:=fG (o:=G.aU) (d:=i) (f:=m.pa i) U2 o1;have z:=F.jz (m.pa i)
  cases e:G.Sq (m.pa i)with
  |S=>rfl
  |F=>exact absurd e lF
  |W j r=>
   exact Us68
  |_=>rw[e]at hj;simp[aY.acts]at hj;omega
 have hF:∀f,(Sd (Sd G.Sq i .F) (m.pa i) (.W k 2)) f≠ .F↔(G.Sq f≠ .F/\f≠i):=λf=>by unfold Sd;by_cases e:f=i<;>by_cases e2:f=m.pa i<;>simp_all
 have hjz:∀j,G.Sq (m.pa i)≠ .W j 2:=λj z=>by
  exact Us54
 have pi0:m.pa i≠0:=by have:=F.bd _ lF;omega
 generalize hl:m.pa i=l at*
 exact⟨J25 F.hld,J26 F.bd,J6 F.kind,J6 F.due,J33 F.bF,J34 F.kC,J35 F.iter,J15 F.ix,J15 F.jD,J15 F.iO,J15 F.jq,J15 F.st0,J36 F.loop,J6 F.au,J6 F.jG,J6 F.dO,J6 F.dU,J6 F.dV,J6 F.c1,J6 F.c2,J2 F.dn,J37 F.jn,J2 F.jz,J38 F.dG,J2 F.one,J2 F.ko,J2 F.stt,J39 F.dJ,J40 F.dK,J41 F.dP,J2 F.dC,F.lg,J13 F.sr,F.seen,J14 F.few⟩
theorem bP.Eo{G:Gh}{m:Vw}{tm:Int}(F:bP G m tm)(k i:Nat)(h1:G.Sq i=.W k 0)(h2:m.kd i=2)(h3:G.ph i=2)(hd:(m.fr i).az=false)(hn:∀g,G.Sq g≠ .W k 3)(h4:(m.fr i).Sc≠0)(h5:G.Sq (m.pa i)=.W k 1):
  bP {G with Sq:=Sd (Sd G.Sq i .F) (m.pa i) (.W k 0),aU:=Sd G.aU i 0} {m with W:=Sd m.W (.f (m.pa i) 0) (m.jn (m.pa i)-1),Sj:=Sd m.Sj i false} (tm+1):=by
 have iF:G.Sq i≠ .F:=by rw[h1];exact λz=>by cases z
 have ik:m.kd i≠3:=by omega
 have ci:=F.dG i iF ik hd;obtain⟨b1,b2,b3⟩:=F.bd i iF;have hn2:∀g,(G.Sq g).new≠k+1:=λg z=>hn g (aY.fA z);have np1:∀f,G.Sq f≠ .F->m.kd f=1->m.pa f≠0->m.pa f≠i:=λf a b d e=>by
  exact Us38
 have np2:∀f,G.Sq f≠ .F->m.kd f=2->m.pa f≠i:=λf a b e=>by have:=(F.iter f a b).2;rw[e]at this;exact ik this
 have np3:∀f,G.Sq f≠ .F->m.kd f=3->m.pa f≠i:=λf a b e=>by have:=(F.loop f a b).1;rw[e,h1]at this;cases this
 obtain⟨lF,l3⟩:=F.iter i iF h2;obtain⟨o1,o2⟩:=F.jq i iF h2 h3;have li:m.pa i≠i:=λz=>by rw[z]at l3;omega
 have q:=λf=>eU G.aU i 0 f U2;have c1:=fG (o:=G.aU) (d:=i) (f:=m.pa i) U2 o1;have hF:∀f,(Sd (Sd G.Sq i .F) (m.pa i) (.W k 0)) f≠ .F↔(G.Sq f≠ .F/\f≠i):=λf=>by unfold Sd;by_cases e:f=i<;>by_cases e2:f=m.pa i<;>simp_all
 have hjz:∀j,G.Sq (m.pa i)≠ .W j 2:=λj z=>by
  exact Us54
 have pi0:m.pa i≠0:=by have:=F.bd _ lF;omega
 generalize hl:m.pa i=l at*
 exact⟨J25 F.hld,J26 F.bd,J6 F.kind,J6 F.due,J33 F.bF,J34 F.kC,J35 F.iter,J15 F.ix,J15 F.jD,J15 F.iO,J15 F.jq,J15 F.st0,J36 F.loop,J6 F.au,J6 F.jG,J6 F.dO,J6 F.dU,J6 F.dV,J6 F.c1,J6 F.c2,J2 F.dn,J37 F.jn,J2 F.jz,J38 F.dG,J2 F.one,J2 F.ko,J2 F.stt,J39 F.dJ,J40 F.dK,J41 F.dP,J2 F.dC,F.lg,J13 F.sr,F.seen,J14 F.few⟩
theorem bP.En{G:Gh}{m:Vw}{tm:Int}(F:bP G m tm)(k i:Nat)(h1:G.Sq i=.W k 0)(h2:m.kd i=2)(h3:G.ph i=2)(hd:(m.fr i).az=false)(hn:∀g,G.Sq g≠ .W k 3)(h4:(m.fr i).Sc≠0):
  bP {G with Sq:=Sd G.Sq i .F,aU:=Sd G.aU i 0} {m with W:=Sd m.W (.f (m.pa i) 0) (m.jn (m.pa i)-1),Sj:=Sd m.Sj i false} (tm+1):=by
 have iF:G.Sq i≠ .F:=by rw[h1];exact λz=>by cases z
 have ik:m.kd i≠3:=by omega
 have ci:=F.dG i iF ik hd;obtain⟨b1,b2,b3⟩:=F.bd i iF;have hn2:∀g,(G.Sq g).new≠k+1:=λg z=>hn g (aY.fA z);have np1:∀f,G.Sq f≠ .F->m.kd f=1->m.pa f≠0->m.pa f≠i:=λf a b d e=>by
  exact Us38
 have np2:∀f,G.Sq f≠ .F->m.kd f=2->m.pa f≠i:=λf a b e=>by have:=(F.iter f a b).2;rw[e]at this;exact ik this
 have np3:∀f,G.Sq f≠ .F->m.kd f=3->m.pa f≠i:=λf a b e=>by have:=(F.loop f a b).1;rw[e,h1]at this;cases this
 obtain⟨lF,l3⟩:=F.iter i iF h2;obtain⟨o1,o2⟩:=F.jq i iF h2 h3;have li:m.pa i≠i:=λz=>by rw[z]at l3;omega
 have q:=λf=>eU G.aU i 0 f U2;have c1:=fG (o:=G.aU) (d:=i) (f:=m.pa i) U2 o1;have hF:∀f,(Sd G.Sq i .F) f≠ .F↔(G.Sq f≠ .F/\f≠i):=λf=>by unfold Sd;by_cases e:f=i<;>by_cases e2:f=m.pa i<;>simp_all
 have hjz:∀j,G.Sq (m.pa i)≠ .W j 2:=λj z=>by
  exact Us54
 have pi0:m.pa i≠0:=by have:=F.bd _ lF;omega
 generalize hl:m.pa i=l at*
 exact⟨J25 F.hld,J26 F.bd,J6 F.kind,J6 F.due,J33 F.bF,J34 F.kC,J35 F.iter,J15 F.ix,J15 F.jD,J15 F.iO,J15 F.jq,J15 F.st0,J36 F.loop,J6 F.au,J6 F.jG,J6 F.dO,J6 F.dU,J6 F.dV,J6 F.c1,J6 F.c2,J2 F.dn,J37 F.jn,J2 F.jz,J38 F.dG,J2 F.one,J2 F.ko,J2 F.stt,J39 F.dJ,J40 F.dK,J41 F.dP,J2 F.dC,F.lg,J13 F.sr,F.seen,J14 F.few⟩
theorem bP.back{G:Gh}{m:Vw}{tm:Int}(F:bP G m tm)(k i:Nat)(hk:k<100)(h1:G.Sq i=.W k 0)(h2:m.kd i=1)(h3:m.pa i≠0)(hd:(m.fr i).az=false)(hn:∀g,G.Sq g≠ .W k 3)(h5:G.aU (2000+k)=0):
  bP {G with Sq:=Sd G.Sq i .F,aU:=Sd (Sd G.aU i 0) (2000+k) (m.pa i)} {m with Sj:=Sd m.Sj i false} (tm+1):=by
 have iF:G.Sq i≠ .F:=by rw[h1];exact λz=>by cases z
 have ik:m.kd i≠3:=by omega
 have ci:=F.dG i iF ik hd;obtain⟨b1,b2,b3⟩:=F.bd i iF;have hn2:∀g,(G.Sq g).new≠k+1:=λg z=>hn g (aY.fA z);have np1:∀f,G.Sq f≠ .F->m.kd f=1->m.pa f≠0->m.pa f≠i:=λf a b d e=>by
  exact Us38
 have np2:∀f,G.Sq f≠ .F->m.kd f=2->m.pa f≠i:=λf a b e=>by have:=(F.iter f a b).2;rw[e]at this;exact ik this
 have np3:∀f,G.Sq f≠ .F->m.kd f=3->m.pa f≠i:=λf a b e=>by have:=(F.loop f a b).1;rw[e,h1]at this;cases this
 obtain⟨t1,t2⟩:=F.bF i iF h2 h3;have o1:G.aU i=m.pa i:=by
  by_cases z:G.aU i=m.pa i
  ·exact z
  ·have:=(F.kC i iF h2 h3 z).1
   rw[h1]at this
   exact absurd rfl this
 have t3:m.pa i≠i:=λz=>iR ci (d:=i) U2 (o1.trans z);have q:=λf=>eU G.aU i 0 f U2;have q2:=λf=>eU (Sd G.aU i 0) (2000+k) (m.pa i) f U2;rw[Sm G.aU 0 (show 2000+k≠i by omega),h5]at q2;have hF:∀f,(Sd G.Sq i .F) f≠ .F↔(G.Sq f≠ .F/\f≠i):=λf=>by unfold Sd;by_cases e:f=i<;>simp_all
 exact⟨J25 F.hld,J26 F.bd,J6 F.kind,J6 F.due,J69 F.bF,J70 F.kC,J71 F.iter,J27 F.ix,J27 F.jD,J27 F.iO,J27 F.jq,J27 F.st0,J72 F.loop,J6 F.au,J6 F.jG,J6 F.dO,J6 F.dU,J6 F.dV,J6 F.c1,J6 F.c2,J2 F.dn,J73 F.jn,J2 F.jz,J74 F.dG,J2 F.one,J2 F.ko,J2 F.stt,J75 F.dJ,J76 F.dK,J77 F.dP,J78 F.dC,F.lg,J13 F.sr,F.seen,J14 F.few⟩
theorem bP.complete{G:Gh}{m:Vw}{tm:Int}(F:bP G m tm)(k l:Nat)(h1:G.Sq l=.W k 2)(h2:m.kd l=3)(hn:∀g,G.Sq g≠ .W k 3)(s1:Int):
  bP {G with Sq:=Sd (Sd G.Sq l .F) (m.pa l) (.W k 0)} {m with Sj:=Sd m.Sj l false,log:=(m.log++[(Ev.mk 5 (m.fr l).ae (m.fr l).R9 s1)])} (tm+1):=by
 have hn2:∀g,(G.Sq g).new≠k+1:=λg z=>hn g (aY.fA z);have lF:G.Sq l≠ .F:=by rw[h1];exact λz=>by cases z
 obtain⟨p1,p2,p3⟩:=F.loop l lF h2;obtain⟨b1,b2,b3⟩:=F.bd l lF;have pF:G.Sq (m.pa l)≠ .F:=by rw[p1];exact λz=>by cases z
 have ci:cnt G.aU l=0:=by
  have:=F.jn l lF
  have:=F.jz l k h1
  rw[h1]at*;simp[aY.acts]at*
  omega
 have np2:∀f,G.Sq f≠ .F->m.kd f=2->m.pa f≠l:=λf a b e=>by
  have w:=(F.ix f a b).2.2.2.2;have bf:=F.bd f a;have q0:=F.jD f a b;have q1:=F.iO f a b;have q2:=F.jq f a b;rw[e]at q0 q1 q2;rw[h1]at q0
  rcases(by omega:G.ph f=0∨G.ph f=1∨G.ph f=2)with z|z|z
  ·obtain⟨a1,a2,_⟩:=q0 z
   exact a1 a2.symm
  ·exact iR ci (d:=f) U2 (q1 z).1
  ·exact iR ci (d:=f) U2 (q2 z).1
 have np1:∀f,G.Sq f≠ .F->m.kd f=1->m.pa f≠0->m.pa f≠l:=λf a b d e=>by have:=(F.bF f a b d).2;rw[e]at this;exact this h2
 have np3:∀f,G.Sq f≠ .F->m.kd f=3->m.pa f≠l:=λf a b e=>by have:=(F.loop f a b).1;rw[e,h1]at this;cases this
 have np4:∀f,G.Sq f≠ .F->m.kd f=3->m.pa f=m.pa l->f=l:=λf a b e=>(aY.P.inj (p1.symm.trans ((congrArg G.Sq e).symm.trans (F.loop f a b).1))).symm;have np5:∀f,G.Sq f≠ .F->m.kd f=2->m.pa f≠m.pa l:=λf a b e=>by have:=(F.iter f a b).2;rw[e]at this;exact p2 this
 have ls1:eQ m.log (m.fr l).ae=((m.fr l).R9,false):=by
  have A:=F.dO l lF h2;have B:=F.dU l lF h2;have C:=F.dV l lF h2;generalize eQ m.log (m.fr l).ae=st at*;obtain⟨n,b⟩:=st;dsimp only at A B C
  cases b
  ·by_cases e:n+1=(m.fr l).R9
   ·obtain⟨c1,c2,c3,c4⟩:=C e;exact absurd c3 (np2 _ c1 c2)
   ·have:n=(m.fr l).R9:=by omega
    rw[this]
  ·obtain⟨_,c1,c2,c3,c4⟩:=B rfl;exact absurd c3 (np2 _ c1 c2)
 have sr:=F.au l lF h2;have hev:Dw m.log (Ev.mk 5 (m.fr l).ae (m.fr l).R9 s1):=Or.inr (Or.inr (Or.inr ⟨rfl,by simpa using ls1,by simp⟩));have he:(Ev.mk 5 (m.fr l).ae (m.fr l).R9 s1).kind≠1/\(Ev.mk 5 (m.fr l).ae (m.fr l).R9 s1).kind≠4/\True:=⟨by simp,by simp,trivial⟩;have hes:(Ev.mk 5 (m.fr l).ae (m.fr l).R9 s1).loop<=m.ae:=sr.2;have lq:∀s,eQ (m.log++[(Ev.mk 5 (m.fr l).ae (m.fr l).R9 s1)]) s=eQ m.log s:=λs=>nM _ he.1 he.2.1 s;have fq:∀s it,Fin (m.log++[(Ev.mk 5 (m.fr l).ae (m.fr l).R9 s1)]) s it↔Fin m.log s it:=λs it=>kM _ he.2.1 s it;have ls:cZ (m.log++[(Ev.mk 5 (m.fr l).ae (m.fr l).R9 s1)]):=.snoc F.lg hev (Int.le_trans U0 sr.1);have ss:∀x∈m.log++[(Ev.mk 5 (m.fr l).ae (m.fr l).R9 s1)],x.loop<=m.ae:=λx hx=>by
  exact Us106
 have sw:((m.log++[(Ev.mk 5 (m.fr l).ae (m.fr l).R9 s1)]).length:Int)<=tm+1:=by have:=F.few;simp;omega
 generalize m.log++[(Ev.mk 5 (m.fr l).ae (m.fr l).R9 s1)]=lg at*;have pl:m.pa l≠l:=λz=>by rw[z]at p2;exact p2 h2
 have hF:∀f,(Sd (Sd G.Sq l .F) (m.pa l) (.W k 0)) f≠ .F↔(G.Sq f≠ .F/\f≠l):=λf=>by unfold Sd;by_cases e:f=l<;>by_cases e2:f=m.pa l<;>simp_all
 exact⟨J79 F.hld,J20 F.bd,J20 F.kind,J20 F.due,J80 F.bF,J81 F.kC,J82 F.iter,J28 F.ix,J28 F.jD,J28 F.iO,J28 F.jq,J28 F.st0,J83 F.loop,J20 F.au,J20 F.jG,J20 F.dO,J20 F.dU,J20 F.dV,J20 F.c1,J20 F.c2,J51 F.dn,J20 F.jn,J8 F.jz,J20 F.dG,J8 F.one,J8 F.ko,J8 F.stt,J84 F.dJ,J85 F.dK,J8 F.dP,J8 F.dC,ls,J13 F.sr,ss,sw⟩
end Go.Proofs.YteiignfflbmafaaGreat.Tp
