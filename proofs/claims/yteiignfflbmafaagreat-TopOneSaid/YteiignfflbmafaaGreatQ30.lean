/- TopOne, part 30. -/
import Derived.Test.YteiignfflbmafaaGreatQ28
set_option linter.unusedVariables false
set_option linter.unusedSimpArgs false
set_option maxRecDepth 100000
set_option maxHeartbeats 8000000
namespace Go.Proofs.YteiignfflbmafaaGreat.Tp
open Go.Proofs.Tryz
open Go.RowKit Go.Proofs.YteiignfflbmafaaGreat.Tok
section
theorem Us91 {p:Prop} (h:p:=by
 unfold Own;rw[List.replicate_succ',List.flatMap_append,List.length_append,List.length_replicate]
 simpa using ho):p:=h
def TS(w:World)(T:TypeId)(S:Nat->Prop):Prop:=∀c,S c->∃cs,af w c cs T
theorem af.ts{w w2:World}{b:Nat}{cs:Array Value}{t T:TypeId}{S:Nat->Prop}(hb:af w b cs t)(k:Kept S w w2)(hT:TS w T S)(n:t≠T):af w2 b cs t:=k.blk hb (λz=>by obtain⟨_,q⟩:=hT _ z;exact n (hb.type q))
theorem Own.ts{α:Type}{w w2:World}{e T:TypeId}{n:Nat}{f:α->List Value}{v:Value}{l:List α}{S:Nat->Prop}(h:Own w e n f v l)(k:Kept S w w2)(hT:TS w T S)(ne:e≠T):Own w2 e n f v l:=h.kept k (λb q z=>by obtain⟨_,t⟩:=h.type q;obtain⟨_,u⟩:=hT _ z;exact ne (t.type u))
theorem TS.Sq{α:Type}{w:World}{e:TypeId}{n:Nat}{f:α->List Value}{v:Value}{l:List α}(h:Own w e n f v l):TS w e (λc=>v.ownBlock=some c):=λc z=>h.type z
theorem TS.one{w:World}{b:Nat}{cs:Array Value}{t:TypeId}(h:af w b cs t):TS w t (One b):=λc z=>by have z:c=b:=z;subst z;exact⟨cs,h⟩
theorem TS.none{w:World}{t:TypeId}:TS w t None:=λc z=>z.elim
structure BS where
 now:Int
 left:List Int
 child:Option Int
 bC:List (List Int)
 dS:List (Int×Int×Bool)
def JX(child:Bool)(now:Int)(lv:Value):Array Value:= #[(1:Int),.bool child,now,lv,(0:Int),(0:Int),(0:Int),.slice none 0 0,(0:Int),(0:Int),.slice none 0 0,.slice none 0 0]
def xK(a:Int×Int×Bool):List Value:=[.int .i64 a.1,a.2.1,.bool a.2.2]
def rP(_:Unit):List Value:=[.int .i64 0,(0:Int),(0:Int)]
def OU(q:Nat):List Value:=[ptr q]
def uR(v:Value):List Value:=[v]
structure jd(w0 w:World)(q0 q1 nn:Nat)(pv nv av fv lv:Value)(vs:List Value)(st:BS):Prop where
 pr:Own w 25 1 uR pv vs
 pl:vs.length=st.bC.length
 pe:∀(i:Nat)(v:Value)(p:List Int),vs[i]? =some v->st.bC[i]? =some p->Own w 3 1 dB v p
 nd:Own w 206 3 rP nv (List.replicate nn ())
 ac:Own w 98 3 xK av st.dS
 fr:Own w 203 1 OU fv (q0::(st.child.map (λ_=>q1)).toList)
 r0:af w q0 (JX false st.now lv) 209
 r1:∀n,st.child=some n->af w q1 (JX true n (.slice none 0 0)) 209 /\q1≠q0/\w0.heap.size<=q1
 le:Own w 3 1 dB lv st.left
 ne:∀(i:Nat)(v:Value),vs[i]? =some v->∀c,v.ownBlock=some c->lv.ownBlock≠some c
 B:Below w0.heap.size w0 w
 lp:∀c,pv.ownBlock=some c->w0.heap.size<=c
 ln:∀c,nv.ownBlock=some c->w0.heap.size<=c
 la:∀c,av.ownBlock=some c->w0.heap.size<=c
 lf:∀c,fv.ownBlock=some c->w0.heap.size<=c
 ll:∀c,lv.ownBlock=some c->w0.heap.size<=c
 lq:w0.heap.size<=q0
section
variable {w0 w w1 w2:World} {b q0 q1 nn:Nat} {pv nv av fv lv:Value} {vs:List Value} {st:BS}
theorem jd.ts{S:Nat->Prop}{T:TypeId}(h:jd w0 w q0 q1 nn pv nv av fv lv vs st)(k:Kept S w w2)(hT:TS w T S)(hB:∀c,S c->w0.heap.size<=c)(n1: 25 ≠T)(n2: 3 ≠T)(n3: 206 ≠T)(n4: 98 ≠T)(n5: 203 ≠T)(n6: 209 ≠T):jd w0 w2 q0 q1 nn pv nv av fv lv vs st:=
 ⟨h.pr.ts k hT n1,h.pl,λi v p a b=>(h.pe i v p a b).ts k hT n2,h.nd.ts k hT n3,h.ac.ts k hT n4,h.fr.ts k hT n5,h.r0.ts k hT n6,λn e=>⟨(h.r1 n e).1.ts k hT n6,(h.r1 n e).2⟩,h.le.ts k hT n2,h.ne,h.B.trans (k.below hB h.B.size),h.lp,h.ln,h.la,h.lf,h.ll,h.lq⟩
theorem jd.ai(h:jd w0 w q0 q1 nn pv nv av fv lv vs st)(k:Below w.heap.size w w2):jd w0 w2 q0 q1 nn pv nv av fv lv vs st:=h.ts (T:= 202) (Kept.ob (S:=None) k) TS.none (λc z=>z.elim) U0 U0 U0 U0 U0 U0
theorem jd.lt(h:jd w0 w q0 q1 nn pv nv av fv lv vs st){α:Type}{e:TypeId}{n:Nat}{f:α->List Value}{v:Value}{l:List α}(o:Own w e n f v l){c:Nat}(q:v.ownBlock=some c):c<w.heap.size:=by
 obtain⟨_,t⟩:=o.type q
 exact t.lt
theorem jd.M6{pv' v:Value}{p:List Int}(h:jd w0 w q0 q1 nn pv nv av fv lv vs st)(hv:Own w 3 1 dB v p)(hne:∀c,v.ownBlock=some c->lv.ownBlock≠some c)(hg:w.grownBy w2 pv.ownBlock)(ho:w2.ownsRow 0 25 1 pv' (vs.length+1) (vs.flatMap uR++[v]))(ha:pv'.ownBlock=pv.ownBlock∨pv'.ownBlock=some w.heap.size):jd w0 w2 q0 q1 nn pv' nv av fv lv (vs++[v]) {st with bC:=st.bC++[p]}:=by
 have K:=Kept.grown hg;have T:=TS.Sq h.pr;refine⟨?_,by simp[h.pl],λi u r a b=>?_,h.nd.ts K T U0,h.ac.ts K T U0,h.fr.ts K T U0,h.r0.ts K T U0,λn e=>⟨(h.r1 n e).1.ts K T U0,(h.r1 n e).2⟩,h.le.ts K T U0,λi u a=>?_,h.B.trans (K.below (λc z=>h.lp c z) h.B.size),λc z=>?_,h.ln,h.la,h.lf,h.ll,h.lq⟩
 ·unfold Own
  rw[List.length_append,List.flatMap_append]
  simpa[uR]using ho
 ·by_cases e:i<vs.length
  ·rw[List.getElem?_append_left e]at a
   rw[List.getElem?_append_left (by rw[<-h.pl];exact e)]at b
   exact(h.pe i u r a b).ts K T U0
  ·rw[List.getElem?_append_right U2]at a
   rw[List.getElem?_append_right (by rw[<-h.pl];omega)]at b;rw[<-h.pl]at b;have e2:i-vs.length=0:=by have:=(List.getElem?_eq_some_iff.1 a).1;simp at this;omega
   rw[e2]at a b
   simp at a b
   subst a b
   exact hv.ts K T U0
 ·by_cases e:i<vs.length
  ·rw[List.getElem?_append_left e]at a
   exact h.ne i u a
  ·rw[List.getElem?_append_right U2]at a
   have e2:i-vs.length=0:=by have:=(List.getElem?_eq_some_iff.1 a).1;simp at this;omega
   rw[e2]at a
   simp at a
   subst a
   exact hne
 ·rcases ha with q|q
  ·exact h.lp c (q▸z)
  ·exact U140
theorem jd.addN{nv':Value}(h:jd w0 w q0 q1 nn pv nv av fv lv vs st)(hg:w.grownBy w2 nv.ownBlock)(ho:w2.ownsRow 0 206 3 nv' (nn+1) ((List.replicate nn ()).flatMap rP++rP ()))(ha:nv'.ownBlock=nv.ownBlock∨nv'.ownBlock=some w.heap.size):jd w0 w2 q0 q1 (nn+1) pv nv' av fv lv vs st:=by
 have K:=Kept.grown hg;have T:=TS.Sq h.nd;refine⟨h.pr.ts K T U0,h.pl,λi v p a b=>(h.pe i v p a b).ts K T U0,?_,h.ac.ts K T U0,h.fr.ts K T U0,h.r0.ts K T U0,λn e=>⟨(h.r1 n e).1.ts K T U0,(h.r1 n e).2⟩,h.le.ts K T U0,h.ne,h.B.trans (K.below (λc z=>h.ln c z) h.B.size),h.lp,λc z=>?_,h.la,h.lf,h.ll,h.lq⟩
 ·exact Us91
 ·rcases ha with q|q
  ·exact h.ln c (q▸z)
  ·exact U140
theorem jd.Q8{av':Value}{x:Int×Int×Bool}(h:jd w0 w q0 q1 nn pv nv av fv lv vs st)(hg:w.grownBy w2 av.ownBlock)(ho:w2.ownsRow 0 98 3 av' (st.dS.length+1) (st.dS.flatMap xK++xK x))(ha:av'.ownBlock=av.ownBlock∨av'.ownBlock=some w.heap.size):jd w0 w2 q0 q1 nn pv nv av' fv lv vs {st with dS:=st.dS++[x]}:=by
 have K:=Kept.grown hg;have T:=TS.Sq h.ac;refine⟨h.pr.ts K T U0,h.pl,λi v p a b=>(h.pe i v p a b).ts K T U0,h.nd.ts K T U0,?_,h.fr.ts K T U0,h.r0.ts K T U0,λn e=>⟨(h.r1 n e).1.ts K T U0,(h.r1 n e).2⟩,h.le.ts K T U0,h.ne,h.B.trans (K.below (λc z=>h.la c z) h.B.size),h.lp,h.ln,λc z=>?_,h.lf,h.ll,h.lq⟩
 ·unfold Own
  rw[List.flatMap_append,List.length_append]
  simpa using ho
 ·rcases ha with q|q
  ·exact h.la c (q▸z)
  ·exact U140
theorem jd.Q9{fv':Value}{n:Int}{q:Nat}(h:jd w0 w q0 q1 nn pv nv av fv lv vs {st with child:=none})(hq:af w q (JX true n (.slice none 0 0)) 209)(hne:q≠q0)(lq:w0.heap.size<=q)(hg:w.grownBy w2 fv.ownBlock)(ho:w2.ownsRow 0 203 1 fv' 2 [ptr q0,ptr q])(ha:fv'.ownBlock=fv.ownBlock∨fv'.ownBlock=some w.heap.size):jd w0 w2 q0 q nn pv nv av fv' lv vs {st with child:=some n}:=by
 have K:=Kept.grown hg;have T:=TS.Sq h.fr;refine⟨h.pr.ts K T U0,h.pl,λi v p a b=>(h.pe i v p a b).ts K T U0,h.nd.ts K T U0,h.ac.ts K T U0,ho,h.r0.ts K T U0,λm e=>by cases e;exact⟨hq.ts K T U0,hne,lq⟩,h.le.ts K T U0,h.ne,h.B.trans (K.below (λc z=>h.lf c z) h.B.size),h.lp,h.ln,h.la,λc z=>?_,h.ll,h.lq⟩
 rcases ha with q|q
 ·exact h.lf c (q▸z)
 ·exact U140
theorem jd.pop{A:Option Addr}{k cap:Nat}{n:Int}(h:jd w0 w q0 q1 nn pv nv av (.slice A k cap) lv vs {st with child:=some n}):jd w0 w q0 q1 nn pv nv av (.slice A 1 cap) lv vs {st with child:=none}:=
 ⟨h.pr,h.pl,h.pe,h.nd,h.ac,Own.pop (l:=[q0]) (x:=q1) h.fr (λ_=>rfl),h.r0,(λm e=>by cases e),h.le,h.ne,h.B,h.lp,h.ln,h.la,(λc z=>h.lf c (by cases A with|none=>cases z|some a=>exact z)),h.ll,h.lq⟩
theorem jd.GH(h:jd w0 w q0 q1 nn pv nv av fv lv vs st)(n:Int):jd w0 (w.setCell ⟨q0,2,none⟩ ↑n) q0 q1 nn pv nv av fv lv vs {st with now:=n}:=by
 have K:=Kept.one w q0 2 ↑n;have T:=TS.one h.r0
 exact⟨h.pr.ts K T U0,h.pl,λi v p a b=>(h.pe i v p a b).ts K T U0,h.nd.ts K T U0,h.ac.ts K T U0,h.fr.ts K T U0,h.r0.set 2 _,λm e=>⟨K.blk (h.r1 m e).1 (h.r1 m e).2.1,(h.r1 m e).2⟩,h.le.ts K T U0,h.ne,h.B.setCell h.lq _,h.lp,h.ln,h.la,h.lf,h.ll,h.lq⟩
theorem jd.Oy(h:jd w0 w q0 q1 nn pv nv av fv lv vs st):jd w0 (w.setCell ⟨q0,3,none⟩ (.slice none 0 0)) q0 q1 nn pv nv av fv (.slice none 0 0) vs {st with left:=[]}:=by
 have K:=Kept.one w q0 3 (.slice none 0 0);have T:=TS.one h.r0
 exact⟨h.pr.ts K T U0,h.pl,λi v p a b=>(h.pe i v p a b).ts K T U0,h.nd.ts K T U0,h.ac.ts K T U0,h.fr.ts K T U0,h.r0.set 3 _,λm e=>⟨K.blk (h.r1 m e).1 (h.r1 m e).2.1,(h.r1 m e).2⟩,World.ownsRow_nil _ _ _ _,(λi v a c z y=>by cases y),h.B.setCell h.lq _,h.lp,h.ln,h.la,h.lf,(λc z=>by cases z),h.lq⟩
theorem jd.M5{lv':Value}{x:Int}(h:jd w0 w q0 q1 nn pv nv av fv lv vs st)(hg:w.grownBy w2 lv.ownBlock)(ho:w2.ownsRow 0 3 1 lv' (st.left.length+1) (st.left.flatMap dB++[.int .i64 x]))(ha:lv'.ownBlock=lv.ownBlock∨lv'.ownBlock=some w.heap.size):
  af w2 q0 (JX false st.now lv) 209 /\jd w0 (w2.setCell ⟨q0,3,none⟩ lv') q0 q1 nn pv nv av fv lv' vs {st with left:=st.left++[x]}:=by
 have K:=Kept.grown hg;have T:=TS.Sq h.le;have r0:=h.r0.ts K T U0;have K1:=Kept.one w2 q0 3 lv';have T1:=TS.one r0;have l2:Own w2 3 1 dB lv' (st.left++[x]):=by
  unfold Own;rw[List.length_append,List.flatMap_append]
  simpa[dB]using ho
 have sl:∀(i:Nat)(v:Value)(p:List Int),vs[i]? =some v->st.bC[i]? =some p->∀c,v.ownBlock=some c->c<w.heap.size:=λi v p a b c z=>h.lt (h.pe i v p a b) z;refine⟨r0,(h.pr.ts K T U0).ts K1 T1 U0,h.pl,λi v p a b=>?_,(h.nd.ts K T U0).ts K1 T1 U0,(h.ac.ts K T U0).ts K1 T1 U0,(h.fr.ts K T U0).ts K1 T1 U0,r0.set 3 _,λm e=>⟨K1.blk ((h.r1 m e).1.ts K T U0) (h.r1 m e).2.1,(h.r1 m e).2⟩,l2.ts K1 T1 U0,λi v a c z y=>?_,(h.B.trans (K.below (λc z=>h.ll c z) h.B.size)).setCell h.lq _,h.lp,h.ln,h.la,h.lf,λc z=>?_,h.lq⟩
 ·exact((h.pe i v p a b).kept K (λc z y=>h.ne i v a c z y)).ts K1 T1 U0
 ·rcases ha with q|q
  ·exact h.ne i v a c z (q▸y)
  ·rw[q]at y
   cases y
   have hi:i<st.bC.length:=by rw[<-h.pl];exact(List.getElem?_eq_some_iff.1 a).1
   exact absurd (sl i v _ a (List.getElem?_eq_getElem hi) _ z) (Nat.lt_irrefl _)
 ·rcases ha with q|q
  ·exact h.ll c (q▸z)
  ·exact U140
structure gZ(w0 w:World)(b q0 q1 nn:Nat)(pv nv av fv lv:Value)(vs:List Value)(st:BS):Prop where
 bx:af w b #[pv,nv,av,fv,.bool false] 202
 co:jd w0 w q0 q1 nn pv nv av fv lv vs st
 lb:w0.heap.size<=b
theorem jd.GG(h:jd w0 w q0 q1 nn pv nv av fv lv vs st){cs:Array Value}(hb:af w b cs 202)(lb:w0.heap.size<=b)(j:Nat)(v:Value):jd w0 (w.setCell ⟨b,j,none⟩ v) q0 q1 nn pv nv av fv lv vs st:=
 h.ts (Kept.one w b j v) (TS.one hb) (λc z=>by have z:c=b:=z;subst z;exact lb) U0 U0 U0 U0 U0 U0
theorem gZ.ai(h:gZ w0 w b q0 q1 nn pv nv av fv lv vs st)(k:Below w.heap.size w w2):gZ w0 w2 b q0 q1 nn pv nv av fv lv vs st:=⟨h.bx.below k h.bx.lt,h.co.ai k,h.lb⟩
theorem gZ.drew(h:gZ w0 w b q0 q1 nn pv nv av fv lv vs st):gZ w0 w.drew b q0 q1 nn pv nv av fv lv vs st:=h.ai (Below.refl _ _).drew
theorem gZ.grown{α:Type}{e:TypeId}{n:Nat}{f:α->List Value}{v:Value}{l:List α}(h:gZ w0 w b q0 q1 nn pv nv av fv lv vs st)(o:Own w e n f v l)(hg:w.grownBy w2 v.ownBlock)(ne: 202 ≠e):af w2 b #[pv,nv,av,fv,.bool false] 202 :=h.bx.ts (Kept.grown hg) (TS.Sq o) ne
theorem gZ.Qk{nv':Value}(h:gZ w0 w b q0 q1 nn pv nv av fv lv vs st)(hw:Below w.heap.size w w1)(hg:w1.grownBy w2 nv.ownBlock)(ho:w2.ownsRow 0 206 3 nv' (nn+1) ((List.replicate nn ()).flatMap rP++rP ()))(ha:nv'.ownBlock=nv.ownBlock∨nv'.ownBlock=some w1.heap.size):af w2 b #[pv,nv,av,fv,.bool false] 202 /\jd w0 w2 q0 q1 (nn+1) pv nv' av fv lv vs st:=
 ⟨(h.ai hw).grown (h.ai hw).co.nd hg U0,(h.ai hw).co.addN hg ho ha⟩
theorem gZ.Qh{av':Value}{x:Int×Int×Bool}(h:gZ w0 w b q0 q1 nn pv nv av fv lv vs st)(hw:Below w.heap.size w w1)(hg:w1.grownBy w2 av.ownBlock)(ho:w2.ownsRow 0 98 3 av' (st.dS.length+1) (st.dS.flatMap xK++xK x))(ha:av'.ownBlock=av.ownBlock∨av'.ownBlock=some w1.heap.size):af w2 b #[pv,nv,av,fv,.bool false] 202 /\jd w0 w2 q0 q1 nn pv nv av' fv lv vs {st with dS:=st.dS++[x]}:=
 ⟨(h.ai hw).grown (h.ai hw).co.ac hg U0,(h.ai hw).co.Q8 hg ho ha⟩
theorem gZ.Qj{lv':Value}{x:Int}(h:gZ w0 w b q0 q1 nn pv nv av fv lv vs st)(hw:Below w.heap.size w w1)(hg:w1.grownBy w2 lv.ownBlock)(ho:w2.ownsRow 0 3 1 lv' (st.left.length+1) (st.left.flatMap dB++[.int .i64 x]))(ha:lv'.ownBlock=lv.ownBlock∨lv'.ownBlock=some w1.heap.size):af w2 q0 (JX false st.now lv) 209 /\gZ w0 (w2.setCell ⟨q0,3,none⟩ lv') b q0 q1 nn pv nv av fv lv' vs {st with left:=st.left++[x]}:=
 ⟨((h.ai hw).co.M5 hg ho ha).1,⟨((h.ai hw).grown (h.ai hw).co.le hg U0).ts (Kept.one w2 q0 3 lv') (TS.one ((h.ai hw).co.M5 hg ho ha).1) U0,((h.ai hw).co.M5 hg ho ha).2,h.lb⟩⟩
theorem gZ.Qi{fv':Value}{n:Int}{q:Nat}(h:gZ w0 w b q0 q1 nn pv nv av fv lv vs {st with child:=none})(hw:Below w.heap.size w w1)(hq:af w1 q (JX true n (.slice none 0 0)) 209)(hne:q≠q0)(lq:w0.heap.size<=q)(hg:w1.grownBy w2 fv.ownBlock)(ho:w2.ownsRow 0 203 1 fv' 2 [ptr q0,ptr q])(ha:fv'.ownBlock=fv.ownBlock∨fv'.ownBlock=some w1.heap.size):af w2 b #[pv,nv,av,fv,.bool false] 202 /\jd w0 w2 q0 q nn pv nv av fv' lv vs {st with child:=some n}:=
 ⟨(h.ai hw).grown (h.ai hw).co.fr hg U0,(h.ai hw).co.Q9 hq hne lq hg ho ha⟩
end
end
section
theorem EQ:(prog.info? 25).map (λi=>(i.zero,i.size,i.bytes))=some (some (.slice none 0 0),1,24):=by kernel_rfl
theorem ER:(prog.info? 206).map (λi=>(i.zero,i.size,i.bytes))=some (some (.agg #[(0:Int),(0:Int),(0:Int)]),3,24):=by kernel_rfl
theorem NZ:(prog.info? 98).map (λi=>(i.zero,i.size,i.bytes))=some (some (.agg #[(0:Int),(0:Int),.bool false]),3,24):=by kernel_rfl
theorem ET:(prog.info? 203).map (λi=>(i.zero,i.size,i.bytes))=some (some (.pointer none),1,8):=by kernel_rfl
section
variable {w0 w:World} {b q0 q1 nn:Nat} {pv nv av fv lv:Value} {vs:List Value} {st:BS}
theorem gJ(h:gZ w0 w b q0 q1 nn pv nv av fv lv vs st)(v:Value)(p:List Int)(hv:Own w 3 1 dB v p)(hne:∀c,v.ownBlock=some c->lv.ownBlock≠some c)(hp:vs.length<=50)(hnn:nn<=50):Cs 116 #[ptr b,.agg #[(0:Int),(0:Int),(0:Int)],v] w ↑vs.length λw'=>∃pv' nv',gZ w0 w' b q0 q1 (nn+1) pv' nv' av fv lv (vs++[v]) {st with bC:=st.bC++[p]}:=by
 obtain⟨i0,hi,hz0,hz1,hz2⟩:=info_parts EQ;obtain⟨i1,hj,hy0,hy1,hy2⟩:=info_parts ER;obtain⟨PA,pcap,rfl⟩:=h.co.pr.len;obtain⟨NA,ncap,hnv⟩:=h.co.nd.len;rw[List.length_replicate]at hnv;subst hnv;obtain⟨VA,vcap,rfl⟩:=hv.len;have B0:Below w.heap.size w (w.alloc (.cells #[(0:Int),(0:Int),(0:Int)] 206)):=Ba _;have H1:=Hd (h.ai B0);have V1:=Hd (hv.alloc (.cells #[(0:Int),(0:Int),(0:Int)] 206));have Z1:=Hd (af.new w #[(0:Int),(0:Int),(0:Int)] 206 _ rfl);have NE:=Hd hne;have L1:=Hd (lim (nT hp U0) 24 U0);have L2:=Hd (lim (nT hnn U0) 24 U0);have d1:¬(vs.length:Int)=1000:=by omega
 have wl:wrap64 (((vs.length+1:Nat):Int)-1)=(vs.length:Int):=(rQ _ U2).trans U2;clear h hv hne B0 hp hnn;go_enter func116,ntmps116;go_upto_region 1 with fail;generalize w.alloc (.cells #[(0:Int),(0:Int),(0:Int)] 206)=W at*;generalize w.heap.size=q at*;have x0:=H1.o.bx.c0;have SR:=Hd (bG W #[.slice VA p.length vcap] 25 1 rfl);have O1:=Hd (H1.o.co.pr.alloc (.cells #[.slice VA p.length vcap] 25));have HA:=Hd (H1.o.ai (Ba (.cells #[.slice VA p.length vcap] 25)));have VA1:=Hd (V1.out.alloc (.cells #[.slice VA p.length vcap] 25));have ZA:=Hd (Z1.out.alloc (.cells #[.slice VA p.length vcap] 25))
 go_upto_region 5 with(at_builtin;refine bB _ rfl _ _ 96 rfl 0 25 i0 _ 1 24 underlying96 hi hz0 hz1 hz2 rfl U0 (.slice PA vs.length pcap) vs.length _ rfl O1.out _ 1 _ rfl SR.out U17 L1.out.1 L1.out.2 (n0 _) ?_;intro v2 w2 hown2 hgrow2 hat2;have m1:=HA.o.grown HA.o.co.pr hgrow2 U0;have C2:=HA.o.co.M6 VA1.out NE.out hgrow2 hown2 hat2;have Z2:=Hd (ZA.out.ts (Kept.grown hgrow2) (TS.Sq HA.o.co.pr) U0);have y0:=m1.fz 0;obtain⟨A2,c2,rfl⟩:=ownsRow_form hown2;have y1:=m1.c0;have M1:=Hd m1;have C2:=Hd C2;clear hown2 hgrow2 hat2 m1)
 clear y0 y1 x0;have H3:=Hd (gZ.mk (M1.out.set 0 (.slice A2 (vs.length+1) c2)) (C2.out.GG M1.out H1.o.lb 0 (.slice A2 (vs.length+1) c2)) H1.o.lb);have Z3:=Hd (Z2.out.far (a:=⟨b,0,none⟩) (Z2.out.ne M1.out U0) (.slice A2 (vs.length+1) c2));clear C2;generalize w2.setCell ⟨b,0,none⟩ (.slice A2 (vs.length+1) c2)=W3 at*;clear M1 HA VA1 ZA O1 SR Z1 V1 Z2;generalize hn1:vs.length+1=n1 at*;have hn1:=Hd hn1;have x1:=H3.o.bx.c1;have z0:=Z3.out.c0;have z1:=Z3.out.c1;have z2:=Z3.out.c2;have y3:(W3.alloc (.cells #[(0:Int),(0:Int),(0:Int)] 206)).cell? ⟨b,1,none⟩=some (.slice NA nn ncap):=kc x1;have y4:(W3.alloc (.cells #[(0:Int),(0:Int),(0:Int)] 206)).drew.cell? ⟨b,1,none⟩=some (.slice NA nn ncap):=kc x1;have SR:=Hd (bG W3 #[(0:Int),(0:Int),(0:Int)] 206 3 rfl);have HA:=Hd (H3.o.ai (Ba (.cells #[(0:Int),(0:Int),(0:Int)] 206)));have ND:=Hd (show(W3.alloc (.cells #[(0:Int),(0:Int),(0:Int)] 206)).ownsRow 0 206 3 (.slice NA nn ncap) nn ((List.replicate nn ()).flatMap rP)from by have q:=HA.o.co.nd;unfold Own at q;rw[List.length_replicate]at q;exact q)
 go_region_law (first|(refine ay _ (by rfl) _ _ 100 (by rfl) 0 206 i1 _ 3 24 underlying100 hj hy0 hy1 hy2 rfl U0 (.slice NA nn ncap) nn _ (by rfl) (by exact ND.out) (.slice (some ⟨W3.heap.size,0,none⟩) 1 1) 1 _ (by rfl) (by first|exact SR.out|exact SR.out.drew) U17 L2.out.1 L2.out.2 (n0 _) ?_;intro v4 w4 hown4 hgrow4 hat4;obtain⟨m4,C4⟩:=H3.o.Qk U28 hgrow4 hown4 hat4;have u0:=m4.fz 1;obtain⟨A4,c4,rfl⟩:=ownsRow_form hown4;have u1:=m4.c1;have M4:=Hd m4;have C4:=Hd C4;clear hown4 hgrow4 hat4 m4))
 all_goals
  have H5:=Hd (gZ.mk (M4.out.set 1 (.slice A4 (nn+1) c4)) (C4.out.GG M4.out H3.o.lb 1 (.slice A4 (nn+1) c4)) H3.o.lb);clear x1 z0 z1 z2 y3 y4 u0 u1 d1;generalize w4.setCell ⟨b,1,none⟩ (.slice A4 (nn+1) c4)=W5 at*;have u5:=H5.o.bx.c0;go_wp2_with fail
  go_ret
  exact⟨rfl,_,_,H5.o⟩
theorem gZ.top(h:gZ w0 w b q0 q1 nn pv nv av fv lv vs st)(q:Nat)(hq:(st.child=none/\q=q0)∨(st.child≠none/\q=q1)):∃g m i cap,fv=.slice (some ⟨g,0,none⟩) m cap/\m=i+1/\m<=2/\m<=cap/\w.cell? ⟨g,i,none⟩=some (ptr q):=by
 have fr:=h.co.fr;obtain⟨g,cap,e1,hc⟩:=fr.cells (λ_=>rfl) U8;have hcap:(q0::(st.child.map (λ_=>q1)).toList).length<=cap:=by
  obtain⟨_,⟨h2,_⟩|⟨g',cap',cur',e2,_,_,hn,_⟩⟩:=fr
  ·rw[h2]at e1;cases e1
  ·rw[e1]at e2;cases e2;exact hn
 rcases hq with⟨hq,rfl⟩|⟨hq,rfl⟩
 ·rw[hq]at e1 hc hcap
  exact⟨g,1,0,cap,e1,rfl,by decide,hcap,hc 0 0 U8 U0⟩
 ·obtain⟨n,hn⟩:=Option.ne_none_iff_exists'.1 hq
  rw[hn]at e1 hc hcap
  exact⟨g,2,1,cap,e1,rfl,by decide,hcap,by have:=hc 1 0 U8 U0;simpa[OU]using this⟩
theorem nW(h:gZ w0 w b q0 q1 nn pv nv av fv lv vs st)(q:Nat)(hq:(st.child=none/\q=q0)∨(st.child≠none/\q=q1)):Cs 117 #[ptr b] w (ptr q) λw'=>Below w.heap.size w w':=by
 obtain⟨g,m,i,cap,rfl,hm,hm2,_,hc⟩:=h.top q hq;have x3:=h.bx.c3;obtain⟨i1,i2,i3,i4⟩:=ix hm U2;clear h hm hm2 hq;go_enter func117,ntmps117
 exact Us90
theorem O7{n:Int}(h:gZ w0 w b q0 q1 nn pv nv av fv lv vs {st with child:=some n}):Cs 194 #[ptr b] w (ptr q1) λw'=>af w' q1 (JX true n (.slice none 0 0)) 209 /\∃fv',gZ w0 w' b q0 q1 nn pv nv av fv' lv vs {st with child:=none}:=by
 have cT:=Hd (nW h q1 (Or.inr ⟨by simp,rfl⟩));obtain⟨g,m,i,cap,rfl,hm,hm2,hc2,hc⟩:=h.top q1 (Or.inr ⟨by simp,rfl⟩);have hm3:m=2:=by
  obtain⟨_,⟨h2,_⟩|⟨g',cap',cur',e2,_⟩⟩:=h.co.fr
  ·cases h2
  ·cases e2;rfl
 subst hm3;have H:=Hd h;have c1:(1:Int)<=(cap:Int):=by omega
 have c1n:1<=cap:=by omega
 clear h hm hm2 hc2 hc;go_enter func194,ntmps194
 go_upto_region 2 with(go_at_call 117;refine cT.o.q λw1 Sr=> ?_;have H1:=Hd (H.o.ai Sr);have x3:w1.cell? ⟨b,3,none⟩=some (.slice (some ⟨g,0,none⟩) 2 cap):=H1.o.bx.cell 3;have xf:=H1.o.bx.fz 3)
 go_region
 all_goals
  have H2:=Hd (gZ.mk (H1.o.bx.set 3 (.slice (some ⟨g,0,none⟩) 1 cap)) (H1.o.co.pop.GG H1.o.bx H1.o.lb 3 (.slice (some ⟨g,0,none⟩) 1 cap)) H1.o.lb);go_wp2_with fail
  go_ret
  exact⟨rfl,(((H1.o.co.r1 n rfl).1.far (a:=⟨b,3,none⟩) ((H1.o.co.r1 n rfl).1.ne H1.o.bx U0) _)).drew,_,H2.o.drew⟩
end
end
section
theorem pG(w:World)(q:Nat)(ch:Bool)(n:Int)(lv:Value)(h:af w q (JX ch n lv) 209)(k a:Int)(hk:(k=5/\ch=true)∨k=2∨k=4∨k=6):Cs 118 #[ptr q,.agg #[k,a,(0:Int)]] w (.bool true) λw'=>Below w.heap.size w w':=by
 have x0:=h.c0;have x1:=h.c1;have y0:(w.alloc (.cells #[k,a,(0:Int)] 211)).cell? ⟨q,0,none⟩=some (.int .i64 1):=kc x0;have y1:(w.alloc (.cells #[k,a,(0:Int)] 211)).cell? ⟨q,1,none⟩=some (.bool ch):=kc x1;clear h
 rcases hk with⟨rfl,rfl⟩|rfl|rfl|rfl
 all_goals
  go_enter func118,ntmps118;go_wp2_with fail
  go_ret
  exact⟨rfl,Ba _⟩
section
variable {w0 w:World} {b q0 q1 nn:Nat} {pv nv av fv lv:Value} {vs:List Value} {st:BS}
theorem CV{n:Int}(h:gZ w0 w b q0 q1 nn pv nv av fv lv vs st)(hc:st.child=some n)(ha:st.dS.length<=50)(a:Int):Cs 199 #[ptr b,ptr q1,.agg #[(2:Int),a,(0:Int)]] w (.tuple #[]) λw'=>∃av',gZ w0 w' b q0 q1 nn pv nv av' fv lv vs {st with dS:=st.dS++[(n,a,true)]}:=by
 obtain⟨i1,hj,hy0,hy1,hy2⟩:=info_parts NZ;obtain⟨AA,acap,rfl⟩:=h.co.ac.len;have B0:Below w.heap.size w (w.alloc (.cells #[(2:Int),a,(0:Int)] 211)):=Ba _;have H1:=Hd (h.ai B0);have Z1:=Hd (af.new w #[(2:Int),a,(0:Int)] 211 _ rfl);have L2:=Hd (lim (nT ha U0) 24 U0);have HC:=Hd hc;clear h B0 ha hc;go_enter func199,ntmps199;go_upto_region 1 with fail;generalize w.alloc (.cells #[(2:Int),a,(0:Int)] 211)=W at*;generalize w.heap.size=q at*;have z0:=Z1.out.c0;have z1:=Z1.out.c1;have x2:W.cell? ⟨q1,2,none⟩=some ↑n:=(H1.o.co.r1 n HC.o).1.cell 2
 go_region_held3 (λw'=>w'.cell? ⟨q,0,none⟩=some (.int .i64 2)/\w'.cell? ⟨q,1,none⟩=some ↑a/\w'.cell? ⟨q1,2,none⟩=some ↑n)
  (exact U161)
  (fail)
 all_goals
  have B2:Below W.heap.size W (W.alloc (.cells #[n,a,.bool true] 98)).drew:=(Ba _).drew;have H2:=Hd (H1.o.ai B2);have Z2:=Hd (Z1.out.below B2 Z1.out.lt);have Q2:=Hd (af.drew (af.new W #[n,a,.bool true] 98 _ rfl));clear z0 z1 x2 B2;generalize(W.alloc (.cells #[n,a,.bool true] 98)).drew=W3 at*;generalize W.heap.size=q2 at*;have z0:=Z2.out.c0;have c0:=Q2.out.c0;have c1:=Q2.out.c1;have c2:=Q2.out.c2;have x1:=H2.o.bx.c2;have y3:(W3.alloc (.cells #[n,a,.bool true] 98)).cell? ⟨b,2,none⟩=some (.slice AA st.dS.length acap):=kc x1;have y4:(W3.alloc (.cells #[n,a,.bool true] 98)).drew.cell? ⟨b,2,none⟩=some (.slice AA st.dS.length acap):=kc x1;have SR:=Hd (bG W3 #[n,a,.bool true] 98 3 rfl);have ND:=Hd (H2.o.co.ac.alloc (.cells #[n,a,.bool true] 98));go_upto_region 4 with fail
  go_region_law (first|(refine ay _ (by rfl) _ _ 99 (by rfl) 0 98 i1 _ 3 24 underlying99 hj hy0 hy1 hy2 rfl U0 (.slice AA st.dS.length acap) st.dS.length _ (by rfl) (by exact ND.out) (.slice (some ⟨W3.heap.size,0,none⟩) 1 1) 1 _ (by rfl) U62 U17 L2.out.1 L2.out.2 (n0 _) ?_;intro v4 w4 hown4 hgrow4 hat4;obtain⟨m4,C4⟩:=H2.o.Qh (x:=(n,a,true)) U28 hgrow4 hown4 hat4;have u0:=m4.fz 2;obtain⟨A4,c4,rfl⟩:=ownsRow_form hown4;have u1:=m4.c2;have M4:=Hd m4;have C4:=Hd C4;clear hown4 hgrow4 hat4 m4))
 all_goals
  have H5:=Hd (gZ.mk (M4.out.set 2 (.slice A4 (st.dS.length+1) c4)) (C4.out.GG M4.out H2.o.lb 2 (.slice A4 (st.dS.length+1) c4)) H2.o.lb)
  go_end0
  exact⟨rfl,_,by first|exact H5.o|exact H5.o.drew⟩
end
end
section
theorem uI(w:World)(x:Int):Own (w.alloc (.cells #[x] 3)) 3 1 dB (.slice (some ⟨w.heap.size,0,none⟩) 1 1) [x]:=
 ⟨rfl,.inr ⟨w.heap.size,1,#[x],rfl,n0 _,af.new w _ _ _ rfl,Nat.le_refl _,by decide,rfl,rfl⟩⟩
section
variable {w0 w:World} {b q0 q1 nn:Nat} {pv nv av fv lv:Value} {vs:List Value} {st:BS}
theorem gZ.Ai(h:gZ w0 w b q0 q1 nn pv nv av fv lv vs st):∀c,(Value.slice (some ⟨w.heap.size,0,none⟩) 1 1).ownBlock=some c->lv.ownBlock≠some c:=λc z y=>by
 cases z
 exact absurd (h.co.lt h.co.le y) (Nat.lt_irrefl _)
theorem La(h:gZ w0 w b q0 q1 nn pv nv av fv lv vs st)(hc:st.child=none)(hp:vs.length<=50)(hnn:nn<=50)(a:Int):Cs 119 #[ptr b,ptr q0,.agg #[(4:Int),a,(0:Int)]] w (.tuple #[]) λw'=>∃q1' pv' nv' fv' vs',vs'.length=vs.length+1/\gZ w0 w' b q0 q1' (nn+1) pv' nv' av fv' lv vs' {st with child:=some vs.length,bC:=st.bC++[[st.now]]}:=by
 obtain⟨i1,hj,hy0,hy1,hy2⟩:=info_parts ET;obtain⟨now,left,child,bC,dS⟩:=st;dsimp only at hc;subst hc;have H1:=Hd (h.ai (Ba (.cells #[(4:Int),a,(0:Int)] 211)));obtain⟨FA,Su,rfl⟩:=h.co.fr.len;have HP:=Hd hp;have HNN:=Hd hnn;clear h hp hnn;have fl:(q0::((Option.map (λ_=>q1) (none:Option Int)).toList)).length=1:=rfl;rw[fl]at H1;go_enter func119,ntmps119;go_upto_region 4 with fail;generalize w.alloc (.cells #[(4:Int),a,(0:Int)] 211)=W at*;have x2:=H1.o.co.r0.c2;have x3:=H1.o.bx.c3;have y3:(W.alloc (.cells #[now] 3)).cell? ⟨b,3,none⟩=some (.slice FA 1 Su):=kc x3;have y4:(W.alloc (.cells #[now] 3)).drew.cell? ⟨b,3,none⟩=some (.slice FA 1 Su):=kc x3;have H2:=H1.o.ai (Ba (.cells #[now] 3));have NE:=H1.o.Ai;have OO:=uI W now;have cS:=Hd (λwr (k:wr=(W.alloc (.cells #[now] 3))∨wr=(W.alloc (.cells #[now] 3)).drew)=>(show Calls prog 116 #[ptr b,.agg #[(0:Int),(0:Int),(0:Int)],.slice (some ⟨W.heap.size,0,none⟩) 1 1] wr _ from by
  rcases k with rfl|rfl
  ·exact gJ H2 _ [now] OO NE HP.o HNN.o
  ·exact gJ H2.drew _ [now] (by exact OO) NE HP.o HNN.o))
 clear H2 NE OO
 go_region_law (first|(refine ay _ (by rfl) _ _ 200 (by rfl) 0 203 i1 _ 1 8 underlying200 hj hy0 hy1 hy2 rfl U0 (.slice FA 1 Su) 1 [ptr q0] (by rfl) (by exact OF.out) (.slice (some ⟨w2.heap.size+1,0,none⟩) 1 1) 1 [ptr w2.heap.size] (by rfl) U62 U17 U55 U0 (n0 _) ?_;intro v4 w4 hown4 hgrow4 hat4;obtain⟨m4,C4⟩:=H3.o.Qi (st:=⟨now,left,none,bC++[[now]],dS⟩) (n:=vs.length) (q:=w2.heap.size) (by first|exact BW.o|exact BW.o.drew) (by exact BF.o) NQ.out LQ.out hgrow4 hown4 hat4;have u0:=m4.fz 3;obtain⟨A4,c4,rfl⟩:=ownsRow_form hown4;have u1:=m4.c3;have M4:=Hd m4;have C4:=Hd C4;clear hown4 hgrow4 hat4 m4)|(go_simp;go_at_call 116;refine(cS.o _ U73).mono ?_;rintro ev w2 ⟨rfl,pv2,nv2,h2⟩;have H3:=Hd h2;have t0:=h2.bx.c3;have t1:(w2.alloc (.cells #[(1:Int),.bool true,vs.length,.slice none 0 0,(0:Int),(0:Int),(0:Int),.slice none 0 0,(0:Int),(0:Int),.slice none 0 0,.slice none 0 0] 209)).cell? ⟨b,3,none⟩=some (.slice FA 1 Su):=kc t0;have t2:((w2.alloc (.cells #[(1:Int),.bool true,vs.length,.slice none 0 0,(0:Int),(0:Int),(0:Int),.slice none 0 0,(0:Int),(0:Int),.slice none 0 0,.slice none 0 0] 209)).alloc (.cells #[ptr w2.heap.size] 203)).cell? ⟨b,3,none⟩=some (.slice FA 1 Su):=kc t1;have t3:((w2.alloc (.cells #[(1:Int),.bool true,vs.length,.slice none 0 0,(0:Int),(0:Int),(0:Int),.slice none 0 0,(0:Int),(0:Int),.slice none 0 0,.slice none 0 0] 209)).alloc (.cells #[ptr w2.heap.size] 203)).drew.cell? ⟨b,3,none⟩=some (.slice FA 1 Su):=t2;have t4:(w2.alloc (.cells #[(1:Int),.bool true,vs.length,.slice none 0 0,(0:Int),(0:Int),(0:Int),.slice none 0 0,(0:Int),(0:Int),.slice none 0 0,.slice none 0 0] 209)).drew.cell? ⟨b,3,none⟩=some (.slice FA 1 Su):=t1;have OF:=Hd ((h2.co.fr.alloc (.cells #[(1:Int),.bool true,vs.length,.slice none 0 0,(0:Int),(0:Int),(0:Int),.slice none 0 0,(0:Int),(0:Int),.slice none 0 0,.slice none 0 0] 209)).alloc (.cells #[ptr w2.heap.size] 203));have SR:=bG (w2.alloc (.cells #[(1:Int),.bool true,vs.length,.slice none 0 0,(0:Int),(0:Int),(0:Int),.slice none 0 0,(0:Int),(0:Int),.slice none 0 0,.slice none 0 0] 209)) #[ptr w2.heap.size] 203 1 rfl;rw[World.size_alloc]at SR;have SR:=Hd SR;have BF:=Hd ((af.new w2 #[(1:Int),.bool true,vs.length,.slice none 0 0,(0:Int),(0:Int),(0:Int),.slice none 0 0,(0:Int),(0:Int),.slice none 0 0,.slice none 0 0] 209 _ rfl).alloc (.cells #[ptr w2.heap.size] 203));have BW:=Hd (show Below w2.heap.size w2 ((w2.alloc (.cells #[(1:Int),.bool true,vs.length,.slice none 0 0,(0:Int),(0:Int),(0:Int),.slice none 0 0,(0:Int),(0:Int),.slice none 0 0,.slice none 0 0] 209)).alloc (.cells #[ptr w2.heap.size] 203))from(Ba _).alloc U8 _);have LQ:=Hd h2.co.B.size;have NQ:=Hd (show w2.heap.size≠q0 from by have:=h2.co.r0.lt;omega);clear h2))
 all_goals
  have H5:=Hd (gZ.mk (M4.out.set 3 (.slice A4 2 c4)) (C4.out.GG M4.out H3.o.lb 3 (.slice A4 2 c4)) H3.o.lb)
  go_end0
  exact⟨rfl,w2.heap.size,pv2,nv2,.slice A4 2 c4,vs++[.slice (some ⟨W.heap.size,0,none⟩) 1 1],by simp,by first|exact H5.o|exact H5.o.drew⟩
end
end
section
section
variable {w0 w:World} {b q0 q1 nn:Nat} {pv nv av fv lv:Value} {vs:List Value} {st:BS}
theorem GZ{n:Int}(h:gZ w0 w b q0 q1 nn pv nv av fv lv vs st)(hc:st.child=some n)(ha:st.dS.length<=50)(a:Int):Cs 119 #[ptr b,ptr q1,.agg #[(2:Int),a,(0:Int)]] w (.tuple #[]) λw'=>∃av',gZ w0 w' b q0 q1 nn pv nv av' fv lv vs {st with dS:=st.dS++[(n,a,true)]}:=by
 have BX:=af.new w #[(2:Int),a,(0:Int)] 211 _ rfl;have c1:=Hd (CV (h.ai (Ba (.cells #[(2:Int),a,(0:Int)] 211))) hc ha a);clear h hc ha;go_enter func119,ntmps119
 go_wp2_with (go_at_call 199;refine c1.o.mono ?_;rintro ev w1 ⟨rfl,av1,h1⟩)
 go_end0
 exact⟨rfl,av1,h1⟩
theorem K9{n:Int}(h:gZ w0 w b q0 q1 nn pv nv av fv lv vs st)(hc:st.child=some n)(hp:vs.length<=50)(hnn:nn<=50)(hll:st.left.length<=50)(a:Int):Cs 119 #[ptr b,ptr q1,.agg #[(5:Int),a,(0:Int)]] w (.tuple #[]) λw'=>∃pv' nv' fv' lv' vs',vs'.length=vs.length+1/\gZ w0 w' b q0 q1 (nn+1) pv' nv' av fv' lv' vs' {st with now:=vs.length,left:=st.left++[n],child:=none,bC:=st.bC++[[st.now]]}:=by
 obtain⟨i1,hj,hy0,hy1,hy2⟩:=info_parts fH;obtain⟨now,left,child,bC,dS⟩:=st;dsimp only at hc hll;subst hc;have H1:=Hd (h.ai (Ba (.cells #[(5:Int),a,(0:Int)] 211)));obtain⟨LA,Sw,rfl⟩:=h.co.le.len;have HP:=Hd hp;have HNN:=Hd hnn;have LM:=Hd (lim (nT hll U0) 8 U0);clear h hp hnn hll;have cP:=Hd (O7 (st:=⟨now,left,none,bC,dS⟩) H1.o);go_enter func119,ntmps119
 go_upto_region 8 with(first|(go_at_call 194;refine cP.o.mono ?_;rintro ev w4 ⟨rfl,b4,fv4,h4⟩;have B4:=Hd b4;have H4:=Hd h4;have cT:=Hd (nW h4 q0 (Or.inl ⟨rfl,rfl⟩));clear b4 h4)|(go_at_call 117;refine cT.o.q λw5 hb5=> ?_;have B5:=Hd (B4.o.below hb5 B4.o.lt);have H5:=Hd (H4.o.ai hb5);clear hb5))
 have x2:=B5.o.c2;have x3:=H5.o.co.r0.c3;have y3:(w5.alloc (.cells #[n] 3)).cell? ⟨q0,3,none⟩=some (.slice LA left.length Sw):=kc x3;have y4:(w5.alloc (.cells #[n] 3)).drew.cell? ⟨q0,3,none⟩=some (.slice LA left.length Sw):=kc x3;have SR:=Hd (bG w5 #[n] 3 1 rfl);have OL:=Hd (H5.o.co.le.alloc (.cells #[n] 3));clear cP cT H1 H4 B4
 go_region_law (first|(refine ay _ (by rfl) _ _ 25 (by rfl) 0 3 i1 _ 1 8 underlying25 hj hy0 hy1 hy2 rfl U0 (.slice LA left.length Sw) left.length _ (by rfl) (by exact OL.out) (.slice (some ⟨w5.heap.size,0,none⟩) 1 1) 1 [.int .i64 n] (by rfl) U62 U17 LM.out.1 LM.out.2 (n0 _) ?_;intro v6 w6 hown6 hgrow6 hat6;obtain⟨m6,C6⟩:=H5.o.Qj U28 hgrow6 hown6 hat6;have u0:=m6.fz 3;obtain⟨A6,c6,rfl⟩:=ownsRow_form hown6;have u1:=m6.c3;have C6:=Hd C6;clear hown6 hgrow6 hat6 m6))
 all_goals
  clear x2 x3 y3 y4 u0 u1 SR OL;generalize w6.setCell ⟨q0,3,none⟩ (.slice A6 (left.length+1) c6)=W3 at*;have z2:=C6.out.co.r0.c2;have zf:=C6.out.co.r0.fz 2;have z4:=C6.out.co.r0.c4;have z5:=C6.out.co.r0.c5;have z6:=C6.out.co.r0.c6;have k4:(W3.alloc (.cells #[now] 3)).cell? ⟨q0,4,none⟩=some (.int .i64 0):=kc z4;have k5:(W3.alloc (.cells #[now] 3)).cell? ⟨q0,5,none⟩=some (.int .i64 0):=kc z5;have k6:(W3.alloc (.cells #[now] 3)).cell? ⟨q0,6,none⟩=some (.int .i64 0):=kc z6;have H2:=C6.out.ai (Ba (.cells #[now] 3));have NE:=C6.out.Ai;have OO:=uI W3 now;have cS:=Hd (λwr (k:wr=(W3.alloc (.cells #[now] 3))∨wr=(W3.alloc (.cells #[now] 3)).drew)=>(show Calls prog 116 #[ptr b,.agg #[(0:Int),(0:Int),(0:Int)],.slice (some ⟨W3.heap.size,0,none⟩) 1 1] wr _ from by
   rcases k with rfl|rfl
   ·exact gJ H2 _ [now] OO NE HP.o HNN.o
   ·exact gJ H2.drew _ [now] (by exact OO) NE HP.o HNN.o))
  clear H2 NE OO;go_upto_region 9 with fail
  go_region_law (first|(go_simp;go_at_call 116;refine(cS.o _ U73).mono ?_;rintro ev w7 ⟨rfl,pv7,nv7,h7⟩;have H7:=Hd h7;have t2:=h7.co.r0.c2;have tf:=h7.co.r0.fz 2;clear h7))
 all_goals
  have H8:=Hd (gZ.mk (H7.o.bx.ts (Kept.one w7 q0 2 ↑vs.length) (TS.one H7.o.co.r0) U0) (H7.o.co.GH vs.length) H7.o.lb)
  go_end0
  exact⟨rfl,pv7,nv7,fv4,.slice A6 (left.length+1) c6,vs++[.slice (some ⟨W3.heap.size,0,none⟩) 1 1],by simp,by first|exact H8.o|exact H8.o.drew⟩
end
end
end Go.Proofs.YteiignfflbmafaaGreat.Tp
