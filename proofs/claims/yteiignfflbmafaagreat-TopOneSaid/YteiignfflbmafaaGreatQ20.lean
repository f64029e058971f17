/- TopOne, part 20. -/
import Derived.Test.YteiignfflbmafaaGreatQ19
set_option linter.unusedVariables false
set_option linter.unusedSimpArgs false
set_option maxRecDepth 100000
set_option maxHeartbeats 8000000
namespace Go.Proofs.YteiignfflbmafaaGreat.Tp
open Go.Proofs.Tryz
open Go.RowKit Go.Proofs.YteiignfflbmafaaGreat.Tok
def aV(w:World)(v:Value)(l:List Int):Prop:=∃A cap,v=.slice A l.length cap/\(0<l.length->∃b o,A=some ⟨b,o,none⟩/\b<w.heap.size/\∀j (hj:j<l.length),w.cell? ⟨b,o+j,none⟩=some (.int .i64 l[j]))
def dR(w:World)(v:Value)(ls:List (List Int)):Prop:=∃A cap,v=.slice A ls.length cap/\(0<ls.length->∃b o,A=some ⟨b,o,none⟩/\b<w.heap.size/\∀i (hi:i<ls.length),∃v',w.cell? ⟨b,o+i,none⟩=some v'/\aV w v' ls[i])
theorem aV.ai{w w':World}{v:Value}{l:List Int}{B:Nat}(h:aV w v l)(k:Below B w w')(hB:w.heap.size<=B):aV w' v l:=by
 obtain⟨A,cap,e,h⟩:=h;refine⟨A,cap,e,λhp=>?_⟩;obtain⟨b,o,e2,hb,hc⟩:=h hp
 exact⟨b,o,e2,by have:=k.size;omega,λj hj=>kb k (by show b<B;omega) (hc j hj)⟩
theorem dR.ai{w w':World}{v:Value}{ls:List (List Int)}{B:Nat}(h:dR w v ls)(k:Below B w w')(hB:w.heap.size<=B):dR w' v ls:=by
 obtain⟨A,cap,e,h⟩:=h;refine⟨A,cap,e,λhp=>?_⟩;obtain⟨b,o,e2,hb,hc⟩:=h hp;refine⟨b,o,e2,by have:=k.size;omega,λi hi=>?_⟩;obtain⟨v',q1,q2⟩:=hc i hi
 exact⟨v',kb k (by show b<B;omega) q1,q2.ai k hB⟩
theorem dR.at_{w:World}{A:Option Addr}{n cap:Nat}{ls:List (List Int)}(h:dR w (.slice A n cap) ls)(i:Nat)(hi:i<ls.length):∃b o,A=some ⟨b,o,none⟩/\b<w.heap.size/\∃A' c',w.cell? ⟨b,o+i,none⟩=some (.slice A' ls[i].length c')/\aV w (.slice A' ls[i].length c') ls[i]:=by
 obtain⟨_,_,e,h⟩:=h
 cases e
 obtain⟨b,o,e2,hb,hc⟩:=h U2;obtain⟨v',q1,q2⟩:=hc i hi;obtain⟨A',c',e3,q3⟩:=q2;subst e3
 exact⟨b,o,e2,hb,A',c',q1,A',c',rfl,q3⟩
theorem aV.at_{w:World}{A:Option Addr}{n cap:Nat}{l:List Int}(h:aV w (.slice A n cap) l)(i:Nat)(hi:i<l.length):∃b o,A=some ⟨b,o,none⟩/\b<w.heap.size/\w.cell? ⟨b,o+i,none⟩=some (.int .i64 l[i]):=by
 obtain⟨_,_,e,h⟩:=h
 cases e
 obtain⟨b,o,e2,hb,hc⟩:=h U2
 exact⟨b,o,e2,hb,hc i hi⟩
theorem dR.form{w:World}{v:Value}{ls:List (List Int)}(h:dR w v ls):∃A cap,v=.slice A ls.length cap:=by
 obtain⟨A,c,e,_⟩:=h
 exact⟨A,c,e⟩
theorem rQ(n:Int)(h:0<=n/\n<=1000000):wrap64 n=n:=by unfold wrap64;omega
theorem Au{k n:Nat}(h:k<n):(k:Int)<(n:Int):=by omega
theorem Ay{k n:Nat}(h:k<n)(hn:n<=1000000):wrap64 ((k:Int)+1)=((k+1:Nat):Int):=(rQ _ U2).trans U8
theorem Aw{k n:Nat}(h:k<n):n-(intOf (.int .i64 ((k+1:Nat):Int))).toNat<n-(intOf (.int .i64 (k:Int))).toNat:=by simp[intOf];omega
def vU(ls:List (List Int)):Prop:=∀i (hi:i<ls.length),ls[i].length<=1000/\∀j (hj:j<ls[i].length),0<=ls[i][j]/\ls[i][j]<i
theorem Cz(w:World)(v:Value)(ls:List (List Int))(h:dR w v ls)(hn:ls.length<=64)(hg:vU ls):Cs 109 #[v] w (.int .i64 0) λw'=>w=w':=by
 obtain⟨A,cap,rfl⟩:=h.form;have H:=Hd h;have G:=Hd hg;clear h hg;have n1:¬((1000:Int)<(ls.length:Int)):=by omega
 have d1:decide ((1000:Int)<(ls.length:Int))=false:=by simp[n1]
 go_enter func109,ntmps109;go_wp2_with fail
 go_loopw [12] (λi wr=>∃k:Nat,k<=ls.length/\i=.int .i64 k/\wr=w) (λi _=>ls.length-(intOf i).toNat)
 case atStart=>exact⟨0,n0 _,rfl,rfl⟩
 case round=>
  obtain⟨k,hk,rfl,rfl⟩:=hrel
  by_cases hlt:k<ls.length
  ·have hw:wrap64 ((k:Int)+1)=((k+1:Nat):Int):=Ay hlt U2
   have hlt':(k:Int)<(ls.length:Int):=Au hlt;obtain⟨b,o,rfl,hb,A',c',q1,q2⟩:=H.o.at_ k hlt;obtain⟨g1,g2⟩:=G.out k hlt;have Q:=Hd q2;have G2:=Hd g2;have M:=Hd (Aw hlt);have K1:k+1<=ls.length:=hlt;clear H G q2 g2 hk d1 n1 hn;generalize hX:ls[k]=l at*;clear hX;clear hlt;generalize ls.length=n at*;go_wp2_with fail
   go_loopw [19] (λi wi=>∃j:Nat,j<=l.length/\i=.int .i64 j/\wi=wr) (λi _=>l.length-(intOf i).toNat)
   case atStart=>exact⟨0,n0 _,rfl,rfl⟩
   case round=>
    obtain⟨j,hj,rfl,rfl⟩:=hrel
    by_cases hlt2:j<l.length
    ·have hw2:wrap64 ((j:Int)+1)=((j+1:Nat):Int):=Ay hlt2 U2
     have hlt2':(j:Int)<(l.length:Int):=Au hlt2;obtain⟨b2,o2,rfl,hb2,r1⟩:=Q.out.at_ j hlt2;obtain⟨p1,p2⟩:=G2.out j hlt2;have M2:=Hd (Aw hlt2);have K2:j+1<=l.length:=hlt2;clear Q G2 hj g1;generalize hX:l[j]=p at*;clear hX;clear hlt2;generalize l.length=n2 at*;have e1:decide (p<0)=false:=by simp;omega
     have e2:decide ((k:Int)<=p)=false:=by simp;omega
     go_wp2_with fail
     go_roundw
     case rel=>exact⟨j+1,K2,by rw[hw2],trivial⟩
     case measure=>rw[hw2];exact M2.out
    ·obtain rfl:j=l.length:=Nat.le_antisymm hj (Nat.le_of_not_lt hlt2)
     have hge:¬((l.length:Int)<(l.length:Int)):=Int.lt_irrefl _;clear Q G2;go_wp2_with fail
     go_roundw
     case rel=>exact⟨k+1,K1,by rw[hw],trivial⟩
     case measure=>rw[hw];exact M.out
  ·obtain rfl:k=ls.length:=Nat.le_antisymm hk (Nat.le_of_not_lt hlt)
   have hge:¬((ls.length:Int)<(ls.length:Int)):=Int.lt_irrefl _;clear H G;go_wp2_with fail
   go_ret
   exact⟨rfl,rfl⟩
theorem uK(w:World)(r:Nat)(A:Option Addr)(n cap:Nat)(h:af w r #[.slice A n cap] 190):Cs 71 #[.pointer (some ⟨r,0,none⟩)] w ↑n λw'=>w=w':=by
 have x0:=h.c0;clear h;go_enter func71,ntmps71;go_wp2_with fail
 go_ret
 exact⟨rfl,rfl⟩
theorem Gp(w:World)(r:Nat)(A:Option Addr)(n cap:Nat)(h:af w r #[.slice A n cap] 190)(a:Int)(ha:0<=a/\a<n):Cs 110 #[.pointer (some ⟨r,0,none⟩),a] w (.bool true) λw'=>w=w':=by
 have c1:=Hd (uK w r A n cap h);obtain⟨h1,h2⟩:=ha;clear h;go_enter func110,ntmps110
 go_wp2_with (go_at_call 71;refine c1.o.r ?_)
 go_ret
 exact⟨by simp[h2],rfl⟩
def iq(w:World)(r:Nat)(R:List Int):Prop:=∃g cap,af w r #[.slice (some ⟨g,0,none⟩) R.length cap] 190 /\∀i (hi:i<R.length),∃q m,w.cell? ⟨g,i,none⟩=some (.slice (some ⟨q,0,none⟩) 1 m)/\w.cell? ⟨q,0,none⟩=some (.int .u64 R[i])
theorem yT(w:World)(r:Nat)(R:List Int)(h:iq w r R)(b:Nat)(hb:b<R.length)(hl:1<b)(v:Bool)(hx:(R.getD b 0=1/\v=false)∨(R.getD b 0=5/\v=false)∨(R.getD b 0=15/\v=true))(x y:Int)(hxy:(x=1/\y=b)∨(x=b/\y=1)):
  Cs 111 #[.pointer (some ⟨r,0,none⟩),x,y] w (.bool (decide (x<y)&&v)) λw'=>w=w':=by
 obtain⟨g,cap,h1,h2⟩:=h;obtain⟨q,m,x1,x2⟩:=h2 b hb;rw[show R.getD b 0=R[b]by simp[List.getD,hb]]at hx;have c1:=Hd (λa ha=>Gp w r _ _ _ h1 a ha);have x0:=h1.c0;have hl':(1:Int)<(b:Int):=by omega
 have b1:(0:Int)<=(1:Int)/\(1:Int)<R.length:=by omega
 have b2:(0:Int)<=(b:Int)/\(b:Int)<R.length:=by omega
 have B1:=Hd b1;have B2:=Hd b2;have e3:(b:Int)<R.length:=by omega
 clear h1 h2 b1 b2;generalize R[b]=z at*;generalize R.length=n at*
 rcases hxy with⟨rfl,rfl⟩|⟨rfl,rfl⟩
 ·have d1:decide ((1:Int)<(b:Int))=true:=by simp;omega
  rw[d1,Bool.true_and]
  rcases hx with⟨rfl,rfl⟩|⟨rfl,rfl⟩|⟨rfl,rfl⟩
  all_goals
   go_enter func111,ntmps111
   go_wp2_with (go_at_call 110;refine(c1.o _ U85).r ?_)
   go_ret
   exact⟨rfl,rfl⟩
 ·have d1:decide ((b:Int)<(1:Int))=false:=by simp;omega
  have d2:¬((b:Int)<(1:Int)):=by omega
  rw[d1,Bool.false_and];clear hx;go_enter func111,ntmps111
  go_wp2_with (go_at_call 110;refine(c1.o _ U85).r ?_)
  go_ret
  exact⟨rfl,rfl⟩
theorem yS(w:World)(r:Nat)(R:List Int)(h:iq w r R)(b:Nat)(hb:b<R.length)(hl:1<b)(v:Bool)(hx:(R.getD b 0=1/\v=false)∨(R.getD b 0=5/\v=false)∨(R.getD b 0=15/\v=true)):Cs 72 #[.pointer (some ⟨r,0,none⟩),(1:Int),b] w (.bool (!v)) λw'=>w=w':=by
 have H:=h;obtain⟨g,cap,h1,h2⟩:=h;have c1:=Hd (λa ha=>Gp w r _ _ _ h1 a ha);have c3:=Hd (λx y z=>yT w r R H b hb hl v hx x y z);have n1:¬(1:Int)=(b:Int):=by omega
 have b1:(0:Int)<=(1:Int)/\(1:Int)<R.length:=by omega
 have b2:(0:Int)<=(b:Int)/\(b:Int)<R.length:=by omega
 have B1:=Hd b1;have B2:=Hd b2;have d1:decide ((1:Int)<(b:Int))=true:=by simp;omega
 have d2:decide ((b:Int)<(1:Int))=false:=by simp;omega
 have D1:=Hd d1;have D2:=Hd d2;clear h1 h2 H hx hb hl b1 b2 d1 d2;generalize(b:Int)=y at*
 cases v
 all_goals
  go_enter func72,ntmps72
  go_wp2_with (first|(go_at_call 110;refine(c1.o _ U85).r ?_)|(go_at_call 111;refine(c3.o _ _ (by first|exact Or.inl ⟨rfl,rfl⟩|exact Or.inr ⟨rfl,rfl⟩)).r ?_;(try rw[D1.out]);(try rw[D2.out]);(try simp only[Bool.true_and,Bool.false_and])))
  go_ret
  first|exact⟨rfl,rfl⟩|exact⟨by simp[n1],rfl⟩
section
section
variable {P:Program}
theorem bB(w:World){ops:Array Oper}{rest:List Oper}{o:Oper}{a:Act}{Q:Exit->Act->World->Prop}(hgd:o.guard=none)(s y:Operand)(t:TypeId)
  (ho:o.op=.call {callee:=.builtin .append,args:= #[s,y],argTypes:= #[t,t]})
  (base:Nat) (e:TypeId) (i:TypeInfo) (z:Value) (size bytes:Nat) (ht:P.underlying t=some (.slice e)) (hi:P.info? e=some i) (hz:i.zero=some z)
  (hsize:i.size=size) (hby:i.bytes=bytes) (hzs:z.cells.size=size) (hsz:0<size)
  (v:Value) (n:Nat) (xs:List Value) (hs:a.eval s=v) (hown:w.ownsRow base e size v n xs)
  (x:Value) (m:Nat) (news:List Value) (hy:a.eval y=x) (hx:Src w x m size news) (h1:∀u∈news,u.oneCell'=true)
  (h63:n+m<=maxLen) (hbytes:(n+m)*bytes<=140737488355328) (hbase:base<=w.heap.size)
  (h:∀v' w',w'.ownsRow base e size v' (n+m) (xs++news)->w.grownBy w' v.ownBlock->(v'.ownBlock=v.ownBlock∨v'.ownBlock=some w.heap.size)->wpList P ops Q rest (a.put o.dst v') w'):wpList P ops Q (o::rest) a w:=
 wpList_plain hgd λ_ hK=>lu w s y t ho base e i z size bytes ht hi hz hsize hby hzs hsz v n xs hs hown x m news hy hx h1 h63 hbytes hbase λv' w' h2 h3 h4=>hK _ _ (h v' w' h2 h3 h4)
end
def OI(a b:Int):Int:=bits .or .u64 a b
def QV(p:Int):Int:=IntKind.u64.wrap (2^p.toNat)
def ed(R:List Int):Int->List Int->Int
 |s,[]=>s
 |s,p::l=>ed R (OI (OI s (QV p)) (R.getD p.toNat 0)) l
theorem mO(R:List Int):∀(l:List Int)(s p:Int),ed R s (l++[p])=OI (OI (ed R s l) (QV p)) (R.getD p.toNat 0)
 |[],_,_=>rfl
 |x::l,s,p=>mO R l _ p
def bS:List Int->List (List Int)->List Int
 |R,[]=>R
 |R,l::ls=>bS (R++[ed R 0 l]) ls
theorem oC:∀(ls:List (List Int)) (R:List Int) (l:List Int),bS R (ls++[l])=bS R ls++[ed (bS R ls) 0 l]
 |[],_,_=>rfl
 |x::ls,R,l=>oC ls _ l
theorem lV:∀(ls:List (List Int)) (R:List Int),(bS R ls).length=R.length+ls.length
 |[],_=>rfl
 |x::ls,R=>by
  show(bS (R++[ed R 0 x]) ls).length=_
  rw[lV ls];simp;omega
theorem Kh:(prog.info? 193).map (λi=>(i.zero,i.size,i.bytes))=some (some (.int .u64 0),1,8):=by kernel_rfl
theorem Kg:(prog.info? 192).map (λi=>(i.zero,i.size,i.bytes))=some (some (.slice none 0 0),1,24):=by kernel_rfl
theorem Gv{w:World}{base:Nat}{e:TypeId}{size:Nat}{v:Value}{n:Nat}{xs:List Value}(h:w.ownsRow base e size v n xs){b:Nat}(hb:v.ownBlock=some b):b<w.heap.size:=by
 obtain⟨_,⟨rfl,rfl⟩|⟨g,cap,cur,rfl,_,hg,_⟩⟩:=h
 ·cases hb
 ·cases hb;exact lt_of_block hg
theorem wL{w:World}{base:Nat}{e:TypeId}{v:Value}{n:Nat}{xs:List Value}(h:w.ownsRow base e 1 v n xs)(hn:0<n):∃g cap,v=.slice (some ⟨g,0,none⟩) n cap/\∀(j:Nat)(u:Value),xs[j]? =some u->w.cell? ⟨g,j,none⟩=some u:=by
 obtain⟨_,⟨rfl,rfl⟩|⟨g,cap,cur,rfl,_,hg,_,_,_,hx⟩⟩:=h
 ·cases hn
 ·refine⟨g,cap,rfl,λj u hj=>?_⟩
  exact Us92
structure oK(w wr:World)(g:Nat)(v:Value)(vs:List Value)(R:List Int):Prop where
 bx:af wr g #[v] 190
 ln:vs.length=R.length
 Sq:wr.ownsRow 0 192 1 v R.length vs
 rows:∀i (hi:i<R.length),∃q,vs[i]? =some (.slice (some ⟨q,0,none⟩) 1 1)/\af wr q #[.int .u64 R[i]] 193 /\w.heap.size<=q
 B:Below w.heap.size w wr
 lg:w.heap.size<=g
 lv:∀b,v.ownBlock=some b->w.heap.size<=b
theorem oK.kept{S:Nat->Prop}{w wr w2:World}{g:Nat}{v:Value}{vs:List Value}{R:List Int}(h:oK w wr g v vs R)(k:Kept S wr w2)(hg:¬S g)(hv:∀b,v.ownBlock=some b->¬S b)(hs:∀b cs,S b->af wr b cs 193 ->wr.heap.size<=b)(hB:∀b,S b->w.heap.size<=b):oK w w2 g v vs R:=by
 have O:Own wr 192 1 (λx:Value=>[x]) v vs:=by unfold Own;rw[h.ln];simpa using h.Sq
 have O2:=O.kept k hv;refine⟨k.blk h.bx hg,h.ln,?_,λi hi=>?_,h.B.trans (k.below hB (by have:=h.bx.lt;have:=h.lg;omega)),h.lg,h.lv⟩
 ·unfold Own at O2
  rw[h.ln]at O2
  simpa using O2
 ·obtain⟨q,e,b,l⟩:=h.rows i hi
  exact⟨q,e,k.blk b (λz=>by have:=hs q _ z b;have:=b.lt;omega),l⟩
theorem oK.mid{w wr w2:World}{g:Nat}{v:Value}{vs:List Value}{R:List Int}{u:Value}(C:oK w wr g v vs R)(hg:(wr.alloc (.cells #[u] 192)).grownBy w2 v.ownBlock):af w2 g #[v] 190 :=by
 have B1:Below wr.heap.size wr (wr.alloc (.cells #[u] 192)):=Ba _;have O:Own wr 192 1 (λx:Value=>[x]) v vs:=by unfold Own;rw[C.ln];simpa using C.Sq
 exact(Kept.grown hg).blk (C.bx.alloc _) (λz=>O.ne C.bx U0 z)
theorem oK.snoc{w wr w2:World}{g q:Nat}{v v':Value}{vs:List Value}{R:List Int}{s:Int}(C:oK w wr g v vs R)(z:af wr q #[.int .u64 s] 193)(hq:w.heap.size<=q)
  (ho:w2.ownsRow 0 192 1 v' (R.length+1) (vs++[.slice (some ⟨q,0,none⟩) 1 1])) (hg:(wr.alloc (.cells #[.slice (some ⟨q,0,none⟩) 1 1] 192)).grownBy w2 v.ownBlock) (ha:v'.ownBlock=v.ownBlock∨v'.ownBlock=some (wr.alloc (.cells #[.slice (some ⟨q,0,none⟩) 1 1] 192)).heap.size):
  oK w (w2.setCell ⟨g,0,none⟩ v') g v' (vs++[.slice (some ⟨q,0,none⟩) 1 1]) (R++[s]):=by
 have mid:=C.mid hg;have O:Own wr 192 1 (λx:Value=>[x]) v vs:=by unfold Own;rw[C.ln];simpa using C.Sq
 have K:=Kept.grown hg;have far:∀{b:Nat} {x:Int},af wr b #[.int .u64 x] 193 ->af (w2.setCell ⟨g,0,none⟩ v') b #[.int .u64 x] 193 :=λy=>by
  have y2:=K.blk (y.alloc _) (λe=>O.ne y U0 e)
  exact y2.far (λe=>by subst e;have:=mid;have y3:=y2;unfold af at y3 this;rw[this]at y3;simp at y3) _
 have O2:Own w2 192 1 (λx:Value=>[x]) v' (vs++[.slice (some ⟨q,0,none⟩) 1 1]):=by unfold Own;rw[List.length_append,C.ln];simpa using ho
 have K1:=Kept.one w2 g 0 v';have O3:=O2.kept K1 (λb e z=>O2.ne mid U0 (z▸e));have lg:g<wr.heap.size:=C.bx.lt;refine⟨mid.set 0 v',by simp[C.ln],?_,λi hi=>?_,?_,C.lg,λb e=>?_⟩
 ·unfold Own at O3
  rw[List.length_append,C.ln]at O3;rw[List.length_append]
  simpa using O3
 ·by_cases h:i<R.length
  ·obtain⟨p,e1,e2,e3⟩:=C.rows i h
   refine⟨p,?_,?_,e3⟩
   ·rw[List.getElem?_append_left (by rw[C.ln];exact h)];exact e1
   ·rw[List.getElem_append_left h];exact far e2
  ·have e:i=R.length:=by simp at hi;omega
   subst e;refine⟨q,?_,?_,hq⟩
   ·rw[List.getElem?_append_right (by rw[C.ln];exact Nat.le_refl _),C.ln,Nat.sub_self];rfl
   ·rw[List.getElem_append_right nr];simpa using far z
 ·have B1:Below w.heap.size w (wr.alloc (.cells #[.slice (some ⟨q,0,none⟩) 1 1] 192)):=C.B.alloc (by have:=C.lg;omega) _
  exact(B1.trans (K.below (λk z=>C.lv k z) B1.size)).setCell C.lg _
 ·rcases ha with z|z
  ·exact C.lv b (z▸e)
  ·rw[z]at e
   cases e
   have:=C.lg
   simp;omega
theorem KS(w:World)(v:Value)(ls:List (List Int))(h:dR w v ls)(hn:ls.length<=64)(hp:0<ls.length)(hg:vU ls):Calls prog 70 #[v] w λev w'=>∃r,ev=.returned (.tuple #[.pointer (some ⟨r,0,none⟩),(0:Int)])/\iq w' r (bS [] ls)/\Below w.heap.size w w':=by
 obtain⟨A,cap,rfl⟩:=h.form;obtain⟨i0,hi,hz0,hz1,hz2⟩:=info_parts Kh;obtain⟨i1,hj,hy0,hy1,hy2⟩:=info_parts Kg;have c1:=Hd (Cz w _ ls h hn hg);have H:=Hd h;have G:=Hd hg;have lenR:=Hd (λls=>lV ls []);clear h hg;have hmk:∀w,(Instr.makeSlice 192 (.int .i64 1) (.int .i64 1)).run prog w=.ok (.slice (some ⟨w.heap.size,0,none⟩) 1 1) (w.alloc (.cells #[.int .u64 0] 193)):=λw=>by
  have q:=run_makeSlice (P:= prog) (w:=w) 192 193 i0 _ underlying192 hi hz0 .i64 .i64 1 1 U2 (Int.le_refl _) (by rw[hz1];omega) U102 U2;rw[q,hz1];have mk:madeCells (Value.int .u64 0).cells ((1:Int).toNat*1)= #[.int .u64 0]:=by apply Array.ext';simp[madeCells,List.range_succ,Value.cells]
  rw[mk];rfl
 go_enter func70,ntmps70
 go_wp2_with (go_at_call 109;refine c1.o.r ?_)
 have BX:=af.new w #[.slice none 0 0] 190 _ rfl;have B0:Below w.heap.size w (w.alloc (.cells #[.slice none 0 0] 190)):=Ba _;have S0:oK w (w.alloc (.cells #[.slice none 0 0] 190)) w.heap.size (.slice none 0 0) [] []:=⟨BX,rfl,World.ownsRow_nil _ _ _ _,λi hi=>absurd hi U8,B0,Nat.le_refl _,λb e=>by cases e⟩;clear BX B0;generalize w.alloc (.cells #[.slice none 0 0] 190)=W at*;generalize hg:w.heap.size=g at*
 go_loopw [22] (λi wr=>∃(k:Nat) (v:Value) (vs:List Value),k<=ls.length/\i=.int .i64 k/\oK w wr g v vs (bS [] (ls.take k))) (λi _=>ls.length-(intOf i).toNat)
 case atStart=>exact⟨0,_,[],n0 _,rfl,S0⟩
 case round=>
  obtain⟨k,v,vs,hk,rfl,C⟩:=hrel
  by_cases hlt:k<ls.length
  ·have hw:wrap64 ((k:Int)+1)=((k+1:Nat):Int):=Ay hlt U2
   have hlt':(k:Int)<(ls.length:Int):=Au hlt;obtain⟨b,o,rfl,hb,A',c',q1,q2⟩:=H.o.at_ k hlt;have q1:wr.cell? ⟨b,o+k,none⟩=some (.slice A' ls[k].length c'):=kb C.B (by show b<_;exact hb) q1;obtain⟨g1,g2⟩:=G.out k hlt;have e0:(k:Int).tdiv 64=0:=by rw[Int.tdiv_eq_ediv_of_nonneg U2];omega
   have Q:=Hd q2;have G2:=Hd g2;have C0:=Hd C;have TK:bS [] (ls.take (k+1))=bS [] (ls.take k)++[ed (bS [] (ls.take k)) 0 ls[k]]:=by rw[List.take_add_one,List.getElem?_eq_getElem hlt];exact oC _ _ _
   have TK:=Hd TK;have RL:=Hd (show(bS [] (ls.take k)).length=k by rw[lenR.out,List.length_take];simp;omega);clear q2 g2 C;generalize hX:ls[k]=l at*;clear hX;generalize bS [] (ls.take k)=R at*;go_wp2_with fail;have y0:=af.new wr #[.int .u64 0] 193 _ rfl;have Y0:=Kept.ob (S:=One wr.heap.size) ((Below.refl wr.heap.size wr).alloc nr (.cells #[.int .u64 0] 193));generalize hq:wr.heap.size=q at*;generalize wr.alloc (.cells #[.int .u64 0] 193)=W1 at*
   go_loopw [33] (λi wi=>∃j:Nat,j<=l.length/\i=.int .i64 j/\af wi q #[.int .u64 (ed R 0 (l.take j))] 193 /\Kept (One q) wr wi) (λi _=>l.length-(intOf i).toNat)
   case atStart=>exact⟨0,n0 _,rfl,y0,Y0⟩
   case round=>
    obtain⟨j,hj,rfl,z0,Z0⟩:=hrel
    by_cases hlt2:j<l.length
    ·have hw2:wrap64 ((j:Int)+1)=((j+1:Nat):Int):=Ay hlt2 U2
     have hlt2':(j:Int)<(l.length:Int):=Au hlt2;have c0:=C0.out.bx.lt;have c2:=C0.out.lg;have BZ:Below w.heap.size w wr:=C0.out.B.trans (Z0.below (λk e=>by have e:k=q:=e;omega) U2);clear c0 c2;obtain⟨b2,o2,rfl,hb2,r1⟩:=Q.out.at_ j hlt2;have r1:wr.cell? ⟨b2,o2+j,none⟩=some (.int .i64 l[j]):=kb BZ hb2 r1;obtain⟨p1,p2⟩:=G2.out j hlt2;have RS0:ed R 0 (l.take (j+1))=OI (OI (ed R 0 (l.take j)) (QV l[j])) (R.getD l[j].toNat 0):=by rw[List.take_add_one,List.getElem?_eq_getElem hlt2];exact mO _ _ _ _
     have RS:=Hd RS0;clear RS0;have M2:=Hd (Aw hlt2);have K2:j+1<=l.length:=hlt2;have zc:=z0.c0;have zf:=z0.fz 0;have e1:l[j].tdiv 64=0:=by rw[Int.tdiv_eq_ediv_of_nonneg p1];omega
     have e2:l[j].tmod 64=l[j]:=by rw[Int.tmod_eq_emod_of_nonneg p1];omega
     have CK:=Hd (λ(w2:World) (K:Kept (One q) wr w2)=>(show oK w w2 g v vs R from C0.out.kept (Z0.trans K) (λe=>by have e:g=q:=e;have:=C0.out.bx.lt;omega) (λb e x=>by have x:b=q:=x;have:=Gv C0.out.Sq e;omega) (λb cs e _=>by have e:b=q:=e;omega) (λb e=>by have e:b=q:=e;have:=C0.out.bx.lt;have:=C0.out.lg;omega)));have ZK:=Hd (λ(w2:World) (K:Kept (One q) wr w2)=>Z0.trans K);clear BZ;generalize ed R 0 (l.take j)=s at*;generalize hp:l[j]=p at*;clear hp;go_upto_region 12 with fail
     go_region
     all_goals
      have z1:=(z0.set 0 (.int .u64 (bits BinOp.or IntKind.u64 s (IntKind.u64.wrap (2^p.toNat))))).drew;have K1:=((Kept.one wr q 0 (.int .u64 (bits BinOp.or IntKind.u64 s (IntKind.u64.wrap (2^p.toNat))))).drew);generalize(wr.setCell ⟨q,0,none⟩ (.int .u64 (bits BinOp.or IntKind.u64 s (IntKind.u64.wrap (2^p.toNat))))).drew=W2 at*;have E5:=Hd (show OI s (QV p)=bits BinOp.or IntKind.u64 s (IntKind.u64.wrap (2^p.toNat))from rfl);replace z1:af W2 q #[.int .u64 (bits BinOp.or IntKind.u64 s (IntKind.u64.wrap (2^p.toNat)))] 193 :=z1;generalize bits BinOp.or IntKind.u64 s (IntKind.u64.wrap (2^p.toNat))=s1 at*;generalize IntKind.u64.wrap (2^p.toNat)=sh at*;have C2:=CK.out _ K1;have pk:p.toNat<R.length:=by rw[RL.out];omega
      have gx:=C2.bx.c0;obtain⟨gv,cv,rfl,hcv⟩:=wL C2.Sq U2;obtain⟨qp,e3,e4,e5⟩:=C2.rows p.toNat pk;have h1:=hcv _ _ e3;have h2:=e4.c0;have h3:=z1.c0;have h4:=z1.fz 0;have p3:p<R.length:=by omega
      clear hcv e3 e4;have rpE:R.getD p.toNat 0=R[p.toNat]:=by simp[List.getD,pk]
      rw[rpE]at RS;generalize R[p.toNat]=rp at*;clear rpE;go_wp2_with fail
      go_loopw [55] (λi wi=>(i=.int .i64 0/\wi=W2)∨(i=.int .i64 1/\wi=W2.setCell ⟨q,0,none⟩ (.int .u64 (bits BinOp.or IntKind.u64 s1 rp)))) (λi _=>1-(intOf i).toNat)
      case atStart=>exact Or.inl ⟨rfl,rfl⟩
      case round=>
       rcases hrel with⟨rfl,rfl⟩|⟨rfl,rfl⟩
       ·go_wp2_with fail
        go_roundw
        case rel=>exact Or.inr ⟨rfl,trivial⟩
        case measure=>decide
       ·clear h1 h2 h3 h4
        go_upto_region 18 with fail;clear hlt hlt2 g1 hj hk hn;go_wp2_with fail
        go_roundw
        case rel=>
         refine⟨j+1,K2,by rw[hw2],?_,?_⟩
         ·have e:=z1.set 0 (.int .u64 (bits BinOp.or IntKind.u64 s1 rp))
          rw[RS.out,E5.out]
          exact e
         ·exact ZK.out _ (K1.set (p:=⟨q,0,none⟩) (Or.inl rfl) _)
        case measure=>rw[hw2];exact M2.out
    ·obtain rfl:j=l.length:=Nat.le_antisymm hj (Nat.le_of_not_lt hlt2)
     have hge:¬((l.length:Int)<(l.length:Int)):=Int.lt_irrefl _;have C2:oK w wr g v vs R:=C0.out.kept Z0 (λe=>by have e:g=q:=e;have:=C0.out.bx.lt;omega) (λb e x=>by have x:b=q:=x;have:=Gv C0.out.Sq e;omega) (λb cs e _=>by have e:b=q:=e;omega) (λb e=>by have e:b=q:=e;have:=C0.out.bx.lt;have:=C0.out.lg;omega);have lq:w.heap.size<=q:=by have:=C0.out.bx.lt;have:=C0.out.lg;omega
     rw[List.take_length]at z0;have TK2:=TK.out;have M:=Hd (Aw hlt);have K1:k+1<=ls.length:=hlt;generalize ed R 0 l=s at*;obtain⟨Av,cv,rfl⟩:=ownsRow_form C2.Sq;have gx:(wr.alloc (.cells #[.slice (some ⟨q,0,none⟩) 1 1] 192)).cell? ⟨g,0,none⟩=some (.slice Av R.length cv):=kc (C2.bx.cell 0);have gx0:=C2.bx.c0;have hO:=C2.Sq.alloc (.cells #[.slice (some ⟨q,0,none⟩) 1 1] 192);have HO:=Hd hO;have C2:=Hd C2;have TK2:=Hd TK2;have SR:=Hd (pE wr (.slice (some ⟨q,0,none⟩) 1 1) 192);have rl:R.length+1<=65:=by rw[RL.out];omega
     have mx:R.length+1<=maxLen:=by unfold maxLen;omega
     have by24:(R.length+1)*24<=140737488355328:=by omega
     clear g1 hj hk hn hlt hlt2 Q TK C0 hO rl
     go_wp2_with (at_builtin;refine bB _ rfl _ _ 188 rfl 0 192 i1 _ 1 24 underlying188 U6 hy0 hy1 hy2 rfl U0 (.slice Av R.length cv) R.length vs rfl HO.o _ 1 [.slice (some ⟨q,0,none⟩) 1 1] rfl SR.out U17 mx by24 (n0 _) ?_;intro v2 w2 hown2 hgrow2 hat2;have y1:=(C2.out.mid hgrow2).fz 0;have y2:w2.cell? ⟨g,0,none⟩=some (.slice Av R.length cv):=(C2.out.mid hgrow2).cell 0;have SN:=Hd (C2.out.snoc z0 lq hown2 hgrow2 hat2);clear hat2 hgrow2;obtain⟨A2,c2,rfl⟩:=ownsRow_form hown2;clear hown2)
     go_roundw
     case rel=>exact⟨k+1,_,_,K1,by rw[hw],by rw[TK2.out];exact SN.out⟩
     case measure=>rw[hw];exact M.out
  ·obtain rfl:k=ls.length:=Nat.le_antisymm hk (Nat.le_of_not_lt hlt)
   have hge:¬((ls.length:Int)<(ls.length:Int)):=Int.lt_irrefl _;have C0:=Hd C;clear C H G c1 hk hlt;go_wp2_with fail;have C1:=C0.out;rw[List.take_length]at C1;have e:=lenR.out ls;obtain⟨gv,cap',rfl,hc⟩:=wL C1.Sq (by rw[e];simpa using hp);refine bodyPost_ret (v:=.tuple #[.pointer (some ⟨g,0,none⟩),(0:Int)]) (by simp[results,results70,go_sem]) rfl ?_;refine⟨g,rfl,⟨gv,cap',C1.bx,λi hi=>?_⟩,by rw[<-hg];exact C1.B⟩;obtain⟨q,e1,e2,_⟩:=C1.rows i hi
   exact⟨q,1,hc _ _ e1,e2.cell 0⟩
end
end Go.Proofs.YteiignfflbmafaaGreat.Tp
