/- TopOne, part 23. -/
import Derived.Test.YteiignfflbmafaaGreatQ20
import Derived.Test.YteiignfflbmafaaGreatQ21
set_option linter.unusedVariables false
set_option linter.unusedSimpArgs false
set_option maxRecDepth 100000
set_option maxHeartbeats 8000000
namespace Go.Proofs.YteiignfflbmafaaGreat.Tp
open Go.Proofs.Tryz
open Go.RowKit Go.Proofs.YteiignfflbmafaaGreat.Tok
theorem Us62 {p:Prop} (h:p:=by
 go_ret
 exact⟨⟨3,rfl,iff_of_false U0 N.out⟩,by first|exact HB3.o|(rw[hg];exact HB3.o)⟩):p:=h
def Du(ev:Ending)(p:Prop):Prop:=∃e:Int,ev=.returned ↑e/\(e=0↔p)
theorem ul{n a b:Int}(hab:a<=b):jc n a b=n↔a<=n/\n<=b:=by unfold jc;omega
theorem yQ(p:Pl)(w:World):
  Calls prog 43 #[.agg #[p.wk,p.fr,p.th,p.dq]] w λe w'=>Du e p.ok/\Below w.heap.size w w':=by
 obtain⟨a,b,c,d⟩:=p;have E1:=Hd (show(a=jc a 1 64/\b=jc b 1 256/\c=jc c 1 64/\d=jc d 2 256)↔(⟨a,b,c,d⟩:Pl).ok from by
  unfold Pl.ok;rw[@eq_comm _ a,@eq_comm _ b,@eq_comm _ c,@eq_comm _ d,ul U0,ul U0,ul U0,ul U0])
 have c1:=Hd (λw=>bK a 1 64 w);have c2:=Hd (λw=>bK b 1 256 w);have c3:=Hd (λw=>bK c 1 64 w);have c4:=Hd (λw=>bK d 2 256 w);dsimp only;generalize jc a 1 64=a' at*;generalize jc b 1 256=b' at*;generalize jc c 1 64=c' at*;generalize jc d 2 256=d' at*;go_enter func43,ntmps43;go_upto_region 1 with fail;generalize hW:w.alloc (.cells #[a,b,c,d] 89)=W;generalize hg:w.heap.size=g;have x0:=rA hW hg;have x1:=rC hW hg;have x2:=rD hW hg;have x3:=rE hW hg;have l0:=ry hW hg;have BW:=ru hW;clear hW hg
 go_cut [3] (λs3 wx=>∃q,s3=.pointer (some ⟨q,0,none⟩)/\af wx q #[a',b',c',d'] 89 /\Below W.heap.size W wx)
 case first=>
  exact Us18
 case rest=>
  obtain⟨q,rfl,hq,hb⟩:=hcut;have y0:=kb hb l0 x0;have y1:=kb hb l0 x1;have y2:=kb hb l0 x2;have y3:=kb hb l0 x3;have z0:=hq.c0;have z1:=hq.c1;have z2:=hq.c2;have z3:=hq.c3;have BE:=BW.trans (hb.mono BW.size);clear hq hb BW l0 c1 c2 c3 c4 x0 x1 x2 x3;go_wp2_with fail
  all_goals go_ret
  all_goals clear y0 y1 y2 y3 z0 z1 z2 z3
  all_goals first|(refine⟨⟨0,rfl,?_⟩,BE⟩;rw[<-E1.out];simp_all;done)|(refine⟨⟨3,rfl,?_⟩,BE⟩;rw[<-E1.out];simp_all;done)
theorem aP.form{w:World}{v:Value}{code:List (List Is)}(h:aP w v code):∃A cap,v=.slice A code.length cap:=by
 obtain⟨A,c,e,_⟩:=h
 exact⟨A,c,e⟩
def eX(M:Int)(code:List (List Is))(n:Nat)(p:Pl)(aj:Int):Prop:=iY M code=0/\p.ok/\0<=aj/\aj<=1000/\(n:Int)<=M
abbrev gU(p:Pl)(aj:Int)(fold lazy:Bool):Value:=.agg #[p.wk,p.th,p.fr,p.dq,aj,.bool fold,.bool lazy]
theorem sH(w:World)(M:Int)(fv:Value)(code:List (List Is))(h:aP w fv code)(A:Option Addr)(n cap:Nat)(p:Pl)(aj:Int)(fold lazy:Bool):
  Calls prog 77 #[.agg #[M,fv],.slice A n cap,gU p aj fold lazy] w λev w'=>Du ev (eX M code n p aj)/\Below w.heap.size w w':=by
 obtain⟨FA,Su,rfl⟩:=h.form;have c1:=Hd (λw h=>oz w M (.slice FA code.length Su) code h);have c2:=Hd (λw=>nG p.wk p.th p.fr p.dq aj fold lazy w);have c3:=Hd (λw=>yQ p w);have bp:=af.new w #[M,.slice FA code.length Su] 24 _ rfl;have bq:=af.new (w.alloc (.cells #[M,.slice FA code.length Su] 24)) #[p.wk,p.th,p.fr,p.dq,aj,.bool fold,.bool lazy] 27 _ rfl;have bp:=bp.alloc (.cells #[p.wk,p.th,p.fr,p.dq,aj,.bool fold,.bool lazy] 27);have B0:Below w.heap.size w ((w.alloc (.cells #[M,.slice FA code.length Su] 24)).alloc (.cells #[p.wk,p.th,p.fr,p.dq,aj,.bool fold,.bool lazy] 27)):=(Ba _).alloc U8 _;have C1:=Hd (c1.o _ (h.ai B0));simp only[World.size_alloc]at bp bq;clear c1 h;go_enter func77,ntmps77;go_upto_region 1 with fail;generalize((w.alloc (.cells #[M,.slice FA code.length Su] 24)).alloc (.cells #[p.wk,p.th,p.fr,p.dq,aj,.bool fold,.bool lazy] 27))=W at*;generalize hg:w.heap.size=g at*;have x0:=bp.c0;have x1:=bp.c1;have FQ:=Hd (λw (h:af w (g+1) #[p.wk,p.th,p.fr,p.dq,aj,.bool fold,.bool lazy] 27)=>(⟨h.cell 0,h.cell 1,h.cell 2,h.cell 3,h.cell 4,h.cell 5,h.cell 6⟩:w.cell? ⟨g+1,0,none⟩=some ↑p.wk/\w.cell? ⟨g+1,1,none⟩=some ↑p.th/\w.cell? ⟨g+1,2,none⟩=some ↑p.fr/\w.cell? ⟨g+1,3,none⟩=some ↑p.dq/\w.cell? ⟨g+1,4,none⟩=some ↑aj/\w.cell? ⟨g+1,5,none⟩=some (.bool fold)/\w.cell? ⟨g+1,6,none⟩=some (.bool lazy)));have FP:=Hd (λw (h:af w g #[M,.slice FA code.length Su] 24)=>(h.cell 0:w.cell? ⟨g,0,none⟩=some ↑M))
 have HP:=Hd bp;have HQ:=Hd bq;have HB:=Hd B0;have LG:=Hd bp.lt;clear bp bq B0
 by_cases e0:iY M code=0
 case neg=>
  have N:=Hd (show¬eX M code n p aj from λz=>e0 z.1);generalize iY M code=e at*
  go_wp2_with (go_at_call 112;refine C1.out.q λw1 Sr=> ?_)
  go_ret
  exact⟨⟨e,rfl,iff_of_false e0 N.out⟩,by first|exact HB.o.trans (Sr.mono (Nat.le_of_lt LG.out))|(rw[hg];exact HB.o.trans (Sr.mono (Nat.le_of_lt LG.out)))⟩
 rw[e0]at C1
 go_upto_region 4 with(go_at_call 112;refine C1.out.q λw1 Sr=> ?_)
 have HP1:=Hd (HP.o.below Sr HP.o.lt);have HQ1:=Hd (HQ.o.below Sr HQ.o.lt);have HB1:=Hd (HB.o.trans (Sr.mono (Nat.le_of_lt LG.out)));have LG1:=Hd HP1.o.lt;clear Sr x0 x1 HP HQ HB LG C1;obtain⟨y0,y1,y2,y3,y4,y5,y6⟩:=FQ.out _ HQ1.o
 by_cases hp:p.ok
 case neg=>
  have N:=Hd (show¬eX M code n p aj from λz=>hp z.2.1)
  go_wp2_with (first|(go_at_call 79;refine(c2.o _).q λw2 hb2=> ?_;have HB2:=Hd (HB1.o.trans (hb2.mono (Nat.le_of_lt LG1.out)));have HP2:=Hd (HP1.o.below hb2 HP1.o.lt);have HQ2:=Hd (HQ1.o.below hb2 HQ1.o.lt);clear hb2)|(go_at_call 43;refine(c3.o _).mono ?_;rintro ev w3 ⟨⟨e,rfl,he⟩,hb3⟩;have ne:¬e=0:=λz=>hp (he.1 z);have HB3:=Hd (HB2.o.trans (hb3.mono (Nat.le_of_lt HP2.o.lt)));have HP3:=Hd (HP2.o.below hb3 HP2.o.lt);have HQ3:=Hd (HQ2.o.below hb3 HQ2.o.lt);clear hb3))
  exact Us62
 have C3:Hid (∀w,Cs 43 #[.agg #[p.wk,p.fr,p.th,p.dq]] w (.int .i64 0) λw'=>Below w.heap.size w w'):=Hd (λw=>(c3.o w).mono (λev w' ⟨⟨e,h1,h2⟩,h3⟩=>⟨by rw[h1,h2.2 hp],h3⟩));clear c3
 go_upto_region 5 with(first|(go_at_call 79;refine(c2.o _).q λw2 hb2=> ?_;have HB2:=Hd (HB1.o.trans (hb2.mono (Nat.le_of_lt LG1.out)));have HP2:=Hd (HP1.o.below hb2 HP1.o.lt);have HQ2:=Hd (HQ1.o.below hb2 HQ1.o.lt);clear hb2)|(go_at_call 43;refine(C3.out _).q λw3 hb3=> ?_;have HB3:=Hd (HB2.o.trans (hb3.mono (Nat.le_of_lt HP2.o.lt)));have HP3:=Hd (HP2.o.below hb3 HP2.o.lt);have HQ3:=Hd (HQ2.o.below hb3 HQ2.o.lt);clear hb3))
 obtain⟨z0,z1,z2,z3,z4,z5,z6⟩:=FQ.out _ HQ3.o;have x0:=HP3.o.c0;clear y0 y1 y2 y3 y4 y5 y6 z0 z1 z2 z3 z5 z6
 by_cases o1:aj<0
 ·have N:=Hd (show¬eX M code n p aj from λz=>by have:=z.2.2.1;omega)
  go_wp2_with fail
  exact Us62
 by_cases o2:1000<aj
 ·have N:=Hd (show¬eX M code n p aj from λz=>by have:=z.2.2.2.1;omega)
  go_wp2_with fail
  exact Us62
 by_cases o3:M<(n:Int)
 ·have N:=Hd (show¬eX M code n p aj from λz=>by have:=z.2.2.2.2;omega)
  go_wp2_with fail
  go_ret
  exact⟨⟨9,rfl,iff_of_false U0 N.out⟩,by first|exact HB3.o|(rw[hg];exact HB3.o)⟩
 have N:=Hd (show eX M code n p aj from⟨e0,hp,by omega,by omega,by omega⟩);go_wp2_with fail
 go_ret
 exact⟨⟨0,rfl,iff_of_true rfl N.out⟩,by first|exact HB3.o|(rw[hg];exact HB3.o)⟩
theorem Us107 {p:Prop} (h:p:=by
 have:=q.type q'
 subst this
 rcases e with e|e|e
 ·exact n1 e
 ·exact n2 e
 ·exact n3 e):p:=h
theorem gW{S:Nat->Prop}{w w':World}{base:Nat}{e:TypeId}{n:Nat}{v:Value}{m:Nat}{xs:List Value}(h:w.ownsRow base e n v m xs)(k:Kept S w w')(hs:∀b cs,v.ownBlock=some b->af w b cs e->¬S b):w'.ownsRow base e n v m xs:=by
 obtain⟨h1,h2⟩:=h;refine⟨h1,?_⟩
 rcases h2 with h2|⟨g,cap,cur,rfl,hb,hg,r⟩
 ·exact .inl h2
 ·exact .inr ⟨g,cap,cur,rfl,hb,(k.block g (lt_of_block hg) (hs g _ rfl hg)).trans hg,r⟩
theorem dY{w:World}{base:Nat}{e:TypeId}{n:Nat}{v:Value}{m:Nat}{xs:List Value}(h:w.ownsRow base e n v m xs){b:Nat}(hb:v.ownBlock=some b):base<=b/\∃cs,af w b cs e:=by
 obtain⟨h1,⟨rfl,_⟩|⟨g,cap,cur,rfl,hl,hg,r⟩⟩:=h
 ·cases hb
 ·cases hb;exact⟨hl,cur,hg⟩
theorem Gu{w:World}{base base':Nat}{e:TypeId}{n:Nat}{v:Value}{m:Nat}{xs:List Value}(h:w.ownsRow base e n v m xs)(hb:base'<=base):w.ownsRow base' e n v m xs:=by
 obtain⟨h1,h2|⟨g,cap,cur,e',hl,r⟩⟩:=h
 ·exact⟨h1,.inl h2⟩
 ·exact⟨h1,.inr ⟨g,cap,cur,e',nT hb hl,r⟩⟩
structure mr(B:Nat)(w:World)(v:Value)(vs:List Value)(code:List (List Is)):Prop where
 t1:vs.length=code.length
 t2:w.ownsRow B 107 1 v code.length vs
 t3:∀(i:Nat)(v':Value)(x:List Is),vs[i]? =some v'->code[i]? =some x->w.ownsRow B 109 4 v' x.length (x.flatMap Is.cells)
theorem mr.kept{S:Nat->Prop}{B:Nat}{w w':World}{v:Value}{vs:List Value}{code:List (List Is)}(h:mr B w v vs code)(k:Kept S w w')(hs:∀b cs t,af w b cs t->(t= 107 ∨t= 109)->¬S b):mr B w' v vs code:=
 ⟨h.t1,gW h.t2 k (λb cs e q=>hs b cs _ q (Or.inl rfl)),λi v' x a b=>gW (h.t3 i v' x a b) k (λb cs e q=>hs b cs _ q (Or.inr rfl))⟩
theorem mr.snoc{B:Nat}{w2 w3:World}{v v1 v2:Value}{vs:List Value}{code:List (List Is)}{l:List Is}(h:mr B w2 v vs code)(hi:w2.ownsRow B 109 4 v1 l.length (l.flatMap Is.cells))
  (ho:w3.ownsRow B 107 1 v2 (code.length+1) (vs++[v1])) (hg:(w2.alloc (.cells #[v1] 107)).grownBy w3 v.ownBlock):mr B w3 v2 (vs++[v1]) (code++[l]):=by
 have B1:Below w2.heap.size w2 (w2.alloc (.cells #[v1] 107)):=Ba _;have h1:=h.kept (Kept.ob (S:=None) B1) (λ_ _ _ _ _ z=>z);have hi1:=gW hi (Kept.ob (S:=None) B1) (λ_ _ _ _ z=>z);have K:=Kept.grown hg;have far:∀{u:Value} {m:Nat} {xs:List Value},(w2.alloc (.cells #[v1] 107)).ownsRow B 109 4 u m xs->w3.ownsRow B 109 4 u m xs:=λq=>gW q K (λb cs e z y=>by
  obtain⟨_,cs',t⟩:=dY h1.t2 y
  have:=z.type t
  exact absurd this U0)
 refine⟨by simp[h.t1],by rw[List.length_append];exact ho,λi u x a b=>?_⟩
 by_cases q:i<vs.length
 ·rw[List.getElem?_append_left q]at a
  rw[List.getElem?_append_left (by rw[<-h.t1];exact q)]at b
  exact far (h1.t3 i u x a b)
 ·by_cases e:i=vs.length
  ·subst e
   rw[List.getElem?_append_right nr,Nat.sub_self]at a;rw[h.t1,List.getElem?_append_right nr,Nat.sub_self]at b
   cases a;cases b
   exact far hi1
  ·rw[List.getElem?_eq_none U41]at a
   cases a
structure NB(w wr:World)(gp gq ws wd ds dd o g:Nat)(M:Int)(fv:Value)(p:Pl)(aj:Int)(fold lazy:Bool)(D:List Int):Prop where
 pp:af wr gp #[M,fv] 24
 pq:af wr gq #[p.wk,p.th,p.fr,p.dq,aj,.bool fold,.bool lazy] 27
 RY:aD wr ws wd (List.replicate p.size.toNat 0)
 data:aD wr ds dd D
 sink:af wr o #[.slice none 0 0,aj] 138
 log:af wr g #[.slice none 0 0] 186
 ns:ws≠ds
 nd:wd≠dd
 B:Below w.heap.size w wr
 l1:w.heap.size<=ws/\w.heap.size<=wd/\w.heap.size<=ds/\w.heap.size<=dd/\w.heap.size<=o/\w.heap.size<=g
theorem NB.kept{S:Nat->Prop}{w wr w2:World}{gp gq ws wd ds dd o g:Nat}{M:Int}{fv:Value}{p:Pl}{aj:Int}{fold lazy:Bool}{D:List Int}(h:NB w wr gp gq ws wd ds dd o g M fv p aj fold lazy D)(k:Kept S wr w2)
  (hs:∀b,S b->∃cs t,af wr b cs t/\(t= 107 ∨t= 135 ∨t= 145)) (hB:∀b,S b->w.heap.size<=b):NB w w2 gp gq ws wd ds dd o g M fv p aj fold lazy D:=by
 have far:∀{b:Nat} {cs:Array Value} {t:TypeId},af wr b cs t->t≠ 107 ->t≠ 135 ->t≠ 145 ->¬S b:=λq n1 n2 n3 z=>by
  obtain⟨cs',t',q',e⟩:=hs _ z
  exact Us107
 obtain⟨c1,w1⟩:=h.RY.fs;obtain⟨c2,w2'⟩:=h.data.fs
 exact⟨k.blk h.pp (far h.pp U0 U0 U0),k.blk h.pq (far h.pq U0 U0 U0),h.RY.kept k (far w1 U0 U0 U0) (far h.RY.ws U0 U0 U0),
  h.data.kept k (far w2' U0 U0 U0) (far h.data.ws U0 U0 U0),k.blk h.sink (far h.sink U0 U0 U0),k.blk h.log (far h.log U0 U0 U0),h.ns,h.nd,h.B.trans (k.below hB h.B.size),h.l1⟩
def dW(L:List Int)(k:Nat):List Int->List Int
 |[]=>L
 |x::l=>dW (L.set k x) (k+1) l
theorem oG:∀(l:List Int)(L:List Int)(k:Nat)(x:Int),dW L k (l++[x])=(dW L k l).set (k+l.length) x
 |[],L,k,x=>rfl
 |y::l,L,k,x=>by
  show dW (L.set k y) (k+1) (l++[x])=_;rw[oG l];show _=(dW (L.set k y) (k+1) l).set (k+(l.length+1)) x;rw[show k+1+l.length=k+(l.length+1)by omega]
theorem qO:∀(l:List Int)(L:List Int)(k:Nat),(dW L k l).length=L.length
 |[],_,_=>rfl
 |x::l,L,k=>by
  show(dW (L.set k x) (k+1) l).length=_
  rw[qO l];simp
def coreC(cv:Value)(p:Pl)(aj:Int)(fold lazy:Bool)(ws ds:Nat)(tv:Value)(o g:Nat):Array Value:= #[cv,p.wk,p.th,p.fr,p.dq,aj,.bool fold,.bool lazy,ptr ws,ptr ds,tv,ptr o,ptr g,(0:Int),(0:Int),(0:Int),(0:Int),(0:Int),(0:Int),(0:Int),(0:Int),(0:Int),(0:Int)]
theorem yR{M:Int}{code:List (List Is)}(h:iY M code=0):(0<=M/\M<=256)/\(0<code.length/\code.length<=16)/\∀l∈code,0<l.length/\l.length<=200:=by
 unfold iY at h
 split at h
 ·rename_i m0
  have q1:(0<=M/\M<=256)/\fw code.length 16=0:=by
   unfold jy at m0
   split at m0
   ·cases m0
   ·split at m0
    ·cases m0
    ·exact⟨by omega,m0⟩
  have q2:=nO q1.2;refine⟨q1.1,⟨q2.1,by omega⟩,λl hl=>?_⟩
  have:∀(f:List Is->Int) (ls:List (List Is)),dL f ls=0->∀l∈ls,f l=0:=λf ls=>by
   induction ls with
   |nil=>intro _ l hl;cases hl
   |cons x ls ih=>
    intro h l hl;unfold dL at h
    split at h
    ·rename_i e
     rcases List.mem_cons.1 hl with rfl|hl
     ·exact e
     ·exact ih h l hl
    ·rename_i e;exact absurd h e
  have q3:=this _ _ h l hl;unfold jI at q3
  split at q3
  ·rename_i m1
   have:=nO m1
   exact⟨this.1,by omega⟩
  ·rename_i m1;exact absurd q3 m1
 ·rename_i m0;exact absurd h m0
theorem eO{w:World}{base:Nat}{e:TypeId}{size:Nat}{v:Value}{n:Nat}{xs:List Value}(h:w.ownsRow base e size v n xs)(hn:0<n):∃g cap,v=.slice (some ⟨g,0,none⟩) n cap/\v.ownBlock=some g/\∀(j:Nat)(u:Value),xs[j]? =some u->w.cell? ⟨g,j,none⟩=some u:=by
 obtain⟨_,⟨rfl,rfl⟩|⟨g,cap,cur,rfl,_,hg,_,_,_,hx⟩⟩:=h
 ·cases hn
 ·refine⟨g,cap,rfl,rfl,λj u hj=>?_⟩
  exact Us92
theorem Is.cell(x:Is)(j:Nat)(hj:j<4):∃u,x.cells[j]? =some u:=by
 exact Us95
theorem mr.Nr{B:Nat}{w:World}{v:Value}{vs:List Value}{code:List (List Is)}(h:mr B w v vs code):∃cb,pM w cb v code/\∀b∈cb,B<=b/\∃cs t,af w b cs t/\(t= 107 ∨t= 109):=by
 refine⟨v.ownBlock.toList++vs.filterMap Value.ownBlock,?_,λb hb=>?_⟩
 ·obtain⟨A,cap,e⟩:=ownsRow_form h.t2
  refine⟨A,cap,e,λfn hf=>?_⟩;obtain⟨g,cap',e1,ob,hc⟩:=eO h.t2 U2;have hv:fn<vs.length:=by rw[h.t1];exact hf
  have e2:vs[fn]? =some vs[fn]:=List.getElem?_eq_getElem hv;have r:=h.t3 fn vs[fn] code[fn] e2 (List.getElem?_eq_getElem hf);obtain⟨B',c',e3⟩:=ownsRow_form r;rw[e1]at e
  cases e
  refine⟨g,B',c',rfl,List.mem_append_left _ (by rw[ob];simp),by rw[<-e3];exact hc fn _ e2,λpc hp=>?_⟩;obtain⟨b0,c2,e4,ob2,hc2⟩:=eO r U2;rw[e4]at e3
  cases e3
  refine⟨b0,rfl,List.mem_append_right _ (List.mem_filterMap.2 ⟨vs[fn],List.getElem_mem hv,ob2⟩),λj hj=>?_⟩;obtain⟨u,hu⟩:=(code[fn][pc]).cell j hj;rw[hu]
  exact hc2 _ u (by rw[flat_get Is.cells 4 (λ_=>rfl) _ pc j hp hj];exact hu)
 ·rcases List.mem_append.1 hb with hb|hb
  ·have hb:v.ownBlock=some b:=by simpa using hb
   obtain⟨l,cs,q⟩:=dY h.t2 hb
   exact⟨l,cs,_,q,Or.inl rfl⟩
  ·obtain⟨u,hu,ob⟩:=List.mem_filterMap.1 hb
   obtain⟨i,hi,rfl⟩:=List.mem_iff_getElem.1 hu;have hc:i<code.length:=by rw[<-h.t1];exact hi
   obtain⟨l,cs,q⟩:=dY (h.t3 i _ _ (List.getElem?_eq_getElem hi) (List.getElem?_eq_getElem hc)) ob
   exact⟨l,cs,_,q,Or.inr rfl⟩
structure PQ(w wr:World)(gp gq:Nat)(M:Int)(fv:Value)(p:Pl)(aj:Int)(fold lazy:Bool):Prop where
 pp:af wr gp #[M,fv] 24
 pq:af wr gq #[p.wk,p.th,p.fr,p.dq,aj,.bool fold,.bool lazy] 27
 B:Below w.heap.size w wr
theorem PQ.ai{w wr w2:World}{gp gq:Nat}{M:Int}{fv:Value}{p:Pl}{aj:Int}{fold lazy:Bool}(h:PQ w wr gp gq M fv p aj fold lazy)(k:Below wr.heap.size wr w2):PQ w w2 gp gq M fv p aj fold lazy:=
 ⟨h.pp.below k h.pp.lt,h.pq.below k h.pq.lt,h.B.trans (k.mono h.B.size)⟩
theorem PQ.drew{w wr:World}{gp gq:Nat}{M:Int}{fv:Value}{p:Pl}{aj:Int}{fold lazy:Bool}(h:PQ w wr gp gq M fv p aj fold lazy):PQ w wr.drew gp gq M fv p aj fold lazy:=⟨h.pp.drew,h.pq.drew,h.B.drew⟩
theorem PQ.cells{w wr:World}{gp gq:Nat}{M:Int}{fv:Value}{p:Pl}{aj:Int}{fold lazy:Bool}(h:PQ w wr gp gq M fv p aj fold lazy):wr.cell? ⟨gp,0,none⟩=some ↑M/\wr.cell? ⟨gp,1,none⟩=some fv/\wr.cell? ⟨gq,0,none⟩=some ↑p.wk/\wr.cell? ⟨gq,1,none⟩=some ↑p.th/\wr.cell? ⟨gq,2,none⟩=some ↑p.fr/\wr.cell? ⟨gq,3,none⟩=some ↑p.dq/\wr.cell? ⟨gq,4,none⟩=some ↑aj/\wr.cell? ⟨gq,5,none⟩=some (.bool fold)/\wr.cell? ⟨gq,6,none⟩=some (.bool lazy):=
 ⟨h.pp.cell 0,h.pp.cell 1,h.pq.cell 0,h.pq.cell 1,h.pq.cell 2,h.pq.cell 3,h.pq.cell 4,h.pq.cell 5,h.pq.cell 6⟩
theorem tO(x:Int)(hx:0<=x/\x<=1000000)(w:World):Calls prog 78 #[x] w λev w'=>∃s d,ev=.returned (ptr s)/\aD w' s d (List.replicate x.toNat 0)/\w.heap.size<=s/\w.heap.size<=d/\Below w.heap.size w w':=by
 obtain⟨n,rfl⟩:=Int.eq_ofNat_of_zero_le hx.1
 exact tQ n U2 w
theorem GI(x:Int)(hx:0<=x/\x<=1000)(w:World):Calls prog 81 #[x] w λev w'=>∃s,ev=.returned (ptr s)/\af w' s #[.slice none 0 0,x] 138 /\w.heap.size<=s/\Below w.heap.size w w':=by
 obtain⟨n,rfl⟩:=Int.eq_ofNat_of_zero_le hx.1
 exact GJ n U2 w
structure C0(w wr:World)(gp gq cq ws wd ds dd o g:Nat)(M:Int)(fv:Value)(p:Pl)(aj:Int)(fold lazy:Bool)(code:List (List Is))(D:List Int)(cv:Value)(vs:List Value):Prop where
 nb:NB w wr gp gq ws wd ds dd o g M fv p aj fold lazy D
 co:af wr cq (coreC cv p aj fold lazy ws ds (.pointer none) o g) 135
 lc:w.heap.size<=cq
 tx:mr w.heap.size wr cv vs code
theorem C0.kept{S:Nat->Prop}{w wr w2:World}{gp gq cq ws wd ds dd o g:Nat}{M:Int}{fv:Value}{p:Pl}{aj:Int}{fold lazy:Bool}{code:List (List Is)}{D:List Int}{cv:Value}{vs:List Value}(h:C0 w wr gp gq cq ws wd ds dd o g M fv p aj fold lazy code D cv vs)(k:Kept S wr w2)(hs:∀b,¬S b):C0 w w2 gp gq cq ws wd ds dd o g M fv p aj fold lazy code D cv vs:=
 ⟨h.nb.kept k (λb z=>absurd z (hs b)) (λb z=>absurd z (hs b)),k.blk h.co (hs _),h.lc,h.tx.kept k (λb _ _ _ _=>hs b)⟩
theorem C0.ai{w wr w2:World}{gp gq cq ws wd ds dd o g:Nat}{M:Int}{fv:Value}{p:Pl}{aj:Int}{fold lazy:Bool}{code:List (List Is)}{D:List Int}{cv:Value}{vs:List Value}(h:C0 w wr gp gq cq ws wd ds dd o g M fv p aj fold lazy code D cv vs)(k:Below wr.heap.size wr w2):C0 w w2 gp gq cq ws wd ds dd o g M fv p aj fold lazy code D cv vs:=h.kept (Kept.ob (S:=None) k) (λ_ z=>z)
theorem C0.snoc{w w2:World}{gp gq cq ws wd ds dd o g:Nat}{M:Int}{fv:Value}{p:Pl}{aj:Int}{fold lazy:Bool}{code:List (List Is)}{D:List Int}{cv:Value}{vs:List Value}{w3:World}{v1 v2:Value}{l:List Is}(C:C0 w w2 gp gq cq ws wd ds dd o g M fv p aj fold lazy code D cv vs)(hi:w2.ownsRow w.heap.size 109 4 v1 l.length (l.flatMap Is.cells))
  (ho:w3.ownsRow w.heap.size 107 1 v2 (code.length+1) (vs++[v1])) (hg:(w2.alloc (.cells #[v1] 107)).grownBy w3 cv.ownBlock):af w3 cq (coreC cv p aj fold lazy ws ds (.pointer none) o g) 135 /\C0 w (w3.setCell ⟨cq,0,none⟩ v2) gp gq cq ws wd ds dd o g M fv p aj fold lazy (code++[l]) D v2 (vs++[v1]):=by
 have C2:=C.ai (Ba (.cells #[v1] 107));have K:=Kept.grown hg;have nb3:=C2.nb.kept K (λb z=>by obtain⟨_,cs,q⟩:=dY C2.tx.t2 z;exact⟨cs,_,q,Or.inl rfl⟩) (λb z=>(dY C2.tx.t2 z).1);have co3:=K.blk C2.co (λz=>by obtain⟨_,cs,q⟩:=dY C2.tx.t2 z;have:=q.type C2.co;exact absurd this U0);have tx3:=C.tx.snoc hi ho hg;have K1:=Kept.one w3 cq 0 v2;refine⟨co3,nb3.kept K1 (λb z=>by have z:b=cq:=z;subst z;exact⟨_,_,co3,Or.inr (Or.inl rfl)⟩) (λb z=>by have z:b=cq:=z;subst z;exact C.lc),co3.set 0 v2,C.lc,tx3.kept K1 (λb cs t q ht z=>?_)⟩;have z:b=cq:=z;subst z;have e:=q.type co3;subst e
 rcases ht with h|h<;>exact absurd h U0
theorem aP.rows{w:World}{A:Option Addr}{n cap:Nat}{code:List (List Is)}(h:aP w (.slice A n cap) code)(hp:0<code.length):∃b o,A=some ⟨b,o,none⟩/\∀i (hi:i<code.length),∃v',w.cell? ⟨b,o+i,none⟩=some v'/\dX w v' code[i]:=by
 obtain⟨_,_,e,_,_,q⟩:=h
 cases e
 exact q hp
theorem dX.clone{w:World}{A:Option Addr}{n cap:Nat}{l:List Is}(h:dX w (.slice A n cap) l)(h0:0<l.length)(h1:l.length<=200):Calls prog 83 #[.slice A n cap] w λev w'=>∃v,ev=.returned v/\w'.ownsRow w.heap.size 109 4 v l.length (l.flatMap Is.cells)/\Below w.heap.size w w':=by
 obtain⟨A',c',e,hl,q⟩:=h.src
 cases e
 rcases q with⟨_,z,_⟩|⟨ad,rfl,hc⟩
 ·omega
 ·exact JC w ad l.length cap _ hl hc (EZ l) U2
theorem Qo{n m:Nat}(h:n<m)(hm:m<=16):n+1<=maxLen/\(n+1)*24<=140737488355328:=by unfold maxLen;omega
theorem C0.dat{w wr w2:World}{gp gq cq ws wd ds dd o g:Nat}{M:Int}{fv:Value}{p:Pl}{aj:Int}{fold lazy:Bool}{code:List (List Is)}{D:List Int}{cv:Value}{vs:List Value}{D':List Int}(h:C0 w wr gp gq cq ws wd ds dd o g M fv p aj fold lazy code D cv vs)(S:aD w2 ds dd D')(K:Kept (One dd) wr w2):C0 w w2 gp gq cq ws wd ds dd o g M fv p aj fold lazy code D' cv vs:=by
 have far:∀{b:Nat} {cs:Array Value} {t:TypeId},af wr b cs t->t≠ 3 ->¬One dd b:=λq n z=>by
  have z:_=dd:=z;subst z
  exact n (q.type h.nb.data.ws)
 obtain⟨c1,w1⟩:=h.nb.RY.fs;refine⟨⟨K.blk h.nb.pp (far h.nb.pp U0),K.blk h.nb.pq (far h.nb.pq U0),h.nb.RY.kept K (far w1 U0) h.nb.nd,S,K.blk h.nb.sink (far h.nb.sink U0),K.blk h.nb.log (far h.nb.log U0),h.nb.ns,h.nb.nd,h.nb.B.trans (K.below (λb z=>by have z:b=dd:=z;subst z;exact h.nb.l1.2.2.2.1) h.nb.B.size),h.nb.l1⟩,K.blk h.co (far h.co U0),h.lc,h.tx.kept K (λb cs t q ht=>far q (by rcases ht with rfl|rfl<;>decide))⟩
theorem C0.RO{w w2:World}{gp gq cq ws wd ds dd o g:Nat}{M:Int}{fv:Value}{p:Pl}{aj:Int}{fold lazy:Bool}{code:List (List Is)}{D:List Int}{cv:Value}{vs:List Value}{w3:World}{n t a hl fr:Nat}(C:C0 w w2 gp gq cq ws wd ds dd o g M fv p aj fold lazy code D cv vs)(hb:Below w2.heap.size w2 w3)(T:Dy w3 p n ws t a hl fr)(G:w2.heap.size<=t/\w2.heap.size<=a/\w2.heap.size<=hl/\w2.heap.size<=fr)(hp:p.ok)(hn:p.fr=n):
  ∃y:Ly,y.c=cq/\y.t=t/\y.bk=.slice none 0 0/\bI (w3.setCell ⟨cq,10,none⟩ (ptr t)) y (Co.zero p aj fold lazy code D)/\(∀b,y.has b->w.heap.size<=b)/\Below w.heap.size w (w3.setCell ⟨cq,10,none⟩ (ptr t)):=by
 have C3:=C.ai hb;obtain⟨cb,k1,k2⟩:=C3.tx.Nr;have lw:=C.nb.B.size;have fn:p.fr.toNat=n:=by omega
 have K1:=Kept.one w3 cq 10 (ptr t);have far:∀{b:Nat} {cs:Array Value} {t:TypeId},af w3 b cs t->t≠ 135 ->¬One cq b:=λq n z=>by
  have z:_=cq:=z;subst z
  exact n (q.type C3.co)
 obtain⟨c1,w1⟩:=C3.nb.RY.fs;obtain⟨c2,d1⟩:=C3.nb.data.fs;have hl1:(List.replicate (p.fr.toNat+1) aM).length=n+1:=by rw[List.length_replicate,fn]
 have hl2:(List.replicate (p.fr.toNat+1) false).length=n+1:=by rw[List.length_replicate,fn]
 refine⟨⟨cq,ws,wd,ds,dd,t,fr,a,hl,.slice none 0 0,o,.slice none 0 0,g,.slice none 0 0,cv,cb⟩,rfl,rfl,rfl,?_,?_,(C3.nb.B).setCell C.lc _⟩
 ·refine{core:=C3.co.set 10 (ptr t),RY:=C3.nb.RY.kept K1 (far w1 U0) (far C3.nb.RY.ws U0),data:=C3.nb.data.kept K1 (far d1 U0) (far C3.nb.data.ws U0),table:=?_,frames:=?_,arena:=?_,Sj:=?_,back:=World.ownsRow_nil _ _ _ _,sink:=K1.blk C3.nb.sink (far C3.nb.sink U0),out:=World.ownsRow_nil _ _ _ _,log:=K1.blk C3.nb.log (far C3.nb.log U0),evs:=World.ownsRow_nil _ _ _ _,wE:=C.nb.ns,jL:=C.nb.nd,uE:=λz=>U47,rM:=λz=>U47,now:=λz=>U47,uG:=λz=>U47,uF:=λk z=>U47,hlen:=?_,bU:=?_,bQ:=hp,eZ:=?_,code:=k1.kept K1 (λb hb=>by obtain⟨_,cs,t',q,e⟩:=k2 b hb;exact far q (by rcases e with rfl|rfl<;>decide)),nE:=λb hb=>by obtain⟨_,cs,t',q,e⟩:=k2 b hb;exact⟨cs,t',K1.blk q (far q (by rcases e with rfl|rfl<;>decide)),e⟩}
  ·have q:=K1.blk T.tb (far T.tb U0)
   show af _ t #[p.wk,p.fr,p.th,p.dq,.pointer (some ⟨ws,0,none⟩),.pointer (some ⟨a,0,none⟩),.slice (some ⟨fr,0,none⟩) (List.replicate (p.fr.toNat+1) aM).length (List.replicate (p.fr.toNat+1) aM).length] _;rw[hl1]
   exact q
  ·have q:=K1.blk T.rw (far T.rw U0)
   show af _ fr (rows Fr.cells (List.replicate (p.fr.toNat+1) aM)) _;rw[fn]
   exact q
  ·have q:=K1.blk T.ar (far T.ar U0)
   show af _ a #[.slice (some ⟨hl,0,none⟩) (List.replicate (p.fr.toNat+1) false).length (List.replicate (p.fr.toNat+1) false).length,.slice none 0 0,.int .i64 ((0:Nat):Int),(0:Int)] _;rw[hl2]
   exact q
  ·have q:=K1.blk T.he (far T.he U0)
   show af _ hl (bools (List.replicate (p.fr.toNat+1) false)) _;rw[fn]
   exact q
  ·exact(List.length_replicate ..).trans (List.length_replicate ..).symm
  ·show((List.replicate p.size.toNat (0:Int)).length:Int)=p.size
   have:=mR p hp
   rw[List.length_replicate];omega
  ·show(List.replicate (p.fr.toNat+1) aM).length<=1001
   rw[hl1];unfold Pl.ok at hp
   omega
 ·intro b hb
  obtain⟨g1,g2,g3,g4⟩:=G;obtain⟨l1,l2,l3,l4,l5,l6⟩:=C.nb.l1;have lc:=C.lc;unfold Ly.has at hb;dsimp only at hb
  rcases hb with rfl|rfl|rfl|rfl|rfl|rfl|rfl|rfl|rfl|hb|rfl|hb|rfl|hb|hb
  all_goals first|omega|(cases hb;done)|exact(k2 b hb).1
theorem Jc(p:Pl)(hp:p.ok)(aj:Int)(fold lazy:Bool)(code:List (List Is))(D:List Int):(Co.zero p aj fold lazy code D).gG:=by
 have e:(Co.zero p aj fold lazy code D).Sj.length=p.fr.toNat+1:=List.length_replicate ..;refine⟨?_,?_,n0 _,λi h=>(by cases h),Int.le_refl _⟩
 ·rw[e];unfold Pl.ok at hp;omega
 ·rw[e];exact Nat.succ_pos _
theorem F5{w w5 w6:World}{y:Ly}{m:Co}{v:Value}(C:bI w6 {y with bk:=v} m)(F:v.ownBlock=y.bk.ownBlock)(K:Kept (Bd y) w5 w6)(GE:∀b,y.has b->w.heap.size<=b)(B:Below w.heap.size w w5):
  ∃y':Ly,Ending.returned (.tuple #[ptr y.c,(0:Int)])=.returned (.tuple #[ptr y'.c,(0:Int)])/\bI w6 y' m/\(∀b,y'.has b->w.heap.size<=b)/\Below w.heap.size w w6:=by
 refine⟨{y with bk:=v},rfl,C,λb hb=>GE b ?_,B.trans (K.below (λb z=>GE b ?_) B.size)⟩
 ·unfold Ly.has at hb⊢
  dsimp only at hb;rw[F]at hb
  exact hb
 ·rcases z with z|z|z|z<;>(subst z;simp[Ly.has])
theorem JD(w:World)(M:Int)(fv:Value)(code:List (List Is))(h:aP w fv code)(iv:Value)(input:List Int)(hi:aV w iv input)(p:Pl)(aj:Int)(fold lazy:Bool)(hok:eX M code input.length p aj):
  Calls prog 57 #[.agg #[M,fv],iv,gU p aj fold lazy] w λev w'=>∃y:Ly,ev=.returned (.tuple #[ptr y.c,(0:Int)])/\bI w' y (Co.first p aj fold lazy code (dW (List.replicate M.toNat 0) 0 input))/\(∀b,y.has b->w.heap.size<=b)/\Below w.heap.size w w':=by
 obtain⟨hM,hcl,hrow⟩:=yR hok.1;obtain⟨FA,Su,rfl⟩:=h.form;obtain⟨IA,Sv,rfl,hin⟩:=hi;have sz:=mR p hok.2.1;obtain⟨n,hn0⟩:=Int.eq_ofNat_of_zero_le (show 0<=p.fr by have:=hok.2.1;unfold Pl.ok at this;omega);have HN0:=Hd hn0;have IL:=Hd (show input.length<=256 by have:=hok.2.2.2.2;omega);have CL:=Hd (show code.length<=1000000 by omega);have ML0:=Hd (show input.length<=(List.replicate M.toNat (0:Int)).length by have:=hok.2.2.2.2;rw[List.length_replicate];omega);clear hn0;obtain⟨i1,hj,hy0,hy1,hy2⟩:=info_parts Af;have c1:=Hd (λw h=>sH w M (.slice FA code.length Su) code h IA input.length Sv p aj fold lazy);have c2:=Hd (λw=>nG p.wk p.th p.fr p.dq aj fold lazy w);have c3:=Hd (λw=>KX p hok.2.1 w);have c4:=Hd (λw=>tO p.size sz w);have c5:=Hd (λw=>tO M U2 w);have c6:=Hd (λw=>GI aj ⟨hok.2.2.1,hok.2.2.2.1⟩ w);have c7:=Hd (λw=>Kn w);have bp:=af.new w #[M,.slice FA code.length Su] 24 _ rfl;have bq:=af.new (w.alloc (.cells #[M,.slice FA code.length Su] 24)) #[p.wk,p.th,p.fr,p.dq,aj,.bool fold,.bool lazy] 27 _ rfl;have bp:=bp.alloc (.cells #[p.wk,p.th,p.fr,p.dq,aj,.bool fold,.bool lazy] 27);have B0:Below w.heap.size w ((w.alloc (.cells #[M,.slice FA code.length Su] 24)).alloc (.cells #[p.wk,p.th,p.fr,p.dq,aj,.bool fold,.bool lazy] 27)):=(Ba _).alloc U8 _;have C1:=Hd (c1.o _ (h.ai B0));have C1':Hid (Calls prog 77 #[.agg #[M,.slice FA code.length Su],.slice IA input.length Sv,gU p aj fold lazy] ((w.alloc (.cells #[M,.slice FA code.length Su] 24)).alloc (.cells #[p.wk,p.th,p.fr,p.dq,aj,.bool fold,.bool lazy] 27)) λev w'=>ev=.returned (.int .i64 0)/\Below ((w.alloc (.cells #[M,.slice FA code.length Su] 24)).alloc (.cells #[p.wk,p.th,p.fr,p.dq,aj,.bool fold,.bool lazy] 27)).heap.size ((w.alloc (.cells #[M,.slice FA code.length Su] 24)).alloc (.cells #[p.wk,p.th,p.fr,p.dq,aj,.bool fold,.bool lazy] 27)) w'):=Hd (C1.out.mono (λev w' ⟨⟨e,h1,h2⟩,h3⟩=>⟨by rw[h1,h2.2 hok],h3⟩))
 simp only[World.size_alloc]at bp bq;have HC0:=Hd (PQ.mk bp bq B0);have HF:=Hd h;have HI:=Hd hin;have HO:=Hd hok;clear c1 C1 h bp bq B0 hin hok;go_enter func57,ntmps57;go_upto_region 1 with fail;generalize((w.alloc (.cells #[M,.slice FA code.length Su] 24)).alloc (.cells #[p.wk,p.th,p.fr,p.dq,aj,.bool fold,.bool lazy] 27))=W at*;generalize hgp:w.heap.size=gp at*;generalize hgq:gp+1=gq at*;obtain⟨x0,x1,x2,x3,x4,x5,x6,x7,x8⟩:=HC0.o.cells
 go_upto_region 4 with(go_at_call 77;refine C1'.out.q λw1 Sr=> ?_)
 have HC:=HC0.o.ai Sr;clear HC0 Sr x0 x1 x2 x3 x4 x5 x6 x7 x8 C1';have FS:=Hd (λwr (h:PQ w wr gp gq M (.slice FA code.length Su) p aj fold lazy)=>h.cells)
 go_cut [9]from 21 to 34 (λs9 wx=>∃cq ws wd ds dd o g,s9=ptr cq/\C0 w wx gp gq cq ws wd ds dd o g M (.slice FA code.length Su) p aj fold lazy [] (List.replicate M.toNat 0) (.slice none 0 0) [])
 case first=>
  go_region_held3 (λw'=>w'.cell? ⟨gp,0,none⟩=some ↑M/\w'.cell? ⟨gp,1,none⟩=some (.slice FA code.length Su)/\w'.cell? ⟨gq,0,none⟩=some ↑p.wk/\w'.cell? ⟨gq,1,none⟩=some ↑p.th/\w'.cell? ⟨gq,2,none⟩=some ↑p.fr/\w'.cell? ⟨gq,3,none⟩=some ↑p.dq/\w'.cell? ⟨gq,4,none⟩=some ↑aj/\w'.cell? ⟨gq,5,none⟩=some (.bool fold)/\w'.cell? ⟨gq,6,none⟩=some (.bool lazy))
   (first|exact FS.o _ HC|exact FS.o _ HC.drew|exact FS.o _ (HC.ai (Ba _)))
   (first|(go_at_call 79;refine(c2.o _).q λw2 hb2=> ?_;replace HC:=(by first|exact HC.ai hb2|exact HC.drew.ai hb2))|(go_at_call 80;refine(c3.o _).q λw3 hb3=> ?_;replace HC:=(by first|exact HC.ai hb3|exact HC.drew.ai hb3))|(go_at_call_of 78 (Value.int IntKind.i64 p.size);refine(c4.o _).mono ?_;rintro ev w4 ⟨ws,wd,rfl,SW,g1,g2,hb4⟩;have SWl:=Hd (λq (hq:w4.heap.size<=q)=>(by have:=(SW.fs).choose_spec.lt;omega:ws≠q));have SWd:=Hd (λq (hq:w4.heap.size<=q)=>(by have:=SW.ws.lt;omega:wd≠q));have G1:=Hd (nT HC.B.size g1);have G2:=Hd (nT HC.B.size g2);clear g1 g2;replace HC:=(by first|exact HC.ai hb4|exact HC.drew.ai hb4))|(go_at_call_of 78 (Value.int IntKind.i64 M);refine(c5.o _).mono ?_;rintro ev w5 ⟨ds,dd,rfl,SD,g3,g4,hb5⟩;replace SW:=SW.ai hb5;have G3:=Hd (nT HC.B.size g3);have G4:=Hd (nT HC.B.size g4);have N1:=Hd (SWl.out ds g3);have N2:=Hd (SWd.out dd g4);clear g3 g4;replace HC:=(by first|exact HC.ai hb5|exact HC.drew.ai hb5))|(go_at_call 81;refine(c6.o _).mono ?_;rintro ev w6 ⟨o,rfl,SO,g5,hb6⟩;replace SW:=SW.ai hb6;replace SD:=SD.ai hb6;have G5:=Hd (nT HC.B.size g5);clear g5;replace HC:=(by first|exact HC.ai hb6|exact HC.drew.ai hb6))|(go_at_call 82;refine(c7.o _).mono ?_;rintro ev w7 ⟨g,rfl,SG,g6,hb7⟩;replace SW:=SW.ai hb7;replace SD:=SD.ai hb7;replace SO:=SO.below hb7 SO.lt;have G6:=Hd (nT HC.B.size g6);clear g6;replace HC:=(by first|exact HC.ai hb7|exact HC.drew.ai hb7)))
  have B8:=HC.B.alloc HC.B.size (.cells (coreC (.slice none 0 0) p aj fold lazy ws ds (.pointer none) o g) 135);have lw:=HC.B.size;have R:=C0.mk (⟨HC.pp.alloc _,HC.pq.alloc _,SW.alloc _,SD.alloc _,SO.alloc _,SG.alloc _,N1.out,N2.out,B8,⟨G1.out,G2.out,G3.out,G4.out,G5.out,G6.out⟩⟩:NB w (w7.alloc (.cells (coreC (.slice none 0 0) p aj fold lazy ws ds (.pointer none) o g) 135)) gp gq ws wd ds dd o g M (.slice FA code.length Su) p aj fold lazy (List.replicate M.toNat 0)) (af.new w7 _ _ _ rfl) lw (code:=[]) (vs:=[]) ⟨rfl,World.ownsRow_nil _ _ _ _,λi v' x a=>by simp at a⟩;have R:=Hd R;clear SW SD SO SG HC hb2 hb3 hb4 hb5 hb6 hb7 B8 SWl SWd;go_wp2_with fail
  go_meet
  first|exact⟨ws,wd,ds,dd,o,g,R.out⟩|exact⟨_,ws,wd,ds,dd,o,g,rfl,R.out⟩
 case rest=>
  obtain⟨cq,ws,wd,ds,dd,o,g,rfl,R⟩:=hcut;have x1:=R.nb.pp.c1;have R:=Hd R;clear HC c3 c4 c5 c6 c7;go_wp2_with fail
  go_loopw [38] (λi wr=>∃(k:Nat) (cv:Value) (vs:List Value),k<=code.length/\i=.int .i64 k/\C0 w wr gp gq cq ws wd ds dd o g M (.slice FA code.length Su) p aj fold lazy (code.take k) (List.replicate M.toNat 0) cv vs) (λi _=>code.length-(intOf i).toNat)
  case atStart=>exact⟨0,_,[],n0 _,rfl,R.out⟩
  case round=>
   obtain⟨k,cv,vs,hk,rfl,C⟩:=hrel
   by_cases hlt:k<code.length
   ·have hw:wrap64 ((k:Int)+1)=((k+1:Nat):Int):=iN hlt CL.out
    have hlt':(k:Int)<(code.length:Int):=jJ hlt;obtain⟨b,o2,rfl,q⟩:=HF.o.rows hcl.1;obtain⟨v',q1,q2⟩:=q k hlt;have q1:wr.cell? ⟨b,o2+k,none⟩=some v':=kb C.nb.B (bL w _ q1) q1;have q2:=q2.ai C.nb.B;obtain⟨A',c',rfl⟩:=q2.form;have hr:=hrow _ (List.getElem_mem hlt);have CC:=Hd (λw2 (hb:Below wr.heap.size wr w2)=>(q2.ai hb).clone hr.1 hr.2);have M2:=Hd (iM hlt);have K1:k+1<=code.length:=hlt;have TK:=Hd (show code.take (k+1)=code.take k++[code[k]]by rw[List.take_add_one,List.getElem?_eq_getElem hlt];rfl);have lk:(code.take k).length=k:=Pt hk;have LL:=Hd (show(code.take k).length+1<=maxLen/\((code.take k).length+1)*24<=140737488355328 by rw[lk];exact Qo hlt hcl.2);clear lk;obtain⟨Av,cvc,rfl⟩:=ownsRow_form C.tx.t2;have y0:=C.co.c0;have y1:wr.drew.cell? ⟨cq,0,none⟩=some (.slice Av (code.take k).length cvc):=C.co.cell 0;have C0':=Hd C;clear C q2 q HF HI HO hrow R x1 hk;generalize hx:code[k]=l at*;clear hx;clear hlt;generalize hct:(code.take k).length=kk at*;have LK2:(code.take k).length=kk:=hct;have LK:=Hd LK2;clear LK2 hct;go_upto_region 8 with fail
    go_region_law (first|(refine ay _ (by rfl) _ _ 22 (by rfl) w.heap.size 107 i1 _ 1 24 underlying22 hj hy0 hy1 hy2 rfl U0 (.slice Av kk cvc) kk vs (by rfl) T2.out (.slice (some ⟨w2.heap.size,0,none⟩) 1 1) 1 [.slice A1 l.length c1] (by rfl) (pE w2 _ _) U17 LL.out.1 LL.out.2 GS.out ?_;intro v2 w3 hown2 hgrow2 hat2;obtain⟨A2,c2',rfl⟩:=ownsRow_form hown2;obtain⟨z1,z2⟩:=CX.out.snoc HI2.o U97 hgrow2;have z3:=z1.fz;have z4:=z1.c0;have Z2:=Hd z2;clear hown2 hgrow2 hat2 z1 z2)|(go_simp;go_at_call 83;refine(CC.out _ U56).mono ?_;rintro ev w2 ⟨v1,rfl,hown1,hb2⟩;obtain⟨A1,c1,rfl⟩:=ownsRow_form hown1;have HI2:=Hd (Gu hown1 C0'.out.nb.B.size);have CX:=Hd (C0'.out.ai U93);have T2:=Hd (show(w2.alloc (.cells #[.slice A1 l.length c1] 107)).ownsRow w.heap.size 107 1 (.slice Av kk cvc) kk vs from by have z:=CX.out.tx.t2.alloc (.cells #[.slice A1 l.length c1] 107);rw[LK.out]at z;exact z);have GS:=Hd (show w.heap.size<=(w2.alloc (.cells #[.slice A1 l.length c1] 107)).heap.size by have:=CX.out.nb.B.size;simp;omega);have y2:=CX.out.co.c0;have y3:(w2.alloc (.cells #[.slice A1 l.length c1] 107)).cell? ⟨cq,0,none⟩=some (.slice Av kk cvc):=kc y2;clear hown1 hb2))
    all_goals go_wp2_with fail
    all_goals go_roundw
    all_goals first|exact M2.out|exact⟨k+1,_,_,K1,by first|rw[hw]|simp,by rw[TK.out];exact Z2.out⟩|(rw[hw];simpa using M2.out)
   ·obtain rfl:k=code.length:=Nat.le_antisymm hk (Nat.le_of_not_lt hlt)
    have hge:¬((code.length:Int)<(code.length:Int)):=Int.lt_irrefl _;rw[List.take_length]at C;have C:=Hd C;clear HF R x1 hrow hk hlt;have cS:=Hd (λw L k hk v h=>dN w ds dd L k hk v h);have ML:=ML0;clear ML0;generalize hL0:List.replicate M.toNat (0:Int)=L0 at*;go_wp2_with fail
    go_loopw [56] (λi wr=>∃(j:Nat),j<=input.length/\i=.int .i64 j/\C0 w wr gp gq cq ws wd ds dd o g M (.slice FA code.length Su) p aj fold lazy code (dW L0 0 (input.take j)) cv vs) (λi _=>input.length-(intOf i).toNat)
    case atStart=>exact⟨0,n0 _,rfl,C.out⟩
    case round=>
     obtain⟨j,hj,rfl,CJ⟩:=hrel
     by_cases hlt:j<input.length
     ·have hw:wrap64 ((j:Int)+1)=((j+1:Nat):Int):=iN hlt (nT IL.out U0)
      have hlt':(j:Int)<(input.length:Int):=jJ hlt;obtain⟨b,o2,rfl,hb,q⟩:=HI.o (tX hlt);have q1:wr.cell? ⟨b,o2+j,none⟩=some (.int .i64 input[j]):=kb CJ.nb.B (show b<w.heap.size by rw[hgp];exact hb) (q j hlt);have M2:=Hd (iM hlt);have K1:j+1<=input.length:=hlt;have TK:=Hd (show dW L0 0 (input.take (j+1))=(dW L0 0 (input.take j)).set j input[j]by
       rw[List.take_add_one,List.getElem?_eq_getElem hlt];show dW L0 0 (input.take j++[input[j]])=_;rw[oG,Nat.zero_add,Pt hj])
      have CC:=Hd (cS.o wr (dW L0 0 (input.take j)) j (by rw[qO];exact nL hlt ML.out) input[j] CJ.nb.data);have y0:=CJ.co.c9;have CJ:=Hd CJ;clear q HI HO R C hj;generalize hx:input[j]=x at*;clear hx;clear hlt
      go_wp2_with (go_at_call 84;refine CC.out.mono ?_;rintro ev w2 ⟨rfl,S2,KK⟩;have Z2:=Hd (CJ.out.dat S2 KK);clear S2 KK)
      go_roundw
      case rel=>exact⟨j+1,K1,by first|rw[hw]|simp,by rw[TK.out];exact Z2.out⟩
      case measure=>first|exact M2.out|(rw[hw];simpa using M2.out)
     ·obtain rfl:j=input.length:=Nat.le_antisymm hj (Nat.le_of_not_lt hlt)
      have hge:¬((input.length:Int)<(input.length:Int)):=Int.lt_irrefl _;rw[List.take_length]at CJ;have pk:=HO.o.2.1;have hn:=HN0.o;have cF:=Hd (λw=>yx p pk n hn ws w);have cR:=Hd (λw=>Gs w);have x8:=CJ.co.c8;have u0:=CJ.nb.pq.c0;have u1:=CJ.nb.pq.c1;have u2:=CJ.nb.pq.c2;have u3:=CJ.nb.pq.c3;have u4:=CJ.nb.pq.c4;have u5:=CJ.nb.pq.c5;have u6:=CJ.nb.pq.c6;have CJ:=Hd CJ;have PK:=Hd pk;have HN:=Hd hn;clear HI HO R C hj hlt pk hn;go_upto_region 15 with fail;have x81:wr.drew.cell? ⟨cq,8,none⟩=some (ptr ws):=x8
      go_region_law (first|(go_simp;go_at_call 79;refine(c2.o _).q λw2 hb2=> ?_;have CX:=Hd (CJ.out.ai U93);have x82:=CX.out.co.c8;clear hb2)|(go_simp;go_at_call 85;refine(cF.o _).mono ?_;rintro ev w3 ⟨t,a,hl,fr,rfl,T0,G0,hb3⟩;obtain⟨y,e1,e2,e3,CZ,gez,BZ⟩:=CX.out.RO hb3 T0 G0 PK.out HN.o;have CZ:=Hd CZ;have GE:=Hd gez;have BZ:=Hd BZ;have z3:=(CX.out.ai hb3).co.fz;have z4:w3.cell? ⟨cq,10,none⟩=some (.pointer none):=(CX.out.ai hb3).co.cell 10;clear T0 G0 hb3 gez))
      all_goals
       subst e1 e2;have v10:(w3.setCell ⟨y.c,10,none⟩ (ptr y.t)).cell? ⟨y.c,10,none⟩=some (ptr y.t):=CZ.out.core.cell 10;have v10a:(w3.setCell ⟨y.c,10,none⟩ (ptr y.t)).drew.cell? ⟨y.c,10,none⟩=some (ptr y.t):=CZ.out.core.cell 10;clear x8 x81 x82 z3 z4 u0 u1 u2 u3 u4 u5 u6 CX CJ;go_upto_region 16 with fail
       go_region_law (first|(go_simp;go_at_call 87;refine(cR.o _).q λw5 hb5=> ?_;have C5:=Hd (CZ.out.ai U92);have B5:=Hd (BZ.o.trans (Below.mono U92 BZ.o.size));have v10b:w5.cell? ⟨y.c,10,none⟩=some (ptr y.t):=C5.out.core.cell 10;clear hb5)|(go_simp;go_at_call 86;refine(qV ku w5 y _ C5.out (Jc p PK.out aj fold lazy code _) 1 [] 1 (Co.ui p PK.out aj fold lazy code _)).mono ?_;rintro ev w6 ⟨rfl,v6,C6,F6,K6⟩;have R6:=Hd (F5 C6 F6 K6 GE.out B5.o);clear C6 F6 K6))
      all_goals go_wp2_with fail
      all_goals
       refine bodyPost_ret (v:=.tuple #[ptr y.c,(0:Int)]) U95 rfl ?_;have R7:=R6.out;rw[<-hL0,hgp]at R7;rw[<-hL0]at*
       exact R7
theorem Us49 {p:Prop} (h:p:=by
 obtain⟨A,cap,e⟩:=ownsRow_form h;refine⟨A,cap,e,λhp=>?_⟩;obtain⟨g,cap',e1,ob,hc⟩:=eO h hp;rw[e1]at e
 cases e
 obtain⟨_,cs,hb⟩:=dY h (by rw[e1];rfl)
 exact⟨g,0,rfl,hb.lt,λj hj=>by rw[Nat.zero_add];exact hc j _ (by simp[hj])⟩):p:=h
def Dv(ev:Ending):Prop:=∃e:Int,ev=.returned (.tuple #[.pointer none,e])/\e≠0
theorem Ea(w:World)(M:Int)(fv:Value)(code:List (List Is))(h:aP w fv code)(IA:Option Addr)(n Sv:Nat)(p:Pl)(aj:Int)(fold lazy:Bool)(hok:¬eX M code n p aj):
  Calls prog 57 #[.agg #[M,fv],.slice IA n Sv,gU p aj fold lazy] w λev w'=>Dv ev/\Below w.heap.size w w':=by
 obtain⟨FA,Su,rfl⟩:=h.form;have B0:Below w.heap.size w ((w.alloc (.cells #[M,.slice FA code.length Su] 24)).alloc (.cells #[p.wk,p.th,p.fr,p.dq,aj,.bool fold,.bool lazy] 27)):=(Ba _).alloc U8 _;have c1:=sH _ M (.slice FA code.length Su) code (h.ai B0) IA n Sv p aj fold lazy;have L:=Hd (show w.heap.size<=((w.alloc (.cells #[M,.slice FA code.length Su] 24)).alloc (.cells #[p.wk,p.th,p.fr,p.dq,aj,.bool fold,.bool lazy] 27)).heap.size from B0.size);have C1:=Hd c1;have HB:=Hd B0;have HO:=Hd hok;clear h c1 B0 hok;go_enter func57,ntmps57
 go_wp2_with (go_at_call 77;refine C1.out.mono ?_;rintro ev w1 ⟨⟨e,rfl,he⟩,Sr⟩;have ne:¬e=0:=λz=>HO.o (he.1 z);clear he)
 refine bodyPost_ret (v:=.tuple #[.pointer none,e]) U95 rfl ⟨⟨e,rfl,ne⟩,HB.o.trans (Sr.mono L.out)⟩
theorem G9(w:World)(s:Nat)(x:WS)(dv tv rv pv kv nv:Value)(i:Int)(h:af w s (x.arr dv tv rv pv kv nv) 131):Cs 59 #[ptr s,i] w (.tuple #[]) λw'=>af w' s ({x with Sa:=i,R8:=4}.arr dv tv rv pv kv nv) 131 /\Kept (One s) w w':=by
 have c1:Hid (Cs 88 #[ptr s,i] w (.tuple #[]) λw'=>af w' s ({x with Sa:=i,R8:=4}.arr dv tv rv pv kv nv) 131 /\Kept (One s) w w'):=Hd (by
  have x1:=h.c1;have x2:=h.c2;have xf:=h.fz;have H:=Hd h;clear h;go_enter func88,ntmps88;go_wp2_with fail
  go_end0
  exact⟨rfl,(H.o.set 2 _).set 1 _,((Kept.one w s 2 _).trans (Kept.one _ s 1 _))⟩)
 clear h;go_enter func59,ntmps59
 go_wp2_with (go_at_call 88;refine c1.o.mono ?_;rintro ev w1 ⟨rfl,h1,h2⟩)
 go_end0
 exact⟨rfl,h1,h2⟩
theorem bI.QW{w:World}{y:Ly}{m:Co}(h:bI w y m){b:Nat}(hb:y.has b):∃cs t,af w b cs t/\t≠ 65 /\t≠ 69 /\t≠ 131 :=by
 rcases hb with rfl|rfl|rfl|rfl|rfl|rfl|rfl|rfl|rfl|e|rfl|e|rfl|e|e
 ·exact⟨_,_,h.core,by decide,by decide,by decide⟩
 ·obtain⟨_,q⟩:=h.RY.fs;exact⟨_,_,q,by decide,by decide,by decide⟩
 ·exact⟨_,_,h.RY.ws,by decide,by decide,by decide⟩
 ·obtain⟨_,q⟩:=h.data.fs;exact⟨_,_,q,by decide,by decide,by decide⟩
 ·exact⟨_,_,h.data.ws,by decide,by decide,by decide⟩
 ·exact⟨_,_,h.table,by decide,by decide,by decide⟩
 ·exact⟨_,_,h.frames,by decide,by decide,by decide⟩
 ·exact⟨_,_,h.arena,by decide,by decide,by decide⟩
 ·exact⟨_,_,h.Sj,by decide,by decide,by decide⟩
 ·obtain⟨cs,q⟩:=h.back.type e;exact⟨_,_,q,by decide,by decide,by decide⟩
 ·exact⟨_,_,h.sink,by decide,by decide,by decide⟩
 ·obtain⟨cs,q⟩:=h.out.type e;exact⟨_,_,q,by decide,by decide,by decide⟩
 ·exact⟨_,_,h.log,by decide,by decide,by decide⟩
 ·obtain⟨cs,q⟩:=h.evs.type e;exact⟨_,_,q,by decide,by decide,by decide⟩
 ·obtain⟨cs,t,h1,h2⟩:=h.nE b e
  exact⟨cs,t,h1,by rcases h2 with r|r<;>subst r<;>decide,by rcases h2 with r|r<;>subst r<;>decide,by rcases h2 with r|r<;>subst r<;>decide⟩
def Bc(i:Int):Array Value:=(WS.zero i).arr (.pointer none) .nilFunc (.pointer none) (.pointer none) (.pointer none) (.pointer none)
structure Bg(w wr:World)(y:Ly)(m:Co)(mq:Nat)(v:Value)(ss:List Nat):Prop where
 C:bI wr y m
 ge:∀b,y.has b->w.heap.size<=b
 bx:af wr mq #[ptr y.c,v] 69
 lm:w.heap.size<=mq
 row:wr.ownsRow w.heap.size 65 1 v ss.length (ss.map ptr)
 wk:∀i (hi:i<ss.length),af wr ss[i] (Bc i) 131
 lw:∀s∈ss,w.heap.size<=s
 nd:ss.Nodup
 B:Below w.heap.size w wr
theorem Bg.kept{S:Nat->Prop}{w wr w2:World}{y:Ly}{m:Co}{mq:Nat}{v:Value}{ss:List Nat}(h:Bg w wr y m mq v ss)(k:Kept S wr w2)(hs:∀b,¬S b):Bg w w2 y m mq v ss:=
 ⟨h.C.kept k (λb _=>hs b),h.ge,k.blk h.bx (hs _),h.lm,gW h.row k (λb _ _ _=>hs b),λi hi=>k.blk (h.wk i hi) (hs _),h.lw,h.nd,h.B.trans (k.below (λb z=>absurd z (hs b)) h.B.size)⟩
theorem Bg.ai{w wr w2:World}{y:Ly}{m:Co}{mq:Nat}{v:Value}{ss:List Nat}(h:Bg w wr y m mq v ss)(k:Below wr.heap.size wr w2):Bg w w2 y m mq v ss:=h.kept (Kept.ob (S:=None) k) (λ_ z=>z)
theorem Bg.snoc{w wr w2 w3:World}{y:Ly}{m:Co}{mq:Nat}{v v2:Value}{ss:List Nat}{s:Nat}(h:Bg w wr y m mq v ss)(hb:Below wr.heap.size wr w2)(bs:af w2 s (Bc ss.length) 131)(gs:wr.heap.size<=s)
  (ho:w3.ownsRow w.heap.size 65 1 v2 (ss.length+1) (ss.map ptr++[ptr s])) (hg:(w2.alloc (.cells #[ptr s] 65)).grownBy w3 v.ownBlock):
  af w3 mq #[ptr y.c,v] 69 /\Bg w (w3.setCell ⟨mq,1,none⟩ v2) y m mq v2 (ss++[s]):=by
 have new:s∉ss:=λz=>by
  obtain⟨i,hi,e⟩:=List.mem_iff_getElem.1 z
  have:=(h.wk i hi).lt
  omega
 have A1:Below w2.heap.size w2 (w2.alloc (.cells #[ptr s] 65)):=Ba _;have h2:=(h.ai hb).ai A1;have bs2:=bs.alloc (.cells #[ptr s] 65);have K:=Kept.grown hg;have ty:∀b,v.ownBlock=some b->∃cs,af (w2.alloc (.cells #[ptr s] 65)) b cs 65 :=λb e=>(dY h2.row e).2;have far:∀{b:Nat} {cs:Array Value} {t:TypeId},af (w2.alloc (.cells #[ptr s] 65)) b cs t->t≠ 65 ->¬v.ownBlock=some b:=λq n z=>by
  obtain⟨cs,q2⟩:=ty _ z
  exact n (q.type q2)
 have C3:=h2.C.kept K (λb hb z=>by obtain⟨cs,t,q,n1,_,_⟩:=h2.C.QW hb;exact far q n1 z);have b3:=K.blk h2.bx (far h2.bx U0);have w3k:∀i (hi:i<ss.length),af w3 ss[i] (Bc i) 131 :=λi hi=>K.blk (h2.wk i hi) (far (h2.wk i hi) U0);have s3:=K.blk bs2 (far bs2 U0);have K1:=Kept.one w3 mq 1 v2;have far1:∀{b:Nat} {cs:Array Value} {t:TypeId},af w3 b cs t->t≠ 69 ->¬One mq b:=λq n z=>by
  have z:_=mq:=z;subst z
  exact n (q.type b3)
 refine⟨b3,C3.kept K1 (λb hb=>by obtain⟨cs,t,q,_,n2,_⟩:=C3.QW hb;exact far1 q n2),h.ge,b3.set 1 v2,h.lm,?_,λi hi=>?_,λb hb=>?_,?_,?_⟩
 ·have q:=gW ho K1 (λb cs e q=>far1 q U0)
  rw[List.length_append,List.map_append]
  exact q
 ·by_cases e:i<ss.length
  ·rw[List.getElem_append_left e]
   exact K1.blk (w3k i e) (far1 (w3k i e) U0)
  ·have e2:i=ss.length:=by simp at hi;omega
   subst e2;rw[List.getElem_append_right nr]
   simpa using K1.blk s3 (far1 s3 U0)
 ·rcases List.mem_append.1 hb with q|q
  ·exact h.lw b q
  ·simp at q;subst q;exact nT h.B.size gs
 ·rw[List.nodup_append]
  exact⟨h.nd,by simp,λa ha b hb=>by simp at hb;subst hb;exact λe=>new (e▸ha)⟩
 ·exact((h2.B).trans (K.below (λb z=>(dY h2.row z).1) h2.B.size)).setCell h.lm _
theorem qz(i:Nat):(WS.first i).dq=none/\(WS.first i).thn=none/\(WS.first i).rt=none/\(WS.first i).wk=none/\(WS.first i).np=none:=by
 unfold WS.first
 split<;>exact⟨rfl,rfl,rfl,rfl,rfl⟩
theorem kN(g:Gw)(i b:Nat):¬g.has (WS.first i) b:=by
 obtain⟨h1,h2,h3,h4,h5⟩:=qz i;unfold Gw.has;rw[h1,h2,h3,h4,h5]
 simp
theorem EC{w:World}{q:Nat}(g:Gw)(i:Nat)(h:af w q ((WS.first i).arr (.pointer none) .nilFunc (.pointer none) (.pointer none) (.pointer none) (.pointer none)) 131):rW w q g (WS.first i):=by
 obtain⟨h1,h2,h3,h4,h5⟩:=qz i;refine⟨_,_,_,_,_,_,h,?_,?_,?_,?_,?_⟩
 ·intro r e;rw[h1]at e;cases e
 ·intro r e;rw[h2]at e;cases e
 ·intro r e;rw[h3]at e;cases e
 ·intro r e;rw[h4]at e;cases e
 ·intro r e;rw[h5]at e;cases e
theorem Bg.Qv{w wr w2:World}{y:Ly}{m:Co}{mq:Nat}{v:Value}{ss:List Nat}(h:Bg w wr y m mq v ss)(hn:0<ss.length)(hl:ss.length<=64)
  (b0:af w2 ss[0] ((WS.first 0).arr (.pointer none) .nilFunc (.pointer none) (.pointer none) (.pointer none) (.pointer none)) 131) (K:Kept (One ss[0]) wr w2):
  ∃z lb cap cs,fM z w2 ⟨m,(List.range ss.length).map WS.first⟩/\gK z mq lb ss.length cap cs/\z.B=w.heap.size/\z.w0=w:=by
 have s0:=h.wk 0 hn;have far:∀{b:Nat} {cs:Array Value} {t:TypeId},af wr b cs t->t≠ 131 ->¬One ss[0] b:=λq n z=>by
  have z:_=ss[0]:=z;subst z
  exact n (q.type s0)
 have C2:=h.C.kept K (λb hb=>by obtain⟨cs,t,q,_,_,n3⟩:=h.C.QW hb;exact far q n3);have bx2:=K.blk h.bx (far h.bx U0);have row2:=gW h.row K (λb cs e q=>far q U0);obtain⟨_,⟨_,e0⟩|⟨lb,cap,cur,e1,hlb,hg,_,_,_,hx⟩⟩:=row2
 ·omega
 subst e1;have hg:af w2 lb cur 65 :=hg;have nY:∀{b:Nat} {cs:Array Value} {t:TypeId},af w2 b cs t->(t= 65 ∨t= 69 ∨t= 131)->¬y.has b:=λq e z=>by
  obtain⟨cs',t',q',n1,n2,n3⟩:=C2.QW z
  exact Us107
 have wk2:∀k (hk:k<ss.length),af w2 ss[k] ((WS.first k).arr (.pointer none) .nilFunc (.pointer none) (.pointer none) (.pointer none) (.pointer none)) 131 :=λk hk=>by
  by_cases e:k=0
  ·subst e;exact b0
  ·have q:=h.wk k hk
   have ne:¬One ss[0] ss[k]:=λz=>by
    have z:ss[k]=ss[0]:=z
    exact e ((List.getElem_inj h.nd).1 z)
   have q2:=K.blk q ne;unfold WS.first;rw[if_neg e]
   exact q2
 have wn:∀k (hk:k<ss.length),ss.getD k 0=ss[k]:=λk hk=>by simp[List.getD,hk]
 have len:((List.range ss.length).map WS.first).length=ss.length:=by simp
 have get:∀k (hk:k<((List.range ss.length).map WS.first).length),((List.range ss.length).map WS.first)[k]=WS.first k:=λk hk=>by simp
 refine⟨⟨y.c,y.ws,y.wd,y.ds,y.dd,y.t,y.fr,y.a,y.hl,y.o,y.g,y.cv,y.cb,λk=>ss.getD k 0,w.heap.size,w,λb=>if b=mq then some (.cells #[ptr y.c,.slice (some ⟨lb,0,none⟩) ss.length cap] 69 (0,0))else if b=lb then some (.cells cur 65 (0,0))else none⟩,lb,cap,cur,⟨y.bk,y.ov,y.gv,λ_=>⟨0,0,0,0,0,0⟩,?_⟩,?_,rfl,rfl⟩
 ·have ai:Below w.heap.size w w2:=h.B.trans (K.below (λb z=>by have z:b=ss[0]:=z;subst z;exact h.lw _ (List.getElem_mem hn)) h.B.size)
  refine⟨C2,λk hk=>?_,h.ge,λk hk b hb=>?_,λi j hi hj hij b h1 h2=>?_,ai,λb o hX=>?_⟩
  ·have hk:k<((List.range ss.length).map WS.first).length:=hk
   show rW w2 (ss.getD k 0) _ (((List.range ss.length).map WS.first)[k]'hk);rw[get k hk,wn k (by rw[<-len];exact hk)]
   exact EC _ k (wk2 k (by rw[<-len];exact hk))
  ·have hk:k<((List.range ss.length).map WS.first).length:=hk
   have hk2:k<ss.length:=by rw[<-len];exact hk
   have hb:b=ss.getD k 0∨Gw.has ⟨0,0,0,0,0,0⟩ (((List.range ss.length).map WS.first)[k]'hk) b:=hb;rw[get k hk,wn k hk2]at hb
   rcases hb with rfl|hb
   ·exact⟨h.lw _ (List.getElem_mem hk2),(wk2 k hk2).lt,nY (wk2 k hk2) (Or.inr (Or.inr rfl))⟩
   ·exact absurd hb (kN _ _ _)
  ·have hi:i<((List.range ss.length).map WS.first).length:=hi
   have hj:j<((List.range ss.length).map WS.first).length:=hj;have hi2:i<ss.length:=by rw[<-len];exact hi
   have hj2:j<ss.length:=by rw[<-len];exact hj
   have h1:b=ss.getD i 0∨Gw.has ⟨0,0,0,0,0,0⟩ (((List.range ss.length).map WS.first)[i]'hi) b:=h1;have h2:b=ss.getD j 0∨Gw.has ⟨0,0,0,0,0,0⟩ (((List.range ss.length).map WS.first)[j]'hj) b:=h2;rw[get i hi,wn i hi2]at h1;rw[get j hj,wn j hj2]at h2
   rcases h1 with h1|h1
   ·rcases h2 with h2|h2
    ·exact hij ((List.getElem_inj h.nd).1 (h1.symm.trans h2))
    ·exact kN _ _ _ h2
   ·exact kN _ _ _ h1
  ·have hX:(if b=mq then some (.cells #[ptr y.c,.slice (some ⟨lb,0,none⟩) ss.length cap] 69 (0,0))else if b=lb then some (.cells cur 65 (0,0))else none)=some o:=hX
   have wkf:∀{b:Nat} {cs:Array Value} {t:TypeId},af w2 b cs t->t≠ 131 ->∀k (hk:k<((List.range ss.length).map WS.first).length),¬(b=ss.getD k 0∨Gw.has ⟨0,0,0,0,0,0⟩ (((List.range ss.length).map WS.first)[k]'hk) b):=λq n k hk z=>by
    have hk2:k<ss.length:=by rw[<-len];exact hk
    rw[get k hk,wn k hk2]at z
    rcases z with z|z
    ·subst z;exact n (q.type (wk2 k hk2))
    ·exact kN _ _ _ z
   split at hX
   ·rename_i e;cases hX;subst e
    exact⟨bx2,nY bx2 (Or.inr (Or.inl rfl)),wkf bx2 U0⟩
   ·split at hX
    ·rename_i e;cases hX;subst e
     exact⟨hg,nY hg (Or.inl rfl),wkf hg U0⟩
    ·cases hX
 ·refine⟨if_pos rfl,?_,λk hk=>?_,hn,hl⟩
  ·show(if lb=mq then _ else if lb=lb then _ else none)=_
   rw[if_neg (λe=>by subst e;exact absurd (hg.type bx2) U0),if_pos rfl]
  ·have e:(ss.map ptr)[k]? =some (ptr ss[k]):=by simp[hk]
   rw[<-hx,List.getElem?_take]at e
   split at e
   ·show cur[k]? =some (ptr (ss.getD k 0))
    rw[wn k hk,<-e];simp
   ·cases e
theorem Ob:(prog.info? 65).map (λi=>(i.zero,i.size,i.bytes))=some (some (.pointer none),1,8):=by kernel_rfl
theorem EJ{w:World}{n:Nat}{o:Obj}(h:n<=w.heap.size):n<=(w.alloc o).heap.size:=by simp;omega
theorem len8{k n:Nat}(h:k<n)(hn:n<=64):k+1<=maxLen/\(k+1)*8<=140737488355328:=by unfold maxLen;omega
theorem Ak(w:World)(M:Int)(fv:Value)(code:List (List Is))(h:aP w fv code)(iv:Value)(input:List Int)(hi:aV w iv input)(p:Pl)(aj:Int)(fold lazy:Bool)(hok:eX M code input.length p aj):
  Calls prog 25 #[.agg #[M,fv],iv,gU p aj fold lazy] w λev w'=>∃mq z lb cap cs,ev=.returned (.tuple #[ptr mq,(0:Int)])/\fM z w' (MS.first p aj fold lazy code (dW (List.replicate M.toNat 0) 0 input))/\gK z mq lb p.wk.toNat cap cs/\z.B=w.heap.size/\z.w0=w:=by
 obtain⟨FA,Su,rfl⟩:=h.form;obtain⟨IA,Sv,rfl,hin⟩:=hi;obtain⟨i1,hj,hy0,hy1,hy2⟩:=info_parts Ob;have hpk:=hok.2.1;obtain⟨n,hn0⟩:=Int.eq_ofNat_of_zero_le (show 0<=p.wk by unfold Pl.ok at hpk;omega);have n64:0<n/\n<=64:=by unfold Pl.ok at hpk;omega
 have ntn:p.wk.toNat=n:=by omega
 have NN:=Hd n64;have HN0:=Hd hn0;have N0:=Hd n64.2;have NT:=Hd ntn;have N1:=Hd (nT n64.2 (by decide:64<=1000000));have bp:=af.new w #[M,.slice FA code.length Su] 24 _ rfl;have bq:=af.new (w.alloc (.cells #[M,.slice FA code.length Su] 24)) #[p.wk,p.th,p.fr,p.dq,aj,.bool fold,.bool lazy] 27 _ rfl;have bp:=bp.alloc (.cells #[p.wk,p.th,p.fr,p.dq,aj,.bool fold,.bool lazy] 27);have B0:Below w.heap.size w ((w.alloc (.cells #[M,.slice FA code.length Su] 24)).alloc (.cells #[p.wk,p.th,p.fr,p.dq,aj,.bool fold,.bool lazy] 27)):=(Ba _).alloc U8 _;have hI:aV w (.slice IA input.length Sv) input:=⟨IA,Sv,rfl,hin⟩;have C1:=Hd (JD _ M (.slice FA code.length Su) code (h.ai B0) (.slice IA input.length Sv) input (hI.ai B0 nr) p aj fold lazy hok);have cW:=Hd (λi w=>zI i w);simp only[World.size_alloc]at bp bq;have HC0:=Hd (PQ.mk bp bq B0);clear h bp bq B0 hin hok hI hpk n64 ntn hn0;unfold MS.first;rw[NT.out];generalize hm:Co.first p aj fold lazy code (dW (List.replicate M.toNat 0) 0 input)=m at*;clear hm;go_enter func25,ntmps25;go_upto_region 1 with fail;generalize((w.alloc (.cells #[M,.slice FA code.length Su] 24)).alloc (.cells #[p.wk,p.th,p.fr,p.dq,aj,.bool fold,.bool lazy] 27))=W at*;generalize hgp:w.heap.size=gp at*;generalize hgq:gp+1=gq at*;obtain⟨x0,x1,x2,x3,x4,x5,x6,x7,x8⟩:=HC0.o.cells
 go_upto_region 4 with(go_at_call 57;refine C1.out.mono ?_;rintro ev w1 ⟨y,rfl,CY,GE,Sr⟩)
 have HC:=HC0.o.ai Sr;have S0:=Bg.mk (CY.ai (Ba (.cells #[ptr y.c,.slice none 0 0] 69))) (λb hb=>nT HC0.o.B.size (GE b hb)) (af.new w1 #[ptr y.c,.slice none 0 0] 69 _ rfl) HC.B.size (ss:=[]) (World.ownsRow_nil _ _ _ _) (λi hi=>absurd hi U8) (λs hs=>by cases hs) List.nodup_nil (HC.B.alloc HC.B.size _);have S0:=Hd S0;have HCa:=Hd (HC.ai (Ba (.cells #[ptr y.c,.slice none 0 0] 69)));have u0:(w1.alloc (.cells #[ptr y.c,.slice none 0 0] 69)).cell? ⟨gq,0,none⟩=some ↑p.wk:=HCa.out.pq.cell 0;rw[HN0.o]at u0;clear CY GE Sr HC HC0 x0 x1 x2 x3 x4 x5 x6 x7 x8 C1;go_upto_region 5 with fail;generalize w1.alloc (.cells #[ptr y.c,.slice none 0 0] 69)=W2 at*;generalize w1.heap.size=mq at*;go_wp2_with fail
 go_loopw [27] (λi wr=>∃(k:Nat) (v:Value) (ss:List Nat),k<=n/\i=.int .i64 k/\ss.length=k/\Bg w wr y m mq v ss) (λi _=>n-(intOf i).toNat)
 case atStart=>exact⟨0,_,[],n0 _,rfl,rfl,S0.out⟩
 case round=>
  obtain⟨k,v,ss,hk,rfl,hlen,CJ⟩:=hrel
  by_cases hlt:k<n
  ·have hw:wrap64 ((k:Int)+1)=((k+1:Nat):Int):=iN hlt N1.out
   have hlt':(k:Int)<(n:Int):=jJ hlt;have M2:=Hd (iM hlt);have K1:k+1<=n:=hlt;have LL:=Hd (len8 hlt N0.out);have LK:=Hd hlen;obtain⟨Av,cvc,rfl⟩:=ownsRow_form CJ.row;rw[hlen]at CJ;have y0:=CJ.bx.c1;have y1:wr.drew.cell? ⟨mq,1,none⟩=some (.slice Av k cvc):=CJ.bx.cell 1;have CJ:=Hd CJ;clear S0 HCa u0 hk hlen;clear hlt;go_upto_region 8 with fail
   go_region_law (first|(refine ay _ (by rfl) _ _ 67 (by rfl) w.heap.size 65 i1 _ 1 8 underlying67 hj hy0 hy1 hy2 rfl U0 (.slice Av k cvc) k (ss.map ptr) (by rfl) T2.out (.slice (some ⟨w2.heap.size,0,none⟩) 1 1) 1 [ptr s] (by rfl) (pE w2 _ _) U17 LL.out.1 LL.out.2 GS.out ?_;intro v2 w3 hown2 hgrow2 hat2;obtain⟨A2,c2',rfl⟩:=ownsRow_form hown2;obtain⟨z1,z2⟩:=CJ.out.snoc HB2.o BS.o GW.out U97 hgrow2;have z3:=z1.fz;have z4:=z1.c1;have Z2:=Hd z2;clear hown2 hgrow2 hat2 z1 z2)|(go_simp;go_at_call 58;refine(cW.o _ _).mono ?_;rintro ev w2 ⟨s,rfl,bs,gs,hb2⟩;have HB2:=Hd (show Below wr.heap.size wr w2 by first|exact hb2|exact(Below.refl _ _).drew.trans hb2);have BS:=Hd (show af w2 s (Bc ss.length) 131 by rw[LK.out];exact bs);have GW:=Hd (show wr.heap.size<=s from gs);have CX:=Hd (CJ.out.ai HB2.o);have T2:=Hd (show(w2.alloc (.cells #[ptr s] 65)).ownsRow w.heap.size 65 1 (.slice Av k cvc) k (ss.map ptr)from by have z:=CX.out.row.alloc (.cells #[ptr s] 65);rw[LK.out]at z;exact z);have GS:=Hd (EJ (o:=.cells #[ptr s] 65) CX.out.B.size);have y2:=CX.out.bx.c1;have y3:(w2.alloc (.cells #[ptr s] 65)).cell? ⟨mq,1,none⟩=some (.slice Av k cvc):=kc y2;clear bs gs hb2))
   all_goals go_wp2_with fail
   all_goals go_roundw
   all_goals first|exact M2.out|exact⟨k+1,_,_,K1,by first|rw[hw]|simp,by first|(rw[List.length_append,LK.out];rfl)|simp[LK.out],Z2.out⟩|(rw[hw];simpa using M2.out)
  ·obtain rfl:k=n:=Nat.le_antisymm hk (Nat.le_of_not_lt hlt)
   have hge:¬((k:Int)<(k:Int)):=Int.lt_irrefl _;have h0:0<ss.length:=by rw[hlen];exact NN.out.1
   obtain⟨lb0,cap0,e1,_,hc⟩:=eO CJ.row h0;subst e1;have l0:wr.cell? ⟨lb0,0,none⟩=some (ptr ss[0]):=hc 0 _ (by simp[h0]);have y0:=CJ.bx.c1;have cS:=Hd (G9 wr ss[0] (WS.zero (0:Nat)) _ _ _ _ _ _ 1 (CJ.wk 0 h0));have LK:=Hd hlen;have H0:=Hd h0;have RP:=Hd (λw2 a K=>CJ.Qv h0 (by rw[hlen];exact N0.out) (w2:=w2) a K);have p0:¬((ss.length:Int)=0):=Int.natCast_ne_zero_iff_pos.2 h0;have p1:(0:Int)<(ss.length:Int):=Int.natCast_pos.2 h0;generalize hs0:ss[0]=s0 at*;clear hc CJ S0 HCa u0 hk hlt hlen h0 hs0
   go_wp2_with (go_at_call 59;refine cS.o.mono ?_;rintro ev w2 ⟨rfl,b2,K2⟩)
   obtain⟨z,lb,cap,cs,R,MB,e3,e4⟩:=RP.out _ b2 K2;refine bodyPost_ret (v:=.tuple #[ptr mq,(0:Int)]) U87 rfl ?_;rw[LK.out]at R MB
   exact⟨mq,z,lb,cap,cs,rfl,R,MB,by first|exact e3|(rw[hgp]at e3;exact e3),e4⟩
theorem Ga(w:World)(M:Int)(fv:Value)(code:List (List Is))(h:aP w fv code)(IA:Option Addr)(n Sv:Nat)(p:Pl)(aj:Int)(fold lazy:Bool)(hok:¬eX M code n p aj):
  Calls prog 25 #[.agg #[M,fv],.slice IA n Sv,gU p aj fold lazy] w λev w'=>Dv ev/\Below w.heap.size w w':=by
 obtain⟨FA,Su,rfl⟩:=h.form;have B0:Below w.heap.size w ((w.alloc (.cells #[M,.slice FA code.length Su] 24)).alloc (.cells #[p.wk,p.th,p.fr,p.dq,aj,.bool fold,.bool lazy] 27)):=(Ba _).alloc U8 _;have c1:=Ea _ M (.slice FA code.length Su) code (h.ai B0) IA n Sv p aj fold lazy hok;have L:=Hd (show w.heap.size<=((w.alloc (.cells #[M,.slice FA code.length Su] 24)).alloc (.cells #[p.wk,p.th,p.fr,p.dq,aj,.bool fold,.bool lazy] 27)).heap.size from B0.size);have C1:=Hd c1;have HB:=Hd B0;clear h c1 B0 hok;go_enter func25,ntmps25
 go_wp2_with (go_at_call 57;refine C1.out.mono ?_;rintro ev w1 ⟨⟨e,rfl,ne⟩,Sr⟩)
 refine bodyPost_ret (v:=.tuple #[.pointer none,e]) U87 rfl ⟨⟨e,rfl,ne⟩,HB.o.trans (Sr.mono L.out)⟩
theorem Us81 {p:Prop} (h:p:=by
 go_wp2_with (go_at_call 62;refine cc.o.mono ?_;rintro ev w1 ⟨v,rfl,ho2,hb2⟩)
 go_ret
 exact⟨v,rfl,ho2,hb2⟩):p:=h
theorem Us11 {p:Prop} (h:p:=by
 obtain⟨k,hk,rfl,hB⟩:=hrel
 by_cases hlt:k<l.length
 ·have hw:wrap64 ((k:Int)+1)=((k+1:Nat):Int):=iN hlt (nT HN.o U0)
  have hlt':(k:Int)<(l.length:Int):=jJ hlt;obtain⟨b1,o1,rfl,l1,q1⟩:=HA.o.at_ k hlt;obtain⟨b2,o2,rfl,l2,q2⟩:=HB.o.at_ k hlt;have q1:wr.cell? ⟨b1,o1+k,none⟩=some (.int .i64 l[k]):=kb hB l1 q1;have q2:wr.cell? ⟨b2,o2+k,none⟩=some (.int .i64 l[k]):=kb hB l2 q2;have M2:=Hd (iM hlt);have K1:k+1<=l.length:=hlt;have HB2:=Hd hB;clear hB hk HA HB HN;generalize l[k]=v at*;clear hlt;generalize l.length=n at*;go_upto_region 6 with fail
  go_quiet (fail)
  have HB3:=Hd (below_drewN HB2.o nq);generalize wr.drewN nq=w9 at*;go_wp2_with fail
  go_roundw
  case rel=>exact⟨k+1,K1,by first|rw[hw]|simp,HB3.o⟩
  case measure=>first|exact M2.out|(rw[hw];simpa using M2.out)
 ·obtain rfl:k=l.length:=Nat.le_antisymm hk (Nat.le_of_not_lt hlt)
  have hge:¬((l.length:Int)<(l.length:Int)):=Int.lt_irrefl _;clear HA HB;go_wp2_with fail
  go_ret
  exact⟨rfl,hB⟩):p:=h
theorem vD(w:World)(ad:Addr)(n c:Nat)(news:List Value)(hl:news.length=n*1)(hnews:∀j u,news[j]? =some u->w.cell? (ad.add j)=some u)(h1:∀u∈news,u.oneCell'=true)(hn:n<=1048576):Calls prog 62 #[.slice (some ad) n c] w λev w'=>∃v,ev=.returned v/\w'.ownsRow w.heap.size 3 1 v n news/\Below w.heap.size w w':=by
 obtain⟨i0,hi,hz0,hz1,hz2⟩:=info_parts fH;have hrun:Sem.run prog (binOp BinOp.eql 25 (.slice (some ad) n c) (.slice none 0 0)) w=.ok (.bool false) w:=by kernel_rfl
 have hown:(w.alloc (.cells #[] 3)).ownsRow w.heap.size 3 1 (.slice (some ⟨w.heap.size,0,none⟩) 0 0) 0 []:=⟨by simp,.inr ⟨w.heap.size,0,#[],rfl,Nat.le_refl _,af.new w _ _ _ rfl,Nat.le_refl _,by decide,by simp,by simp⟩⟩;have hnews':∀j u,news[j]? =some u->(w.alloc (.cells #[] 3)).cell? (ad.add j)=some u:=λj u q=>kc (hnews j u q);go_enter func62,ntmps62
 go_wp2_with (at_builtin;refine wpList_append_own _ rfl _ _ 25 rfl w.heap.size 3 i0 _ 1 8 underlying25 hi hz0 hz1 hz2 rfl U0 _ 0 [] rfl hown ad n c news rfl hl hnews' h1 U71 U2 U8 ?_;intro v' w2 hown' hgrow hnil)
 exact Us43
theorem Bu(w:World):Cs 62 #[.slice none 0 0] w (.slice none 0 0) λw'=>w=w':=by
 have hrun:Sem.run prog (binOp BinOp.eql 25 (.slice none 0 0) (.slice none 0 0)) w=.ok (.bool true) w:=by kernel_rfl
 go_enter func62,ntmps62;go_wp2_with fail
 go_ret
 exact⟨rfl,rfl⟩
theorem kR(l:List Int):∀u∈l.map (Value.int .i64),u.oneCell'=true:=λu hu=>by
 obtain⟨x,_,rfl⟩:=List.mem_map.1 hu
 rfl
theorem AJ(w:World)(s d:Nat)(L:List Int)(h:aD w s d L)(hL:L.length<=1048576):Calls prog 32 #[ptr s] w λev w'=>∃v,ev=.returned v/\w'.ownsRow w.heap.size 3 1 v L.length (L.map (Value.int .i64))/\Below w.heap.size w w':=by
 obtain⟨cap,hb⟩:=h.fs;have x0:=hb.c0;have cc:=Hd (vD w ⟨d,0,none⟩ L.length cap (L.map (Value.int .i64)) U8 (λj u hj=>by
  rw[show(Addr.add ⟨d,0,none⟩ j)=⟨d,j,none⟩from by rw[Addr.add_lit,Nat.zero_add],h.ws.cell j,<-hj];simp[ints]) (kR L) hL)
 clear h hb;go_enter func32,ntmps32
 exact Us81
theorem eD:∀l:List Int,l.flatMap dB=l.map (Value.int .i64)
 |[]=>rfl
 |a::l=>by rw[List.flatMap_cons,List.map_cons,eD l];rfl
theorem GU(w:World)(g:Nat)(gv m:Value)(l:List Int)(hb:af w g #[gv,m] 138)(ho:Own w 3 1 dB gv l)(hn:l.length<=1048576):Calls prog 30 #[ptr g] w λev w'=>∃v,ev=.returned v/\w'.ownsRow w.heap.size 3 1 v l.length (l.map (Value.int .i64))/\Below w.heap.size w w':=by
 have x0:=hb.c0;have fm:=eD l;have hO:=ho;obtain⟨h1,⟨h2,h3⟩|⟨q,cap,cur,e1,_,hq,_⟩⟩:=ho
 ·subst h2
  have l0:l=[]:=List.length_eq_zero_iff.1 h3;have cc:=Hd (Bu w);clear hb h1;go_enter func30,ntmps30
  go_wp2_with (go_at_call 62;refine cc.o.r ?_)
  go_ret
  subst l0
  exact⟨_,rfl,World.ownsRow_nil _ _ _ _,Below.refl _ _⟩
 ·subst e1
  have cc:=Hd (vD w ⟨q,0,none⟩ l.length cap (l.flatMap dB) h1 (λj u hj=>nR hO j u hj) (by rw[fm];exact kR l) hn);rw[fm]at cc;clear hb h1 hq;go_enter func30,ntmps30
  exact Us81
theorem DF(w:World)(a:Nat)(v0 v1 v2:Value)(p:Int)(h:af w a #[v0,v1,v2,p] 184):Cs 63 #[ptr a] w ↑p λw'=>w=w':=by
 have x3:=h.c3;clear h;go_enter func63,ntmps63;go_wp2_with fail
 go_ret
 exact⟨rfl,rfl⟩
theorem Jg.at_{w:World}{base:Nat}{v:Value}{l:List Int}(h:w.ownsRow base 3 1 v l.length (l.map (Value.int .i64))):aV w v l:=by
 exact Us49
theorem EX(w:World)(a b:Value)(l:List Int)(ha:aV w a l)(hb:aV w b l)(hn:l.length<=1000):Cs 48 #[a,b] w (.bool true) λw'=>Below w.heap.size w w':=by
 have HA:=Hd ha;have HB:=Hd hb;obtain⟨A,ca,rfl,za⟩:=ha;obtain⟨B,cb,rfl,zb⟩:=hb;clear za zb;have HN:=Hd hn;clear hn;go_enter func48,ntmps48;go_wp2_with fail
 go_loopw [5] (λi wr=>∃k:Nat,k<=l.length/\i=.int .i64 k/\Below w.heap.size w wr) (λi _=>l.length-(intOf i).toNat)
 case atStart=>exact⟨0,n0 _,rfl,Below.refl _ _⟩
 case round=>
  exact Us11
end Go.Proofs.YteiignfflbmafaaGreat.Tp
