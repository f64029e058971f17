/- TopOne, part 25. -/
import Derived.Test.YteiignfflbmafaaGreatQ20
import Derived.Test.YteiignfflbmafaaGreatQ21
import Derived.Maps.OwnOps
import Derived.Maps.OwnSet
import Derived.MapKept
set_option linter.unusedVariables false
set_option linter.unusedSimpArgs false
set_option maxRecDepth 100000
set_option maxHeartbeats 8000000
namespace Go.Proofs.YteiignfflbmafaaGreat.Tp
open Go.Proofs.Tryz
open Go.RowKit Go.Proofs.YteiignfflbmafaaGreat.Tok
def gL(w:World)(b n:Nat)(f:Int->Int):Prop:=∃D:DataW Unit,w.ownsMap prog 3 (plainElem prog 3) b n D/\∀x,(Lit.int .i64 x).wf=true->D.atKey (.int .i64 x) (.lit (.int .i64 0))=.lit (.int .i64 (f x))
theorem Jd(w:World):(zeroValue 3).run prog w=.ok (.int .i64 0) w:=by kernel_rfl
theorem gL.look{w:World}{b n:Nat}{f:Int->Int}(h:gL w b n f){x:Int}(hx:(Lit.int .i64 x).wf=true):(Instr.lookup 85 (.map (some b)) (.int .i64 x) false).run prog w=.ok (.int .i64 (f x)) w:=by
 obtain⟨D,h1,h2⟩:=h;obtain⟨c,hrun,hat,hw⟩:=h1.lookup_int (t:= 85) (Go.Maps.int_keyed underlying3) underlying85 underlying3 (Jd w) (Go.Maps.keyOf_int_mk underlying3 hx);rw[h2 x hx]at hat;have e:f x=c:=by simpa using hat
 rw[e]
 exact hrun
theorem gL.put{w:World}{b n:Nat}{f:Int->Int}(h:gL w b n f)(hn:n<maxLen){x v:Int}(hx:(Lit.int .i64 x).wf=true)(hv:(Lit.int .i64 v).wf=true):∃w',(Instr.mapUpdate 85 (.map (some b)) (.int .i64 x) (.int .i64 v)).run prog w=.ok () w'/\gL w' b (n+1) (λy=>if y=x then v else f y)/\w.grownBy w' (some b):=by
 obtain⟨D,h1,h2⟩:=h;obtain⟨w',r1,r2,r3⟩:=h1.store (t:= 85) (Go.Maps.int_keyed underlying3) underlying85 hn (Go.Maps.keyOf_int_mk underlying3 hx) (plainElem_int underlying3 hv);refine⟨w',r1,⟨_,r2,λy hy=>?_⟩,r3.grown⟩;show _=DataW.lit (.int .i64 (if y=x then v else f y))
 by_cases e:y=x
 ·subst e
  rw[if_pos rfl,Maps.atKey_put_same h1.isMap (show WideAt.IsKeyLit (.int .i64 y)from trivial)]
 ·rw[if_neg e,Maps.atKey_put_other (λz=>e (by cases z;rfl)),h2 y hy]
theorem gL.new(w:World):gL (w.alloc (.map #[] 0)) w.heap.size 0 (λ_=>0):=⟨_,World.ownsMap_made w _ _ _,λx hx=>rfl⟩
theorem gL.ai{w w':World}{b n:Nat}{f:Int->Int}(h:gL w b n f)(k:Below w.heap.size w w'):gL w' b n f:=by
 obtain⟨D,h1,h2⟩:=h
 exact⟨D,h1.kept (row:=none) ⟨k.os,k.tape,k.output,k.size,λi hi _=>k.block i hi⟩ U8,h2⟩
theorem gL.drew{w:World}{b n:Nat}{f:Int->Int}(h:gL w b n f):gL w.drew b n f:=h
theorem gL.congr{w:World}{b n:Nat}{f g:Int->Int}(h:gL w b n f)(e:∀x,f x=g x):gL w b n g:=by
 have:f=g:=funext e
 rw[<-this];exact h
def fJ(w:World)(v:Value)(l:List Ev):Prop:=∃A cap,v=.slice A l.length cap/\(0<l.length->∃b o,A=some ⟨b,o,none⟩/\b<w.heap.size/\∀i (hi:i<l.length),w.cell? ⟨b,o+i*4,none⟩=some (.int .i64 l[i].kind)/\w.cell? ⟨b,o+i*4+1,none⟩=some (.int .i64 l[i].loop)/\w.cell? ⟨b,o+i*4+2,none⟩=some (.int .i64 l[i].iter)/\w.cell? ⟨b,o+i*4+3,none⟩=some (.int .i64 l[i].Sc))
theorem fJ.ai{w w':World}{v:Value}{l:List Ev}{B:Nat}(h:fJ w v l)(k:Below B w w')(hB:w.heap.size<=B):fJ w' v l:=by
 obtain⟨A,cap,e,h⟩:=h;refine⟨A,cap,e,λhp=>?_⟩;obtain⟨b,o,e2,hb,hc⟩:=h hp;have hb2:b<B:=by omega
 refine⟨b,o,e2,by have:=k.size;omega,λi hi=>?_⟩;obtain⟨q0,q1,q2,q3⟩:=hc i hi
 exact⟨kb k hb2 q0,kb k hb2 q1,kb k hb2 q2,kb k hb2 q3⟩
def fV(l:List Ev):Nat->Int
 |0=>0
 |k+1=>max (fV l k) (iQ (l.take (k+1)) ((l.getD k ⟨0,0,0,0⟩).loop))
theorem DC(l:List Ev)(k:Nat)(hk:k<l.length)(s:Int):iQ (l.take (k+1)) s=if s=l[k].loop then iQ (l.take k) s+iD l[k]else iQ (l.take k) s:=by
 rw[List.take_add_one,List.getElem?_eq_getElem hk];unfold iQ;simp only[Option.toList_some,List.filter_append,List.map_append,List.sum_append]
 by_cases e:s=l[k].loop
 ·subst e;simp
 ·rw[if_neg e]
  have:¬l[k].loop=s:=λz=>e z.symm
  simp[this]
theorem Al(e:Ev): -1<=iD e/\iD e<=1:=by unfold iD;split<;>(try split)<;>decide
theorem MZ(l:List Ev)(s:Int): -(l.length:Int)<=iQ l s/\iQ l s<=l.length:=by
 unfold iQ
 induction l with
 |nil=>simp
 |cons e l ih=>
  have:=Al e
  by_cases h:e.loop==s
  ·simp only[List.filter_cons,h,if_true,List.map_cons,List.sum_cons,List.length_cons];omega
  ·simp only[List.filter_cons,h,List.length_cons];simp at ih⊢;omega
theorem xE{x:Int}(h: -1000000<=x/\x<=1000000):(Lit.int .i64 x).wf=true:=by
 simp only[Lit.wf,IntKind.min,IntKind.max,IntKind.bits,IntKind.signed]
 simp
 omega
theorem Oq(w:World):(Instr.makeMap 85 none).run prog w=.ok (.map (some w.heap.size)) (w.alloc (.map #[] 0)):=by kernel_rfl
structure u7(w wr:World)(g:Nat)(v:Value)(l:List Ev)(k:Nat):Prop where
 ev:fJ wr v l
 mp:gL wr g k (iQ (l.take k))
 B:Below w.heap.size w wr
 lg:w.heap.size<=g
theorem u7.ai{w wr w2:World}{g:Nat}{v:Value}{l:List Ev}{k:Nat}(h:u7 w wr g v l k)(b:Below wr.heap.size wr w2):u7 w w2 g v l k:=⟨h.ev.ai b nr,h.mp.ai b,h.B.trans (b.mono h.B.size),h.lg⟩
theorem gL.lt{w:World}{b n:Nat}{f:Int->Int}(h:gL w b n f):b<w.heap.size:=by
 obtain⟨D,h1,_⟩:=h
 exact h1.lt
theorem Kept.map{w w':World}{b:Nat}(h:w.grownBy w' (some b)):Kept (λk=>some b=some k) w w':=⟨h.os,h.tape,h.output,h.size,λk hk hn=>h.block k hk (λe=>hn e.symm)⟩
theorem fJ.kept{S:Nat->Prop}{w w':World}{v:Value}{l:List Ev}(h:fJ w v l)(k:Kept S w w')(hs:∀b o A n c,v=.slice (some ⟨b,o,none⟩) n c->A=b->¬S A):fJ w' v l:=by
 obtain⟨A,cap,e,h⟩:=h;refine⟨A,cap,e,λhp=>?_⟩;obtain⟨b,o,e2,hb,hc⟩:=h hp;subst e2;have f:∀{j:Nat} {u:Value},w.cell? ⟨b,j,none⟩=some u->w'.cell? ⟨b,j,none⟩=some u:=λq=>(World.cell?_of_block (w:=w) (k.block b hb (hs b o b _ _ e rfl))).trans q;refine⟨b,o,rfl,nL hb k.size,λi hi=>?_⟩;obtain⟨q0,q1,q2,q3⟩:=hc i hi
 exact⟨f q0,f q1,f q2,f q3⟩
theorem wy{w:World}{b n:Nat}{f:Int->Int}(h:gL w b n f){o:Nat}{u:Value}(q:w.cell? ⟨b,o,none⟩=some u):False:=by
 obtain⟨D,⟨es,clock,hb,_⟩,_⟩:=h;unfold World.cell? at q;simp[hb]at q
theorem u7.next{w wr w3:World}{g:Nat}{v:Value}{l:List Ev}{k:Nat}{x:Int}{y:Int}(h:u7 w wr g v l k)(mf:gL w3 g (k+1) (λz=>if z=x then y else iQ (l.take k) z))(gr:wr.grownBy w3 (some g))(e:∀s,iQ (l.take (k+1)) s=if s=x then y else iQ (l.take k) s)(h0:0<l.length):u7 w w3 g v l (k+1):=by
 obtain⟨A,cap,e1,hc⟩:=h.ev;obtain⟨b,o,e2,hb,hq⟩:=hc h0;refine⟨h.ev.kept (Kept.map gr) (λb' o' A' n c e3 e4 z=>?_),mf.congr (λs=>(e s).symm),h.B.trans ((Kept.map gr).below (λk z=>by cases z;exact h.lg) h.B.size),h.lg⟩;subst e4
 cases z
 rw[e1,e2]at e3
 cases e3
 exact wy h.mp (hq 0 h0).1
theorem QM{x:Int}(h:wrap64 x=x):IntKind.i64.wrap x=x:=by
 rw[IntKind.wrap_i64];unfold wrap64 at h
 exact h
theorem Om(a b:Int):max a b=if a<b then b else a:=by split<;>omega
theorem Rk{n:Nat}{a c:Int}(h: -(n:Int)<=a/\a<=n)(h2: -1<=c/\c<=1)(hn:n<1000000):wrap64 (a+c)=a+c/\(Lit.int .i64 (a+c)).wf=true:=⟨by unfold wrap64;omega,xE U2⟩
theorem Qp{k n:Nat}(h:k<n)(hn:n<=1000000):k<maxLen:=by unfold maxLen;omega
theorem Am(w:World)(v:Value)(l:List Ev)(h:fJ w v l)(hn:l.length<=1000000)(hb:∀e∈l,0<=e.loop/\e.loop<=1000000):Cs 14 #[v] w (.int .i64 (fV l l.length)) λw'=>Below w.heap.size w w':=by
 have ha:=h;obtain⟨A,cap,rfl,hc⟩:=ha;have c1:=Hd (λe w=>Ku e w);have S0:=u7.mk (h.ai ((Below.refl w.heap.size w).alloc nr (.map #[] 0)) nr) (gL.congr (gL.new w) (λx=>rfl)) (Ba _) nr (k:=0);have S0:=Hd S0;have hm:=Oq w;have HN:=Hd hn;have HB:=Hd hb;clear h hc hn hb;go_enter func14,ntmps14;go_wp2_with fail;generalize w.alloc (.map #[] 0)=W at*;generalize hg:w.heap.size=g at*
 go_loopw [3,10] (λm i wr=>∃k:Nat,k<=l.length/\m=.int .i64 (fV l k)/\i=.int .i64 k/\u7 w wr g (.slice A l.length cap) l k) (λ_ i _=>l.length-(intOf i).toNat)
 case atStart=>exact⟨0,n0 _,rfl,rfl,S0.out⟩
 case round=>
  obtain⟨k,hk,rfl,rfl,C⟩:=hrel
  by_cases hlt:k<l.length
  ·have hw:wrap64 ((k:Int)+1)=((k+1:Nat):Int):=iN hlt HN.o
   have hlt':(k:Int)<(l.length:Int):=jJ hlt;obtain⟨A',cap',e,hc⟩:=C.ev
   cases e
   obtain⟨b,o,rfl,hbl,hq⟩:=hc (tX hlt);obtain⟨q0,q1,q2,q3⟩:=hq k hlt;have M2:=Hd (iM hlt);have K1:k+1<=l.length:=hlt;have hkl:=HB.o _ (List.getElem_mem hlt);have wfx:=xE (x:=l[k].loop) ⟨Int.le_trans U0 hkl.1,hkl.2⟩;have ab:=MZ (l.take k) l[k].loop;have mb:=Al l[k];have hl2:(l.take k).length<=1000000:=by rw[List.length_take];exact nT (Nat.min_le_right _ _) HN.o
   have wv:wrap64 (iQ (l.take k) l[k].loop+iD l[k])=iQ (l.take k) l[k].loop+iD l[k]/\(Lit.int .i64 (iQ (l.take k) l[k].loop+iD l[k])).wf=true:=Rk ab mb (Nat.lt_of_le_of_lt (by rw[List.length_take];exact Nat.min_le_left _ _) (nL hlt HN.o));have C1:=Hd (c1.o l[k]);have HML:=Hd (Qp hlt HN.o);have AS:=Hd (DC l k hlt);have MT:fV l (k+1)=max (fV l k) (iQ (l.take k) l[k].loop+iD l[k]):=by
    show max (fV l k) (iQ (l.take (k+1)) ((l.getD k ⟨0,0,0,0⟩).loop))=_;rw[show(l.getD k ⟨0,0,0,0⟩)=l[k]by simp[List.getD,hlt],AS.out,if_pos rfl]
   have MT:=Hd MT;have CX:=Hd C;clear C hc hq ab mb hl2 hkl hk S0 hm;generalize hx:l[k]=x at*;clear hx;have hlt0:=hlt;clear hlt;have C5:=Hd (CX.out.ai (Ba (.cells #[.int .i64 x.kind,.int .i64 x.loop,.int .i64 x.iter,.int .i64 x.Sc] 52)));have ZB:=Hd (af.new wr #[.int .i64 x.kind,.int .i64 x.loop,.int .i64 x.iter,.int .i64 x.Sc] 52 _ rfl);have GN:=Hd (show¬(some g=some wr.heap.size)from λe=>by cases e;exact Nat.lt_irrefl _ CX.out.mp.lt);have r1:=C5.out.mp.look wfx;have r1d:=C5.out.mp.drew.look wfx;have z1:(wr.alloc (.cells #[.int .i64 x.kind,.int .i64 x.loop,.int .i64 x.iter,.int .i64 x.Sc] 52)).drew.cell? ⟨wr.heap.size,1,none⟩=some (.int .i64 x.loop):=ZB.out.cell 1;have wvk:=QM wv.1;go_upto_region 5 with fail
   go_region_law (first|(go_simp;go_at_call 40;refine(C1.out _).q λw2 hb2=> ?_;have BX:=Hd (show Below (wr.alloc (.cells #[.int .i64 x.kind,.int .i64 x.loop,.int .i64 x.iter,.int .i64 x.Sc] 52)).heap.size (wr.alloc (.cells #[.int .i64 x.kind,.int .i64 x.loop,.int .i64 x.iter,.int .i64 x.Sc] 52)) w2 from by first|exact hb2|exact(Below.refl _ _).drew.trans hb2);have C2:=Hd (C5.out.ai BX.o);have y1:w2.cell? ⟨wr.heap.size,1,none⟩=some (.int .i64 x.loop):=(ZB.out.below BX.o ZB.out.lt).cell 1;have r2:=C2.out.mp.look wfx;obtain⟨w3,hup,mf3,gr3⟩:=C2.out.mp.put HML.o wfx wv.2;have C3:=Hd (C2.out.next mf3 gr3 (λs=>by rw[AS.out];split<;>(first|rfl|(rename_i e;rw[e]))) (tX hlt0));have u1:w3.cell? ⟨wr.heap.size,1,none⟩=some (.int .i64 x.loop):=(Kept.blk (Kept.map gr3) (ZB.out.below BX.o ZB.out.lt) GN.out).cell 1;have r3:=mf3.look wfx;simp only[if_true]at r3;clear hb2 mf3 gr3))
   all_goals clear C1 r1 r1d z1 y1 r2
   all_goals go_wp2_with fail
   all_goals go_roundw
   all_goals first|exact⟨k+1,K1,by rw[MT.out,Om],by first|rw[hw]|simp,C3.out⟩|exact M2.out|(rw[hw];simpa using M2.out)
  ·obtain rfl:k=l.length:=Nat.le_antisymm hk (Nat.le_of_not_lt hlt)
   have hge:¬((l.length:Int)<(l.length:Int)):=Int.lt_irrefl _;have CX:=Hd C.B;clear C S0;go_wp2_with fail
   go_ret
   have CY:=CX.out;rw[hg]at CY
   exact⟨rfl,by first|exact CY|exact CX.out⟩
theorem Ao{l:List Ev}(h:cZ l):∀k,fV l k<=1
 |0=>by show(0:Int)<=1;decide
 |k+1=>by
  have q:=Km (h.take (k+1)) ((l.getD k ⟨0,0,0,0⟩).loop);have i:=Ao h k;show max (fV l k) (iQ (l.take (k+1)) ((l.getD k ⟨0,0,0,0⟩).loop))<=1;rw[q]
  split<;>omega
theorem Us76 {p:Prop} (h:p:=by
 go_wp2_with fail
 go_roundw
 case rel=>exact⟨j+1,K1,by first|rw[hw]|simp,CY.out⟩
 case measure=>first|exact M2.out|(rw[hw];simpa using M2.out)):p:=h
def RU:Ev:=⟨0,0,0,0⟩
def jK(l:List Ev)(k:Nat):Ev:=l.getD k RU
def qH(y e:Ev):Bool:=decide (e.iter=y.iter-1)&&(decide (e.kind=3)||decide (e.kind=6)||decide (e.kind=4))
def Ex(y e:Ev):Bool:=decide (e.iter=y.iter-1)&&decide (e.kind=4)
def iC(l:List Ev)(y:Ev):Nat->Bool
 |0=>decide (y.iter=0)
 |k+1=>if(jK l k).loop=y.loop then iC l y k||qH y (jK l k)else iC l y k
def mI(l:List Ev)(y:Ev):Nat->Bool
 |0=>decide (y.iter<1)
 |k+1=>if(jK l k).loop=y.loop then mI l y k||Ex y (jK l k)else mI l y k
def je(l:List Ev)(y:Ev):Nat->Int
 |0=>0
 |k+1=>if(jK l k).loop=y.loop then(if(jK l k).kind=1 then je l y k+1 else je l y k)else je l y k
theorem pV(l:List Ev)(y:Ev):∀k,k<=l.length->je l y k=(((l.take k).filter (λe=>e.loop==y.loop&&e.kind==1)).length:Int)
 |0,_=>by simp[je]
 |k+1,h=>by
  have ih:=pV l y k U2;have e:jK l k=l[k]:=by unfold jK;simp[List.getD,show k<l.length by omega]
  rw[List.take_add_one,List.getElem?_eq_getElem U2];simp only[Option.toList_some,List.filter_append,List.length_append];unfold je;rw[e,ih]
  by_cases h1:l[k].loop=y.loop
  ·by_cases h2:l[k].kind=1
   ·simp[h1,h2]
   ·simp[h1,h2]
  ·simp[h1]
theorem zN(l:List Ev)(y:Ev)(k:Nat)(h:k<=l.length):0<=je l y k/\je l y k<=k:=by
 rw[pV l y k h]
 have:=List.length_filter_le (λe:Ev=>e.loop==y.loop&&e.kind==1) (l.take k)
 rw[List.length_take]at this
 omega
theorem wh(l:List Ev)(y:Ev)(j:Nat)(h1:(jK l j).loop=y.loop)(h2:qH y (jK l j)=true):∀k,j<k->iC l y k=true
 |k+1,h=>by
  unfold iC
  by_cases e:j=k
  ·subst e;rw[if_pos h1,h2];simp
  ·rw[wh l y j h1 h2 k U2];split<;>simp
theorem zV(l:List Ev)(y:Ev)(j:Nat)(h1:(jK l j).loop=y.loop)(h2:Ex y (jK l j)=true):∀k,j<k->mI l y k=true
 |k+1,h=>by
  unfold mI
  by_cases e:j=k
  ·subst e;rw[if_pos h1,h2];simp
  ·rw[zV l y j h1 h2 k U2];split<;>simp
theorem Ah(l:List Ev)(y:Ev)(h:y.iter=0):∀k,iC l y k=true
 |0=>by unfold iC;simp[h]
 |k+1=>by unfold iC;rw[Ah l y h k];split<;>simp
theorem Ey(l:List Ev)(y:Ev)(h:y.iter=0):∀k,mI l y k=true
 |0=>by unfold mI;simp[h]
 |k+1=>by unfold mI;rw[Ey l y h k];split<;>simp
theorem yZ{l:List Ev}(h:cZ l)(i:Nat)(hi:i<l.length)(hk:l[i].kind=1):je l l[i] i=l[i].iter/\iC l l[i] i=true/\mI l l[i] i=true/\0<=l[i].iter/\l[i].iter<=i:=by
 obtain⟨h1,h2⟩:=Cg h i hi hk;have b:=pV l l[i] i U2;have bd:=zN l l[i] i U2;have e1:je l l[i] i=l[i].iter:=b.trans h1;refine⟨e1,?_,?_,by omega,by omega⟩
 all_goals
  rcases h2 with h2|⟨h2,e,he,k4,lp,it⟩
  ·first|exact Ah _ _ h2 _|exact Ey _ _ h2 _
  ·obtain⟨j,hj,rfl⟩:=List.mem_iff_getElem.1 he
   have hj1:j<i/\j<l.length:=by rw[List.length_take]at hj;omega
   have ej:jK l j=(l.take i)[j]:=by unfold jK;simp[List.getD,hj1.2]
   rw[<-ej]at k4 lp it
   first
    |exact wh l _ j lp (by unfold qH;simp[k4,it]) i hj1.1
    |exact zV l _ j lp (by unfold Ex;simp[k4,it]) i hj1.1
theorem oV{l:List Ev}{k:Nat}(h:k<l.length):jK l k=l[k]:=by unfold jK;simp[List.getD,h]
theorem fJ.at_{w:World}{A:Option Addr}{n cap:Nat}{l:List Ev}(h:fJ w (.slice A n cap) l)(k:Nat)(hk:k<l.length):∃b o,A=some ⟨b,o,none⟩/\w.cell? ⟨b,o+k*4,none⟩=some (.int .i64 (jK l k).kind)/\w.cell? ⟨b,o+k*4+1,none⟩=some (.int .i64 (jK l k).loop)/\w.cell? ⟨b,o+k*4+2,none⟩=some (.int .i64 (jK l k).iter):=by
 obtain⟨_,_,e,hc⟩:=h
 cases e
 obtain⟨b,o,e,hb,q⟩:=hc U2;obtain⟨q0,q1,q2,q3⟩:=q k hk;rw[oV hk]
 exact⟨b,o,e,q0,q1,q2⟩
theorem NY{k i:Nat}(h:k<i):(k:Int)<(i:Int):=by omega
theorem QO{a:Int}{i n:Nat}(h:0<=a/\a<=i)(hi:i<n)(hn:n<=1000000):wrap64 (a-1)=a-1:=by unfold wrap64;omega
theorem QN{a:Int}{i n:Nat}(h:0<=a/\a<=i)(hi:i<n)(hn:n<=1000000):wrap64 (a+1)=a+1:=by unfold wrap64;omega
theorem Py{x z:Int}(h:wrap64 x=z):IntKind.i64.wrap x=z:=by
 rw[IntKind.wrap_i64];unfold wrap64 at h
 exact h
theorem Jl(l:List Ev)(y:Ev)(j i:Nat)(h:j<=i)(hi:i<l.length):0<=je l y j/\je l y j<=i:=by
 have:=zN l y j U2
 omega
theorem j5{k:Int}(hk:(Lit.int .i64 k).wf=true):keyOf prog 3 (.int .i64 k)=some (.int .i64 k):=Go.Maps.keyOf_int_mk underlying3 hk
theorem Je(w:World):(zeroValue 25).run prog w=.ok (.slice none 0 0) w:=by kernel_rfl
theorem Kt(w:World):(Instr.makeMap 155 none).run prog w=.ok (.map (some w.heap.size)) (w.alloc (.map #[] 0)):=by kernel_rfl
theorem sP(w:World){k:Int}(hk:(Lit.int .i64 k).wf=true):(Instr.findKey 3 (.int .i64 k) []).run prog w=.ok none w:=by
 rcases(Go.Maps.int_keyed underlying3).find w (j5 hk) [] U8 with⟨q,_⟩|⟨j,e,_,q,_⟩
 ·exact q
 ·simp at q
theorem vP(w:World){k:Int}(hk:(Lit.int .i64 k).wf=true)(v:Value)(n:Nat):(Instr.findKey 3 (.int .i64 k) [⟨.int .i64 k,v,n⟩]).run prog w=.ok (some (0,v)) w:=by
 rcases(Go.Maps.int_keyed underlying3).find w (j5 hk) [⟨.int .i64 k,v,n⟩] (by intro e he;simp at he;subst he;exact⟨_,j5 hk⟩)with⟨_,q⟩|⟨j,e,q1,q,_⟩
 ·exact absurd rfl (q ⟨.int .i64 k,v,n⟩ (List.mem_singleton.2 rfl))
 ·obtain⟨hj,he⟩:=List.getElem?_eq_some_iff.1 q
  have:j=0:=by simpa using hj
  subst this
  simp at he
  subst he
  exact q1
theorem wo(w:World)(g:Nat)(k:Int)(hk:(Lit.int .i64 k).wf=true)(h:w.heap[g]? =some (.map #[] 0)):(Instr.lookup 155 (.map (some g)) (.int .i64 k) false).run prog w=.ok (.slice none 0 0) w:=by
 have K:=Go.Maps.int_keyed underlying3;simp[Instr.lookup,run_underlying underlying155,MapKept.run_getObj_map h,K.check w _ (j5 hk),sP w hk,Je,Result.andThen]
theorem wu(w:World)(g:Nat)(k:Int)(v:Value)(n c:Nat)(hk:(Lit.int .i64 k).wf=true)(h:w.heap[g]? =some (.map #[⟨.int .i64 k,v,n⟩] c)):(Instr.lookup 155 (.map (some g)) (.int .i64 k) false).run prog w=.ok v w:=by
 have K:=Go.Maps.int_keyed underlying3;simp[Instr.lookup,run_underlying underlying155,MapKept.run_getObj_map h,K.check w _ (j5 hk),vP w hk,Result.andThen]
theorem AL{w:World}{g:Nat}{o o':Obj}(h:w.heap[g]? =some o):({w with heap:=w.heap.setIfInBounds g o'}:World).heap[g]? =some o'/\w.grownBy {w with heap:=w.heap.setIfInBounds g o'} (some g):=by
 have hg:=(Array.getElem?_eq_some_iff.1 h).1;refine⟨by simp[hg],rfl,rfl,rfl,by simp,λk hk hn=>?_⟩
 have:g≠k:=λz=>hn (by rw[z])
 simp[Array.getElem?_setIfInBounds,this]
theorem Rp(w:World)(g:Nat)(k:Int)(v:Value)(hk:(Lit.int .i64 k).wf=true)(h:w.heap[g]? =some (.map #[] 0)):∃w',(Instr.mapUpdate 155 (.map (some g)) (.int .i64 k) v).run prog w=.ok () w'/\w'.heap[g]? =some (.map #[⟨.int .i64 k,v,0⟩] 1)/\w.grownBy w' (some g):=by
 have K:=Go.Maps.int_keyed underlying3;refine⟨{w with heap:=w.heap.setIfInBounds g (.map #[⟨.int .i64 k,v,0⟩] 1)},?_,AL h⟩;simp[Instr.mapUpdate,run_underlying underlying155,MapKept.run_getObj_map h,MapKept.run_setObj_map _ h,K.check w _ (j5 hk),sP w hk,Result.andThen]
theorem Rq(w:World)(g:Nat)(k:Int)(u v:Value)(hk:(Lit.int .i64 k).wf=true)(h:w.heap[g]? =some (.map #[⟨.int .i64 k,u,0⟩] 1)):∃w',(Instr.mapUpdate 155 (.map (some g)) (.int .i64 k) v).run prog w=.ok () w'/\w'.heap[g]? =some (.map #[⟨.int .i64 k,v,0⟩] 1)/\w.grownBy w' (some g):=by
 have K:=Go.Maps.int_keyed underlying3;refine⟨{w with heap:=w.heap.setIfInBounds g (.map #[⟨.int .i64 k,v,0⟩] 1)},?_,AL h⟩;simp[Instr.mapUpdate,run_underlying underlying155,MapKept.run_getObj_map h,MapKept.run_setObj_map _ h,K.check w _ (j5 hk),vP w hk,K.stays w (j5 hk),Result.andThen]
end Go.Proofs.YteiignfflbmafaaGreat.Tp
