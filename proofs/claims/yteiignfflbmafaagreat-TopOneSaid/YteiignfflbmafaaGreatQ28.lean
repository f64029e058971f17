/- TopOne, part 28. -/
import Derived.Test.YteiignfflbmafaaGreatQ23
import Derived.StillTailTactics
import Derived.Deep.RegionLaw
set_option linter.unusedVariables false
set_option linter.unusedSimpArgs false
set_option maxRecDepth 100000
set_option maxHeartbeats 8000000
namespace Go.Proofs.YteiignfflbmafaaGreat.Tp
open Go.Proofs.Tryz
open Go.RowKit Go.Proofs.YteiignfflbmafaaGreat.Tok
section
section
variable {α:Type} {w:World} {e:TypeId} {n:Nat} {f:α->List Value}
theorem Hr{β:Type}(cur cs:List β)(a m:Nat)(h1:a+cs.length<=m)(h2:m<=cur.length):(cur.take a++cs++cur.drop (a+cs.length)).take m=(cur.take m).take a++cs++(cur.take m).drop (a+cs.length):=by
 have l1:(cur.take a).length=a:=by rw[List.length_take];omega
 rw[List.take_append,List.take_append,List.take_take,List.take_take,l1,List.length_append,l1,List.drop_take];rw[show min m a=a by omega,show min a m=a by omega,List.take_of_length_le (show cs.length<=m-a by omega)]
theorem vR(hf:∀x,(f x).length=n):∀(l:List α)(i j:Nat)(cs:List Value)(y:α)(hi:i<l.length),j+cs.length<=n->f y=(f l[i]).take j++cs++(f l[i]).drop (j+cs.length)->(l.flatMap f).take (n*i+j)++cs++(l.flatMap f).drop (n*i+j+cs.length)=(l.set i y).flatMap f
 |x::l,0,j,cs,y,_,hj,hy=>by
  have lx:=hf x;simp only[List.flatMap_cons,Nat.mul_zero,Nat.zero_add,List.set_cons_zero,List.getElem_cons_zero]at hy⊢;rw[hy,List.take_append_of_le_length U2,List.drop_append_of_le_length U2];simp only[List.append_assoc]
 |x::l,i+1,j,cs,y,hi,hj,hy=>by
  simp only[List.flatMap_cons,List.set_cons_succ];have e1:n*(i+1)+j=(f x).length+(n*i+j):=by rw[hf,Nat.mul_add];omega
  rw[e1,List.take_append,List.take_of_length_le U2,Nat.add_sub_cancel_left,Nat.add_assoc,List.drop_append,List.drop_eq_nil_of_le U2,List.nil_append,Nat.add_sub_cancel_left,List.append_assoc,List.append_assoc]
  congr 1
  rw[<-List.append_assoc]
  exact vR hf l i j cs y U82 hj (by simpa using hy)
theorem Own.mid{w':World}{v:Value}{l:List α}{g m cap:Nat}(h:Own w e n f v l)(hf:∀x,(f x).length=n)(hv:v=.slice (some ⟨g,0,none⟩) m cap)(cur:Array Value)(hb:af w g cur e)(i j:Nat)(cs:List Value)(y:α)(hi:i<l.length)(hj:j+cs.length<=n)
  (hy:f y=(f l[i]).take j++cs++(f l[i]).drop (j+cs.length)) (hb':af w' g (cur.toList.take (n*i+j)++cs++cur.toList.drop (n*i+j+cs.length)).toArray e):Own w' e n f v (l.set i y):=by
 obtain⟨h1,⟨h2,h3⟩|⟨g',cap',cur',e1,hg,hq,hn,hm,hs,hx⟩⟩:=h
 ·omega
 ·subst hv
  cases e1
  have hc:cur'=cur:=(af.inj (show af w g cur' e from hq) hb);subst hc;have nl:n*i+n<=l.length*n:=by
   have:n*(i+1)<=n*l.length:=Nat.mul_le_mul_left _ hi
   rw[Nat.mul_comm l.length,<-Nat.mul_succ];exact this
  have cl:l.length*n<=cur'.toList.length:=by(have q:=Nat.mul_le_mul_right n hn);simp only[Array.length_toList,hs];exact q
  refine⟨by rw[gQ f n hf,Nat.mul_comm],.inr ⟨g,cap,_,by rw[List.length_set],hg,hb',by rw[List.length_set];exact hn,hm,?_,?_⟩⟩
  ·rw[List.size_toArray,List.length_append,List.length_append,List.length_take,List.length_drop,<-hs,<-Array.length_toList]
   omega
  ·rw[List.length_set]
   show List.take _ (List.take _ _++cs++List.drop _ _)=_;rw[Hr _ _ _ _ U2 cl,hx]
   exact vR hf l i j cs y hi hj hy
theorem set_mid{β:Type}(l:List β)(k:Nat)(v:β)(h:k<l.length):l.set k v=l.take k++[v]++l.drop (k+1):=by
 rw[List.set_eq_take_append_cons_drop,if_pos h];simp
theorem Own.put{v:Value}{l:List α}{g m cap:Nat}(h:Own w e n f v l)(hf:∀x,(f x).length=n)(hv:v=.slice (some ⟨g,0,none⟩) m cap)(i j k:Nat)(u:Value)(y:α)(hi:i<l.length)(hj:j<n)(hk:k=n*i+j)
  (hy:f y=(f l[i]).set j u):Own (w.setCell ⟨g,k,none⟩ u) e n f v (l.set i y):=by
 subst hk;obtain⟨cur,hb⟩:=h.type (b:=g) (by rw[hv];rfl);have sz:n*i+j<cur.size:=by
  have h':=h;obtain⟨h1,⟨h2,h3⟩|⟨g',cap',cur',e1,hg,hq,hn,hm,hs,hx⟩⟩:=h'
  ·omega
  ·subst hv
   cases e1
   have hc:cur'=cur:=(af.inj (show af w g cur' e from hq) hb);subst hc
   have:n*(i+1)<=n*l.length:=Nat.mul_le_mul_left _ hi
   have q:l.length*n<=cap*n:=Nat.mul_le_mul_right _ hn;rw[Nat.mul_comm l.length]at q;rw[Nat.mul_succ]at this
   omega
 refine h.mid hf hv cur hb i j [u] y hi (by show j+1<=n;omega) ?_ ?_
 ·rw[hy,set_mid _ _ _ (by rw[hf];exact hj)];rfl
 ·have:=hb.set (n*i+j) u
  have e:cur.setIfInBounds (n*i+j) u=(cur.toList.take (n*i+j)++[u]++cur.toList.drop (n*i+j+1)).toArray:=by
   apply Array.ext'
   rw[Array.toList_setIfInBounds,set_mid _ _ _ (by simpa using sz)]
  rw[e]at this
  exact this
theorem Own.pop{A:Option Addr}{k cap:Nat}{l:List α}{x:α}(h:Own w e n f (.slice A k cap) (l++[x]))(hf:∀x,(f x).length=n):Own w e n f (.slice A l.length cap) l:=by
 obtain⟨h1,⟨h2,h3⟩|⟨g',cap',cur',e1,hg,hq,hn,hm,hs,hx⟩⟩:=h
 ·simp at h3
 ·cases e1
  rw[List.length_append,List.length_singleton]at hn hx;refine⟨by rw[gQ f n hf,Nat.mul_comm],.inr ⟨g',cap,cur',rfl,hg,hq,by omega,hm,hs,?_⟩⟩;have e:List.take (l.length*n) ((l++[x]).flatMap f)=l.flatMap f:=by
   rw[List.flatMap_append,List.take_append_of_le_length U89,List.take_of_length_le U89]
  rw[<-e,<-hx,List.take_take,Nat.min_eq_left (Nat.mul_le_mul_right _ U2)]
theorem Own.cells{v:Value}{l:List α}(h:Own w e n f v l)(hf:∀x,(f x).length=n)(hp:0<l.length):∃g cap,v=.slice (some ⟨g,0,none⟩) l.length cap/\∀i j (hi:i<l.length),j<n->w.cell? ⟨g,n*i+j,none⟩=(f l[i])[j]? :=by
 obtain⟨g,cap,e1,_,hc⟩:=eO h hp;refine⟨g,cap,e1,λi j hi hj=>?_⟩;have q:=flat_get f n hf l i j hi hj
 have:j<(f l[i]).length:=by rw[hf];exact hj
 rw[List.getElem?_eq_getElem this]at q⊢
 exact hc _ _ q
end
theorem bG(w:World)(cs:Array Value)(t:TypeId)(size:Nat)(hs:cs.size=size):Src (w.alloc (.cells cs t)) (.slice (some ⟨w.heap.size,0,none⟩) 1 1) 1 size cs.toList:=
 ⟨_,_,rfl,by simp[hs],Or.inr ⟨_,rfl,World.news_of_block (cs:=cs) (t:=t) (fr:=(0,0)) (heap_alloc_new w _)⟩⟩
theorem wpList_store_mid{P:Program}{ops:Array Oper}{rest:List Oper}{o:Oper}{a:Act}{w:World}{Q:Exit->Act->World->Prop}(hgd:o.guard=none)(ty:TypeId)(x y:Operand)(ho:o.op=.store ty x y)
  (b off:Nat) (cur:Array Value) (t:TypeId) (cs:List Value) (hb:af w b cur t) (hlt:off+cs.length<=cur.size) (hx:a.eval x=.pointer (some ⟨b,off,none⟩)) (hy:a.eval y=.agg cs.toArray)
  (hi:(P.info? ty).map (·.size)=some cs.length) (h1:∀v∈cs,v.oneCell'=true)
  (h:∀w',af w' b (cur.toList.take off++cs++cur.toList.drop (off+cs.length)).toArray t->Kept (One b) w w'->wpList P ops Q rest (a.put o.dst undef) w'):wpList P ops Q (o::rest) a w:=by
 have hrun:=run_storeCells_at P b off t cs 0 cur w hb (by rw[Nat.add_zero];exact hlt) h1;rw[Nat.add_zero]at hrun;have hst:(storeVar ty ⟨b,off,none⟩ (.agg cs.toArray)).run P w=.ok () (w.setRow b (cur.toList.take off++cs++cur.toList.drop (off+cs.length)).toArray):=by
  cases hq:P.info? ty with
  |none=>simp[hq]at hi
  |some q=>
   have hs:q.size=cs.length:=by simpa[hq]using hi
   simp[storeVar,sizeOf,typeInfo,hq,Value.cells,hs,hrun]
 refine wpList_plain hgd λ_ hK=>?_;unfold Oper.wp execOp;simp only[ho,hx,hy,Instr.storeAt,Instr.sureAddr,Sem.run_bind,Sem.run_pure,Result.andThen_ok,hst]
 exact hK _ _ (h _ (setRow_heap w b _ _ t (0,0) hb) ⟨rfl,rfl,rfl,by simp,λk _ hn=>setRow_other w b k _ hn⟩)
structure SF where
 kind:Int
 fn:Int
 pc:Int
 rg:Sp.Rg
 az:Bool
def SF.cells(f:SF):List Value:=[.int .i64 f.kind,f.fn,f.pc,f.rg.r0,f.rg.r1,f.rg.r2,f.rg.r3,f.rg.r4,f.rg.r5,f.rg.r6,f.rg.r7,.bool f.az,(0:Int),(0:Int),(0:Int)]
structure Mk where
 k:Int
 a:Int
def Mk.cells(m:Mk):List Value:=[.int .i64 m.k,m.a,(0:Int)]
structure ES where
 l:List SF
 data:List Int
 marks:List Mk
 status:Int
 steps:Int
 frames:Int
 deepest:Int
def NI(M:Int)(fv lv:Value)(s:Nat)(mv mem:Value)(st:ES):Array Value:= #[M,fv,lv,ptr s,mv,(0:Int),st.status,(0:Int),.slice none 0 0,mem,st.steps,st.frames,st.deepest]
structure aG(w0 w:World)(e s d:Nat)(M:Int)(fv:Value)(code:List (List Is))(lv mv:Value)(st:ES):Prop where
 bx:af w e (NI M fv lv s mv (.slice none 0 0) st) 162
 fr:Own w 197 15 SF.cells lv st.l
 qK:Own w 211 3 Mk.cells mv st.marks
 da:aD w s d st.data
 tx:aP w0 fv code
 B:Below w0.heap.size w0 w
 le:w0.heap.size<=e
 ls:w0.heap.size<=s
 ld:w0.heap.size<=d
 lf:∀b,lv.ownBlock=some b->w0.heap.size<=b
 lm:∀b,mv.ownBlock=some b->w0.heap.size<=b
section
variable {w0 w w2:World} {e s d:Nat} {M:Int} {fv:Value} {code:List (List Is)} {lv mv:Value} {st:ES}
theorem aG.kept{S:Nat->Prop}(h:aG w0 w e s d M fv code lv mv st)(k:Kept S w w2)(hB:∀b,S b->w0.heap.size<=b)(h1:¬S e)(h2:¬S s)(h3:¬S d)(h4:∀b,lv.ownBlock=some b->¬S b)(h5:∀b,mv.ownBlock=some b->¬S b):aG w0 w2 e s d M fv code lv mv st:=
 ⟨k.blk h.bx h1,h.fr.kept k h4,h.qK.kept k h5,h.da.kept k h2 h3,h.tx,h.B.trans (k.below hB h.B.size),h.le,h.ls,h.ld,h.lf,h.lm⟩
theorem aG.ai(h:aG w0 w e s d M fv code lv mv st)(k:Below w.heap.size w w2):aG w0 w2 e s d M fv code lv mv st:=
 h.kept (Kept.ob (S:=None) k) (λ_ z=>z.elim) (λz=>z) (λz=>z) (λz=>z) (λ_ _ z=>z) (λ_ _ z=>z)
theorem aG.drew(h:aG w0 w e s d M fv code lv mv st):aG w0 w.drew e s d M fv code lv mv st:=h.ai (Below.refl _ _).drew
theorem aG.alloc(h:aG w0 w e s d M fv code lv mv st)(o:Obj):aG w0 (w.alloc o) e s d M fv code lv mv st:=h.ai (Ba _)
theorem aG.put{st':ES}(h:aG w0 w e s d M fv code lv mv st)(j:Nat)(v:Value)(h1:(NI M fv lv s mv (.slice none 0 0) st).setIfInBounds j v=NI M fv lv s mv (.slice none 0 0) st')(h2:st'.l=st.l)(h3:st'.data=st.data)(h4:st'.marks=st.marks):aG w0 (w.setCell ⟨e,j,none⟩ v) e s d M fv code lv mv st':=by
 have K:=Kept.one w e j v;have ne:∀{b:Nat} {cs:Array Value} {t:TypeId},af w b cs t->t≠ 162 ->¬One e b:=λq n z=>by
  have z:_=e:=z;subst z
  exact n (q.type h.bx)
 obtain⟨_,qs⟩:=h.da.fs
 exact⟨by rw[<-h1];exact h.bx.set j v,by rw[h2];exact h.fr.kept K (λb q=>by obtain⟨_,t⟩:=h.fr.type q;exact ne t U0),by rw[h4];exact h.qK.kept K (λb q=>by obtain⟨_,t⟩:=h.qK.type q;exact ne t U0),
  by rw[h3];exact h.da.kept K (ne qs U0) (ne h.da.ws U0),h.tx,h.B.setCell h.le _,h.le,h.ls,h.ld,h.lf,h.lm⟩
theorem aG.oM{g m cap:Nat}(h:aG w0 w e s d M fv code lv mv st)(hv:lv=.slice (some ⟨g,0,none⟩) m cap)(i j k:Nat)(u:Value)(y:SF)(hi:i<st.l.length)(hj:j<15)(hk:k=15*i+j)(hy:y.cells=(st.l[i]).cells.set j u):aG w0 (w.setCell ⟨g,k,none⟩ u) e s d M fv code lv mv {st with l:=st.l.set i y}:=by
 have K:=Kept.one w g k u;obtain⟨cs,tg⟩:=h.fr.type (b:=g) (by rw[hv];rfl);have ne:∀{b:Nat} {cs:Array Value} {t:TypeId},af w b cs t->t≠ 197 ->¬One g b:=λq n z=>by
  have z:_=g:=z;subst z
  exact n (q.type tg)
 obtain⟨_,qs⟩:=h.da.fs
 exact⟨K.blk h.bx (ne h.bx U0),h.fr.put (λ_=>rfl) hv i j k u y hi hj hk hy,h.qK.kept K (λb q=>by obtain⟨_,t⟩:=h.qK.type q;exact ne t U0),h.da.kept K (ne qs U0) (ne h.da.ws U0),h.tx,h.B.setCell (h.lf g (by rw[hv];rfl)) _,h.le,h.ls,h.ld,h.lf,h.lm⟩
theorem aG.Rl{g m cap:Nat}(h:aG w0 w e s d M fv code lv mv st)(hv:lv=.slice (some ⟨g,0,none⟩) m cap)(cur:Array Value)(hb:af w g cur 197)(i:Nat)(R:Sp.Rg)(hi:i<st.l.length)(k:Nat)(hk:k=15*i+3)
  (hb':af w2 g (cur.toList.take k++R.arr.toList++cur.toList.drop (k+8)).toArray 197) (K:Kept (One g) w w2):aG w0 w2 e s d M fv code lv mv {st with l:=st.l.set i {st.l[i]with rg:=R}}:=by
 subst hk;have ne:∀{b:Nat} {cs:Array Value} {t:TypeId},af w b cs t->t≠ 197 ->¬One g b:=λq n z=>by
  have z:_=g:=z;subst z
  exact n (q.type hb)
 obtain⟨_,qs⟩:=h.da.fs
 exact⟨K.blk h.bx (ne h.bx U0),h.fr.mid (λ_=>rfl) hv cur hb i 3 R.arr.toList {st.l[i]with rg:=R} hi (by simp[Sp.Rg.arr]) rfl hb',h.qK.kept K (λb q=>by obtain⟨_,t⟩:=h.qK.type q;exact ne t U0),h.da.kept K (ne qs U0) (ne h.da.ws U0),h.tx,h.B.trans (K.below (λb z=>by have z:b=g:=z;subst z;exact h.lf b (by rw[hv];rfl)) h.B.size),h.le,h.ls,h.ld,h.lf,h.lm⟩
def QP(e:Nat)(mv:Value):Nat->Prop:=λb=>b=e∨mv.ownBlock=some b
theorem aG.xO(h:aG w0 w e s d M fv code lv mv st){b:Nat}{cs:Array Value}{t:TypeId}(k:Kept (QP e mv) w w2)(hb:af w b cs t)(h1:t≠ 162)(h2:t≠ 211):af w2 b cs t:=
 k.blk hb (λz=>z.elim (λz=>hb.ne h.bx h1 z) (λz=>by obtain⟨_,q⟩:=h.qK.type z;exact h2 (hb.type q)))
theorem aG.mark{w1:World}{mv':Value}(h:aG w0 w e s d M fv code lv mv st)(x:Mk)(hw:Below w.heap.size w w1)(ho:w2.ownsRow 0 211 3 mv' (st.marks.length+1) (st.marks.flatMap Mk.cells++x.cells))(hg:w1.grownBy w2 mv.ownBlock)(ha:mv'.ownBlock=mv.ownBlock∨mv'.ownBlock=some w1.heap.size):
  af w2 e (NI M fv lv s mv (.slice none 0 0) st) 162 /\aG w0 (w2.setCell ⟨e,4,none⟩ mv') e s d M fv code lv mv' {st with marks:=st.marks++[x]}/\Kept (QP e mv) w (w2.setCell ⟨e,4,none⟩ mv'):=by
 have h1:=h.ai hw;have K:=Kept.grown hg;obtain⟨_,qs⟩:=h1.da.fs;have bx:=K.blk h1.bx (λz=>h1.qK.ne h1.bx U0 z);have fr:=h1.fr.kept K (λb q z=>by obtain⟨_,t⟩:=h1.fr.type q;exact h1.qK.ne t U0 z);have da:=h1.da.kept K (λz=>h1.qK.ne qs U0 z) (λz=>h1.qK.ne h1.da.ws U0 z);have mk:Own w2 211 3 Mk.cells mv' (st.marks++[x]):=by
  unfold Own;rw[List.length_append,List.flatMap_append]
  simpa using ho
 have B2:=h1.B.trans (K.below (λb z=>h1.lm b z) h1.B.size);have K1:=Kept.one w2 e 4 mv';have ne:∀{b:Nat} {cs:Array Value} {t:TypeId},af w2 b cs t->t≠ 162 ->¬One e b:=λq n z=>by
  have z:_=e:=z;subst z
  exact n (q.type bx)
 obtain⟨_,qs2⟩:=da.fs;refine⟨bx,⟨bx.set 4 mv',fr.kept K1 (λb q=>by obtain⟨_,t⟩:=fr.type q;exact ne t U0),mk.kept K1 (λb q=>by obtain⟨_,t⟩:=mk.type q;exact ne t U0),da.kept K1 (ne qs2 U0) (ne da.ws U0),h.tx,B2.setCell h.le _,h.le,h.ls,h.ld,h.lf,λb q=>?_⟩,Kept.set (S:=QP e mv) (((Kept.ob hw).trans (K.mono (λb z=>Or.inr z)))) (p:=⟨e,4,none⟩) (Or.inl (Or.inl rfl)) _⟩
 rcases ha with z|z
 ·exact h.lm b (z▸q)
 ·rw[z]at q
  cases q
  exact h1.B.size
theorem aG.push{w1:World}{lv':Value}(h:aG w0 w e s d M fv code lv mv st)(x:SF)(hw:Below w.heap.size w w1)(ho:w2.ownsRow 0 197 15 lv' (st.l.length+1) (st.l.flatMap SF.cells++x.cells))(hg:w1.grownBy w2 lv.ownBlock)(ha:lv'.ownBlock=lv.ownBlock∨lv'.ownBlock=some w1.heap.size):
  af w2 e (NI M fv lv s mv (.slice none 0 0) st) 162 /\aG w0 (w2.setCell ⟨e,2,none⟩ lv') e s d M fv code lv' mv {st with l:=st.l++[x]}:=by
 have h1:=h.ai hw;have K:=Kept.grown hg;obtain⟨_,qs⟩:=h1.da.fs;have bx:=K.blk h1.bx (λz=>h1.fr.ne h1.bx U0 z);have mk:=h1.qK.kept K (λb q z=>by obtain⟨_,t⟩:=h1.qK.type q;exact h1.fr.ne t U0 z);have da:=h1.da.kept K (λz=>h1.fr.ne qs U0 z) (λz=>h1.fr.ne h1.da.ws U0 z);have fr:Own w2 197 15 SF.cells lv' (st.l++[x]):=by
  unfold Own;rw[List.length_append,List.flatMap_append]
  simpa using ho
 have B2:=h1.B.trans (K.below (λb z=>h1.lf b z) h1.B.size);have K1:=Kept.one w2 e 2 lv';have ne:∀{b:Nat} {cs:Array Value} {t:TypeId},af w2 b cs t->t≠ 162 ->¬One e b:=λq n z=>by
  have z:_=e:=z;subst z
  exact n (q.type bx)
 obtain⟨_,qs2⟩:=da.fs;refine⟨bx,bx.set 2 lv',fr.kept K1 (λb q=>by obtain⟨_,t⟩:=fr.type q;exact ne t U0),mk.kept K1 (λb q=>by obtain⟨_,t⟩:=mk.type q;exact ne t U0),da.kept K1 (ne qs2 U0) (ne da.ws U0),h.tx,B2.setCell h.le _,h.le,h.ls,h.ld,λb q=>?_,h.lm⟩
 rcases ha with z|z
 ·exact h.lf b (z▸q)
 ·rw[z]at q
  cases q
  exact h1.B.size
theorem aG.popped{A:Option Addr}{m cap:Nat}{l:List SF}{x:SF}(h:aG w0 w e s d M fv code (.slice A m cap) mv st)(hl:st.l=l++[x]):aG w0 (w.setCell ⟨e,2,none⟩ (.slice A l.length cap)) e s d M fv code (.slice A l.length cap) mv {st with l:=l}:=by
 have K1:=Kept.one w e 2 (.slice A l.length cap);have ne:∀{b:Nat} {cs:Array Value} {t:TypeId},af w b cs t->t≠ 162 ->¬One e b:=λq n z=>by
  have z:_=e:=z;subst z
  exact n (q.type h.bx)
 have fr:=h.fr;rw[hl]at fr;have uY:=fr.pop (λ_=>rfl);obtain⟨_,qs⟩:=h.da.fs;refine⟨h.bx.set 2 _,uY.kept K1 (λb q=>by obtain⟨_,t⟩:=uY.type q;exact ne t U0),h.qK.kept K1 (λb q=>by obtain⟨_,t⟩:=h.qK.type q;exact ne t U0),h.da.kept K1 (ne qs U0) (ne h.da.ws U0),h.tx,h.B.setCell h.le _,h.le,h.ls,h.ld,λb q=>h.lf b ?_,h.lm⟩
 cases A with
 |none=>cases q
 |some a=>exact q
theorem aG.data{L:List Int}(h:aG w0 w e s d M fv code lv mv st)(hd:aD w2 s d L)(K:Kept (One d) w w2):aG w0 w2 e s d M fv code lv mv {st with data:=L}:=by
 have ne:∀{b:Nat} {cs:Array Value} {t:TypeId},af w b cs t->t≠ 3 ->¬One d b:=λq n z=>by
  have z:_=d:=z;subst z
  exact n (q.type h.da.ws)
 exact⟨K.blk h.bx (ne h.bx U0),h.fr.kept K (λb q=>by obtain⟨_,t⟩:=h.fr.type q;exact ne t U0),h.qK.kept K (λb q=>by obtain⟨_,t⟩:=h.qK.type q;exact ne t U0),hd,h.tx,h.B.trans (K.below (λb z=>by have z:b=d:=z;subst z;exact h.ld) h.B.size),h.le,h.ls,h.ld,h.lf,h.lm⟩
end
end
section
theorem N8:(prog.info? 211).map (λi=>(i.zero,i.size,i.bytes))=some (some (.agg #[(0:Int),(0:Int),(0:Int)]),3,24):=by kernel_rfl
theorem N9:(prog.info? 197).map (λi=>(i.zero,i.size,i.bytes))=some (some (.agg #[(0:Int),(0:Int),(0:Int),(0:Int),(0:Int),(0:Int),(0:Int),(0:Int),(0:Int),(0:Int),(0:Int),.bool false,(0:Int),(0:Int),(0:Int)]),15,120):=by kernel_rfl
theorem GL:(prog.info? 197).map (·.size)=some 15:=by kernel_rfl
section
variable {w0 w:World} {e s d:Nat} {M:Int} {fv:Value} {code:List (List Is)} {lv mv:Value} {st:ES}
theorem Us90 {p:Prop} (h:p:=by
 go_upto_region 1 with fail
 go_quiet (fail)
 go_wp2_with fail
 go_ret
 exact⟨rfl,below_drewN (Below.refl _ _) _⟩):p:=h
theorem lim{n:Nat}(h:n<=1000)(k:Nat)(hk:k<=1000):n+1<=maxLen/\(n+1)*k<=140737488355328:=by
 refine⟨by unfold maxLen;omega,?_⟩
 have:(n+1)*k<=1001*1000:=Nat.mul_le_mul U2 hk
 omega
theorem mU(h:aG w0 w e s d M fv code lv mv st)(k a:Int)(hl:st.marks.length<=1000):Cs 188 #[ptr e,k,a] w (.tuple #[]) λw'=>∃mv',aG w0 w' e s d M fv code lv mv' {st with marks:=st.marks++[⟨k,a⟩]}/\Kept (QP e mv) w w':=by
 obtain⟨i0,hi,hz0,hz1,hz2⟩:=info_parts N8;obtain⟨A,cap,rfl⟩:=h.qK.len;have x4:=h.bx.c4;have H:=Hd h;have O:=Hd (h.qK.alloc (.cells #[k,a,(0:Int)] 211));have SR:=Hd (bG w #[k,a,(0:Int)] 211 3 rfl);have LM:=Hd (lim hl 24 U0);clear h;go_enter func188,ntmps188
 go_wp2_with (at_builtin;refine bB _ rfl _ _ 113 rfl 0 211 i0 _ 3 24 underlying113 hi hz0 hz1 hz2 rfl U0 (.slice A st.marks.length cap) st.marks.length _ rfl O.out _ 1 _ rfl SR.out U17 LM.out.1 LM.out.2 (n0 _) ?_;intro v2 w2 hown2 hgrow2 hat2;obtain⟨m1,m2,m3⟩:=H.o.mark ⟨k,a⟩ (Ba _) hown2 hgrow2 hat2;have y0:=m1.fz 4;obtain⟨A2,c2,rfl⟩:=ownsRow_form hown2;have y1:=m1.c4;have MM:=Hd m2;have MK:=Hd m3;clear hown2 hgrow2 hat2 m1 m2 m3)
 go_end0
 exact⟨rfl,⟨_,MM.out⟩,MK.out⟩
theorem Lh(h:aG w0 w e s d M fv code lv mv st)(a:Int):Cs 115 #[ptr e,a,(0:Int)] w (.tuple #[]) λw'=>aG w0 w' e s d M fv code lv mv {st with status:=a}:=by
 have x6:=h.bx.c6;have x7:=h.bx.c7;have xf:=h.bx.fz;have H:=Hd ((h.put (st':={st with status:=a}) 6 ↑a rfl rfl rfl rfl).put (st':={st with status:=a}) 7 (.int .i64 0) rfl rfl rfl rfl);clear h;go_enter func115,ntmps115;go_wp2_with fail
 go_end0
 exact⟨rfl,H.o⟩
theorem ix{n i:Nat}(hn:n=i+1)(h:n<=1000):wrap64 ((n:Int)-1)=(i:Int)/\(i:Int)<(n:Int)/\IntKind.i64.wrap ((n:Int)-1)=(i:Int)/\(0:Int)<=(i:Int):=⟨by unfold wrap64;omega,by omega,by rw[IntKind.wrap_i64];omega,by omega⟩
def SF.zero:Array Value:= #[(0:Int),(0:Int),(0:Int),(0:Int),(0:Int),(0:Int),(0:Int),(0:Int),(0:Int),(0:Int),(0:Int),.bool false,(0:Int),(0:Int),(0:Int)]
theorem aG.jV{g n cap:Nat}(h:aG w0 w e s d M fv code (.slice (some ⟨g,0,none⟩) n cap) mv st)(i:Nat)(x:SF)(hx:st.l[i]? =some x):w.cell? ⟨g,i*15,none⟩=some ↑x.kind/\w.cell? ⟨g,i*15+1,none⟩=some ↑x.fn/\w.cell? ⟨g,i*15+2,none⟩=some ↑x.pc/\w.cell? ⟨g,i*15+3,none⟩=some ↑x.rg.r0/\w.cell? ⟨g,i*15+4,none⟩=some ↑x.rg.r1/\w.cell? ⟨g,i*15+5,none⟩=some ↑x.rg.r2/\w.cell? ⟨g,i*15+6,none⟩=some ↑x.rg.r3/\w.cell? ⟨g,i*15+7,none⟩=some ↑x.rg.r4/\w.cell? ⟨g,i*15+8,none⟩=some ↑x.rg.r5/\w.cell? ⟨g,i*15+9,none⟩=some ↑x.rg.r6/\w.cell? ⟨g,i*15+10,none⟩=some ↑x.rg.r7/\w.cell? ⟨g,i*15+11,none⟩=some (.bool x.az)/\w.cell? ⟨g,i*15+12,none⟩=some (.int .i64 0)/\w.cell? ⟨g,i*15+13,none⟩=some (.int .i64 0)/\w.cell? ⟨g,i*15+14,none⟩=some (.int .i64 0):=by
 obtain⟨hi,hx⟩:=List.getElem?_eq_some_iff.1 hx;obtain⟨g',cap',e1,hc⟩:=h.fr.cells (λ_=>rfl) U2
 cases e1
 have q:=λj (hj:j<15)=>hc i j hi hj;rw[hx]at q;rw[Nat.mul_comm]
 exact⟨q 0 U0,q 1 U0,q 2 U0,q 3 U0,q 4 U0,q 5 U0,q 6 U0,q 7 U0,q 8 U0,q 9 U0,q 10 U0,q 11 U0,q 12 U0,q 13 U0,q 14 U0⟩
theorem aG.cap{g n cap:Nat}(h:aG w0 w e s d M fv code (.slice (some ⟨g,0,none⟩) n cap) mv st):n=st.l.length/\n<=cap:=by
 obtain⟨_,⟨h2,_⟩|⟨g',cap',cur',e1,_,_,hn,_⟩⟩:=h.fr
 ·cases h2
 ·cases e1;exact⟨rfl,hn⟩
theorem Pe{g n i cap:Nat}(h:aG w0 w e s d M fv code (.slice (some ⟨g,0,none⟩) n cap) mv st)(hn:n=i+1)(hl:n<=1000):Cs 187 #[ptr e] w (.pointer (some ⟨g,i*15,none⟩)) λw'=>Below w.heap.size w w':=by
 have x2:=h.bx.c2;obtain⟨i1,i2,i3,i4⟩:=ix hn hl;clear h hn hl;go_enter func187,ntmps187
 exact Us90
theorem Pd{g n i cap:Nat}{l:List SF}{x:SF}(h:aG w0 w e s d M fv code (.slice (some ⟨g,0,none⟩) n cap) mv st)(hl:st.l=l++[x])(hi:l.length=i)(hn:n=i+1)(hm:n<=1000):Calls prog 255 #[ptr e] w λev w'=>(∃v,ev=.returned v)/\aG w0 w' e s d M fv code (.slice (some ⟨g,0,none⟩) i cap) mv {st with l:=l}:=by
 obtain⟨i1,i2,i3,i4⟩:=ix hn hm;have HM:=Hd hm;have i5:i<=cap:=by have:=h.cap.2;omega
 have B1:Below w.heap.size w (w.alloc (.cells SF.zero 197)):=Ba _;have H1:=Hd (h.ai B1);have ZZ:=Hd (af.new w SF.zero 197 _ rfl);have NL:=Hd h.B.size;have NG:=Hd (show w.heap.size≠g from λz=>by obtain⟨_,t⟩:=h.fr.type (b:=g) rfl;have:=t.lt;omega);have hi2:=Hd hi;have hn2:=Hd hn;clear h hn hi hm;go_enter func255,ntmps255;go_upto_region 1 with fail;unfold SF.zero at H1 ZZ;generalize w.alloc (.cells #[(0:Int),(0:Int),(0:Int),(0:Int),(0:Int),(0:Int),(0:Int),(0:Int),(0:Int),(0:Int),(0:Int),.bool false,(0:Int),(0:Int),(0:Int)] 197)=W at*;generalize w.heap.size=q at*;have x2:=H1.o.bx.c2;obtain⟨c0,c1,c2,c3,c4,c5,c6,c7,c8,c9,c10,c11,c12,c13,c14⟩:=H1.o.jV i x (by rw[hl];simp[hi2.out]);generalize x.kind=y0 at*;generalize x.fn=y1 at*;generalize x.pc=y2 at*;generalize x.rg.r0=z0 at*;generalize x.rg.r1=z1 at*;generalize x.rg.r2=z2 at*;generalize x.rg.r3=z3 at*;generalize x.rg.r4=z4 at*;generalize x.rg.r5=z5 at*;generalize x.rg.r6=z6 at*;generalize x.rg.r7=z7 at*;generalize x.az=y3 at*
 go_region_held3 (λw'=>w'.cell? ⟨e,2,none⟩=some (.slice (some ⟨g,0,none⟩) n cap)/\w'.cell? ⟨g,i*15,none⟩=some ↑y0/\w'.cell? ⟨g,i*15+1,none⟩=some ↑y1/\w'.cell? ⟨g,i*15+2,none⟩=some ↑y2/\w'.cell? ⟨g,i*15+3,none⟩=some ↑z0/\w'.cell? ⟨g,i*15+4,none⟩=some ↑z1/\w'.cell? ⟨g,i*15+5,none⟩=some ↑z2/\w'.cell? ⟨g,i*15+6,none⟩=some ↑z3/\w'.cell? ⟨g,i*15+7,none⟩=some ↑z4/\w'.cell? ⟨g,i*15+8,none⟩=some ↑z5/\w'.cell? ⟨g,i*15+9,none⟩=some ↑z6/\w'.cell? ⟨g,i*15+10,none⟩=some ↑z7/\w'.cell? ⟨g,i*15+11,none⟩=some (.bool y3)/\w'.cell? ⟨g,i*15+12,none⟩=some (.int .i64 0)/\w'.cell? ⟨g,i*15+13,none⟩=some (.int .i64 0)/\w'.cell? ⟨g,i*15+14,none⟩=some (.int .i64 0))
  (exact U161)
  (fail)
 all_goals
  have B2:Below W.heap.size W (W.alloc (.cells #[y0,y1,y2,z0,z1,z2,z3,z4,z5,z6,z7,.bool y3,(0:Int),(0:Int),(0:Int)] 197)).drew:=(Ba _).drew;have H2:=Hd (H1.o.ai B2);have Z2:=Hd (ZZ.out.below B2 ZZ.out.lt);have NQ:=Hd (Nat.ne_of_lt ZZ.out.lt);have Q2:=Hd (af.drew (af.new W #[y0,y1,y2,z0,z1,z2,z3,z4,z5,z6,z7,.bool y3,(0:Int),(0:Int),(0:Int)] 197 _ rfl));clear x2 c0 c1 c2 c3 c4 c5 c6 c7 c8 c9 c10 c11 c12 c13 c14 B2;generalize(W.alloc (.cells #[y0,y1,y2,z0,z1,z2,z3,z4,z5,z6,z7,.bool y3,(0:Int),(0:Int),(0:Int)] 197)).drew=W2 at*;generalize W.heap.size=q2 at*;have x2:=H2.o.bx.c2;have f2:=H2.o.bx.fz 2;go_upto_region 2 with fail
  go_region
 all_goals
  clear x2 f2 i1 i2 i3 i4 i5;have Z3:=Hd ((Z2.out.far (a:=⟨e,2,none⟩) (Z2.out.ne H2.o.bx U0) (.slice (some ⟨g,0,none⟩) i cap)).drew);have Q3:=Hd ((Q2.out.far (a:=⟨e,2,none⟩) (Q2.out.ne H2.o.bx U0) (.slice (some ⟨g,0,none⟩) i cap)).drew);have H3:=H2.o.popped hl;rw[hi2.out]at H3;have H3:=Hd H3.drew;generalize(W2.setCell ⟨e,2,none⟩ (.slice (some ⟨g,0,none⟩) i cap)).drew=W3 at*;have c0:=Q3.out.cell 0;have c1:=Q3.out.cell 1;have c2:=Q3.out.cell 2;have c3:=Q3.out.cell 3;have c4:=Q3.out.cell 4;have c5:=Q3.out.cell 5;have c6:=Q3.out.cell 6;have c7:=Q3.out.cell 7;have c8:=Q3.out.cell 8;have c9:=Q3.out.cell 9;have c10:=Q3.out.cell 10;have c11:=Q3.out.cell 11;have c12:=Q3.out.cell 12;have c13:=Q3.out.cell 13;have c14:=Q3.out.cell 14;simp only[List.getElem?_toArray,List.getElem?_cons_zero,List.getElem?_cons_succ]at c0 c1 c2 c3 c4 c5 c6 c7 c8 c9 c10 c11 c12 c13 c14
  go_wp2_with (first|(refine aQ rfl 197 (.tmp 2) (.tmp 30) rfl q _ _ _ Z3.out rfl rfl GL rfl U17 ?_;intro w4 b4 k4))
 all_goals
  have hl:=run_loadVar_row w4 q 197 197 _ (0,0) _ b4 underlying197 rfl GL;refine bodyPost_ret (v:=.agg #[y0,y1,y2,z0,z1,z2,z3,z4,z5,z6,z7,.bool y3,(0:Int),(0:Int),(0:Int)]) (by simp[results,results255,Act.put,asAddr,hl]) rfl ?_;have ne:∀{b:Nat} {cs:Array Value} {t:TypeId},af W3 b cs t->t≠ 197 ->¬One q b:=λx n z=>by
   have z:_=q:=z
   exact Z3.out.ne x (Ne.symm n) z.symm
  obtain⟨_,qs⟩:=H3.o.da.fs
  exact⟨⟨_,rfl⟩,H3.o.kept k4 (λb z=>by have z:b=q:=z;subst z;exact NL.out) (ne H3.o.bx U0) (ne qs U0) (ne H3.o.da.ws U0) (λb y z=>by cases y;exact NG.out z.symm) (λb y=>by obtain⟨_,t⟩:=H3.o.qK.type y;exact ne t U0)⟩
theorem Qt(f:SF):∀u∈f.cells,u.oneCell'=true:=by
 intro u hu;simp only[SF.cells,List.mem_cons,List.not_mem_nil,or_false]at hu
 rcases hu with rfl|rfl|rfl|rfl|rfl|rfl|rfl|rfl|rfl|rfl|rfl|rfl|rfl|rfl|rfl<;>rfl
theorem aG.cells(h:aG w0 w e s d M fv code lv mv st):w.cell? ⟨e,0,none⟩=some ↑M/\w.cell? ⟨e,1,none⟩=some fv/\w.cell? ⟨e,2,none⟩=some lv/\w.cell? ⟨e,3,none⟩=some (ptr s)/\w.cell? ⟨e,4,none⟩=some mv/\w.cell? ⟨e,6,none⟩=some ↑st.status/\w.cell? ⟨e,10,none⟩=some ↑st.steps/\w.cell? ⟨e,11,none⟩=some ↑st.frames/\w.cell? ⟨e,12,none⟩=some ↑st.deepest:=
 ⟨h.bx.cell 0,h.bx.cell 1,h.bx.cell 2,h.bx.cell 3,h.bx.cell 4,h.bx.cell 6,h.bx.cell 10,h.bx.cell 11,h.bx.cell 12⟩
theorem AU(h:aG w0 w e s d M fv code lv mv st)(x:SF)(hl:st.l.length<=1000)(fr' dp':Int)(e1:wrap64 (st.frames+1)=fr')(e2:(if st.deepest<((st.l.length+1:Nat):Int)then((st.l.length+1:Nat):Int)else st.deepest)=dp'):Cs 113 #[ptr e,.agg x.cells.toArray] w (.tuple #[]) λw'=>∃lv',aG w0 w' e s d M fv code lv' mv {st with l:=st.l++[x],frames:=fr',deepest:=dp'}:=by
 obtain⟨i0,hi,hz0,hz1,hz2⟩:=info_parts N9;obtain⟨A,cap,rfl⟩:=h.fr.len;have LM:=Hd (lim hl 120 U0);have X1:=Hd (Qt x);obtain⟨k0,k1,k2,⟨r0,r1,r2,r3,r4,r5,r6,r7⟩,dt⟩:=x;unfold SF.cells at X1⊢;dsimp only at X1⊢;have B1:Below w.heap.size w (w.alloc (.cells #[k0,k1,k2,r0,r1,r2,r3,r4,r5,r6,r7,.bool dt,(0:Int),(0:Int),(0:Int)] 197)):=Ba _;have H1:=Hd (h.ai B1);have ZZ:=Hd (af.new w #[k0,k1,k2,r0,r1,r2,r3,r4,r5,r6,r7,.bool dt,(0:Int),(0:Int),(0:Int)] 197 _ rfl);clear h B1;go_enter func113,ntmps113;go_upto_region 1 with fail;generalize w.alloc (.cells #[k0,k1,k2,r0,r1,r2,r3,r4,r5,r6,r7,.bool dt,(0:Int),(0:Int),(0:Int)] 197)=W at*;generalize w.heap.size=q at*;obtain⟨_,_,y2,_,_,_,_,_,_⟩:=H1.o.cells;have y3:(W.alloc (.cells #[k0,k1,k2,r0,r1,r2,r3,r4,r5,r6,r7,.bool dt,(0:Int),(0:Int),(0:Int)] 197)).cell? ⟨e,2,none⟩=some (.slice A st.l.length cap):=kc y2;have y4:(W.alloc (.cells #[k0,k1,k2,r0,r1,r2,r3,r4,r5,r6,r7,.bool dt,(0:Int),(0:Int),(0:Int)] 197)).drew.cell? ⟨e,2,none⟩=some (.slice A st.l.length cap):=kc y2;have SR:=Hd (bG W #[k0,k1,k2,r0,r1,r2,r3,r4,r5,r6,r7,.bool dt,(0:Int),(0:Int),(0:Int)] 197 15 rfl);have c0:=ZZ.out.cell 0;have c1:=ZZ.out.cell 1;have c2:=ZZ.out.cell 2;have c3:=ZZ.out.cell 3;have c4:=ZZ.out.cell 4;have c5:=ZZ.out.cell 5;have c6:=ZZ.out.cell 6;have c7:=ZZ.out.cell 7;have c8:=ZZ.out.cell 8;have c9:=ZZ.out.cell 9;have c10:=ZZ.out.cell 10
 have c11:=ZZ.out.cell 11;have c12:=ZZ.out.cell 12;have c13:=ZZ.out.cell 13;have c14:=ZZ.out.cell 14;simp only[List.getElem?_toArray,List.getElem?_cons_zero,List.getElem?_cons_succ]at c0 c1 c2 c3 c4 c5 c6 c7 c8 c9 c10 c11 c12 c13 c14
 go_region_law (first|(refine ay _ (by rfl) _ _ 160 (by rfl) 0 197 i0 _ 15 120 underlying160 hi hz0 hz1 hz2 rfl U0 (.slice A st.l.length cap) st.l.length _ (by rfl) (by first|exact H1.o.fr.alloc _|exact(H1.o.drew.fr.alloc _)) (.slice (some ⟨W.heap.size,0,none⟩) 1 1) 1 _ (by rfl) (by first|exact SR.out|exact SR.out.drew) X1.o LM.out.1 LM.out.2 (n0 _) ?_;intro v2 w2 hown2 hgrow2 hat2;obtain⟨m1,m2⟩:=H1.o.push ⟨k0,k1,k2,⟨r0,r1,r2,r3,r4,r5,r6,r7⟩,dt⟩ U28 hown2 hgrow2 hat2;have y0:=m1.fz 2;obtain⟨A2,c2',rfl⟩:=ownsRow_form hown2;have y1:=m1.c2;have MM:=Hd m2;clear hown2 hgrow2 hat2 m1 m2))
 all_goals
  clear y0 y1 y2 y3 y4 c0 c1 c2 c3 c4 c5 c6 c7 c8 c9 c10 c11 c12 c13 c14;generalize w2.setCell ⟨e,2,none⟩ (.slice A2 (st.l.length+1) c2')=W3 at*;generalize st.l.length+1=n1 at*;obtain⟨_,_,_,_,_,_,_,x11,_⟩:=MM.out.cells;have f11:=MM.out.bx.fz 11;have H4:=Hd (MM.out.put (st':={st with l:=st.l++[⟨k0,k1,k2,⟨r0,r1,r2,r3,r4,r5,r6,r7⟩,dt⟩],frames:=fr'}) 11 ↑fr' rfl rfl rfl rfl);go_upto_region 3 with fail;clear x11 f11;generalize W3.setCell ⟨e,11,none⟩ ↑fr'=W4 at*;obtain⟨_,_,x2,_,_,_,_,_,x12⟩:=H4.o.cells;have f12:=H4.o.bx.fz 12;have H5:=Hd (H4.o.put (st':={st with l:=st.l++[⟨k0,k1,k2,⟨r0,r1,r2,r3,r4,r5,r6,r7⟩,dt⟩],frames:=fr',deepest:=dp'}) 12 ↑dp' rfl rfl rfl rfl)
  go_region
 all_goals
  go_end0
  exact⟨rfl,_,H5.o.drew⟩
end
end
section
section
variable {w0 w:World} {e s d:Nat} {M:Int} {fv:Value} {code:List (List Is)} {lv mv:Value} {st:ES}
theorem Hg{g n i cap:Nat}{x:SF}(h:aG w0 w e s d M fv code (.slice (some ⟨g,0,none⟩) n cap) mv st)(hn:n=1)(hx:st.l[i]? =some x)(hk:x.kind=1):Cs 192 #[ptr e,.pointer (some ⟨g,i*15,none⟩)] w (.tuple #[]) λw'=>aG w0 w' e s d M fv code (.slice (some ⟨g,0,none⟩) n cap) mv {st with status:=1}:=by
 subst hn;have x2:=h.bx.c2;obtain⟨c0,_⟩:=h.jV i x hx;rw[hk]at c0;have cS:=Hd (Lh h 1);clear h hx hk;go_enter func192,ntmps192
 go_wp2_with (go_at_call 115;refine cS.o.q λw1 h1=> ?_)
 go_end0
 exact⟨rfl,h1⟩
theorem Hl{g n i cap:Nat}{l:List SF}{x:SF}(h:aG w0 w e s d M fv code (.slice (some ⟨g,0,none⟩) n cap) mv st)(hl:st.l=l++[x])(hi:l.length=i)(hn:n=i+1)(h1:1<=i)(hm:n<=1000)(hm2:st.marks.length<=1000)(hk:x.kind=1):Cs 192 #[ptr e,.pointer (some ⟨g,i*15,none⟩)] w (.tuple #[]) λw'=>∃mv',aG w0 w' e s d M fv code (.slice (some ⟨g,0,none⟩) i cap) mv' {st with l:=l,marks:=st.marks++[⟨5,0⟩]}:=by
 have x2:=h.bx.c2;obtain⟨c0,_⟩:=h.jV i x (by rw[hl];simp[hi]);rw[hk]at c0;have d1:¬(n:Int)=1:=by omega
 have cS:=Hd (mU h 5 0 hm2);have cP:=Hd (λw1 mv' (h1:aG w0 w1 e s d M fv code (.slice (some ⟨g,0,none⟩) n cap) mv' {st with marks:=st.marks++[⟨5,0⟩]})=>Pd h1 hl hi hn hm);clear h hk hm hn hi h1;go_enter func192,ntmps192
 go_wp2_with (first|(go_at_call 188;refine cS.o.mono ?_;rintro ev w1 ⟨rfl,mv1,h1,k1⟩)|(go_at_call 255;refine(cP.o _ _ h1).mono ?_;rintro ev w2 ⟨⟨u,rfl⟩,h2⟩))
 go_end0
 exact⟨rfl,_,h2⟩
theorem Rf(k a v o r:Int)(w:World):af (w.alloc (.cells #[k,a,v,o,r] 235)) w.heap.size #[k,a,v,o,r] 235 :=af.new w _ _ _ rfl
theorem Lf(h:aG w0 w e s d M fv code lv mv st)(f:Value)(k a v o r:Int)(hk:k≠5/\k≠6/\k≠8):Cs 193 #[ptr e,f,.agg #[k,a,v,o,r]] w (.tuple #[]) λw'=>aG w0 w' e s d M fv code lv mv st:=by
 obtain⟨k1,k2,k3⟩:=hk;have d1:¬k=5:=k1;have d2:¬k=6:=k2;have d3:¬k=8:=k3;go_enter func193,ntmps193;go_wp2_with fail
 go_end0
 exact⟨rfl,h.alloc _⟩
theorem Le{g n i cap:Nat}{x:SF}(h:aG w0 w e s d M fv code (.slice (some ⟨g,0,none⟩) n cap) mv st)(hx:st.l[i]? =some x)(hm:st.l.length<=1000)(hm2:st.marks.length<=1000)(a v o r fr' dp':Int)(e1:wrap64 (st.frames+1)=fr')(e2:(if st.deepest<((st.l.length+1:Nat):Int)then((st.l.length+1:Nat):Int)else st.deepest)=dp'):Cs 193 #[ptr e,.pointer (some ⟨g,i*15,none⟩),.agg #[(6:Int),a,v,o,r]] w (.tuple #[]) λw'=>∃lv' mv',aG w0 w' e s d M fv code lv' mv' {st with l:=st.l.set i {x with az:=true}++[⟨1,v,0,x.rg,false⟩],marks:=st.marks++[⟨4,0⟩],frames:=fr',deepest:=dp'}:=by
 obtain⟨xk,xn,xp,⟨r0,r1,r2,r3,r4,r5,r6,r7⟩,xt⟩:=x;have hxi:=List.getElem?_eq_some_iff.1 hx;obtain⟨hi,hxe⟩:=hxi;have H1:=Hd (h.alloc (.cells #[(6:Int),a,v,o,r] 235));have E1:=Hd (Rf 6 a v o r w);have xd:(w.alloc (.cells #[(6:Int),a,v,o,r] 235)).cell? ⟨g,i*15+11,none⟩=some (.bool xt):=by obtain⟨_,_,_,_,_,_,_,_,_,_,_,q,_⟩:=H1.o.jV i _ hx;exact q
 have xf:(w.alloc (.cells #[(6:Int),a,v,o,r] 235)).frozen? ⟨g,i*15+11,none⟩=false:=by obtain⟨cs,q⟩:=H1.o.fr.type (b:=g) rfl;exact q.fz _
 have H2:=Hd (H1.o.oM rfl i 11 (i*15+11) (.bool true) (⟨xk,xn,xp,⟨r0,r1,r2,r3,r4,r5,r6,r7⟩,true⟩:SF) hi U0 U2 (by rw[hxe];rfl));have E2:=Hd (E1.out.far (a:=⟨g,i*15+11,none⟩) (by obtain⟨cs,q⟩:=H1.o.fr.type (b:=g) rfl;exact E1.out.ne q U0) (.bool true));have cM:=Hd (mU H2.o 4 0 hm2);have HX:=Hd (show(st.l.set i (⟨xk,xn,xp,⟨r0,r1,r2,r3,r4,r5,r6,r7⟩,true⟩:SF))[i]? =some (⟨xk,xn,xp,⟨r0,r1,r2,r3,r4,r5,r6,r7⟩,true⟩:SF)from by simp[hi]);have cP:=Hd (λw1 mv' (h1:aG w0 w1 e s d M fv code (.slice (some ⟨g,0,none⟩) n cap) mv' {st with l:=st.l.set i (⟨xk,xn,xp,⟨r0,r1,r2,r3,r4,r5,r6,r7⟩,true⟩:SF),marks:=st.marks++[⟨4,0⟩]})=>AU h1 ⟨1,v,0,⟨r0,r1,r2,r3,r4,r5,r6,r7⟩,false⟩ (by simpa using hm) fr' dp' e1 (by simpa using e2));clear h hm hm2 hxe e1 e2 hx;go_enter func193,ntmps193;go_upto_region 7 with fail;clear xd xf;generalize(w.alloc (.cells #[(6:Int),a,v,o,r] 235)).setCell ⟨g,i*15+11,none⟩ (.bool true)=W2 at*;generalize w.heap.size=q at*
 go_upto_region 8 with(go_at_call 188;refine cM.o.mono ?_;rintro ev w3 ⟨rfl,mv3,h3,k3⟩)
 have E3:=H2.o.xO k3 E2.out U0 U0;have y2:=E3.c2;obtain⟨_,_,_,z0,z1,z2,z3,z4,z5,z6,z7,_⟩:=h3.jV i _ HX.o;have H3:=Hd h3;have cQ:=Hd (λwr (b:Below w3.heap.size w3 wr)=>cP.o _ _ (H3.o.ai b));dsimp only at z0 z1 z2 z3 z4 z5 z6 z7;clear h3 k3 E3 cP cM;unfold SF.cells at cQ;dsimp only at cQ
 go_region_law (first|(go_simp;go_at_call 113;refine(cQ.o _ U56).mono ?_;rintro ev w4 ⟨rfl,lv4,h4⟩))
 all_goals
  go_end0
  exact⟨rfl,_,_,by first|exact h4|exact h4.drew⟩
end
end
section
section
variable {w0 w:World} {e s d:Nat} {M:Int} {fv:Value} {code:List (List Is)} {lv mv:Value} {st:ES}
theorem aG.Rc{g n cap:Nat}(h:aG w0 w e s d M fv code (.slice (some ⟨g,0,none⟩) n cap) mv st)(i:Nat)(hi:i<st.l.length):∃cur,af w g cur 197 /\i*15+15<=cur.size:=by
 obtain⟨_,⟨h2,_⟩|⟨g',cap',cur',e1,_,hb,hn,_,hs,_⟩⟩:=h.fr
 ·cases h2
 ·cases e1
  exact⟨cur',hb,by rw[hs];omega⟩
theorem AQ:(prog.info? 174).map (·.size)=some 8:=by kernel_rfl
theorem aG.Qx{w2:World}{g n cap:Nat}(h:aG w0 w e s d M fv code (.slice (some ⟨g,0,none⟩) n cap) mv st)(i:Nat)(x:SF)(hx:st.l[i]? =some x)(cur:Array Value)(hb:af w g cur 197)(hb':af w2 g (cur.toList.take (i*15+3)++x.rg.arr.toList++cur.toList.drop (i*15+3+8)).toArray 197)(K:Kept (One g) w w2):aG w0 w2 e s d M fv code (.slice (some ⟨g,0,none⟩) n cap) mv st:=by
 obtain⟨hi,he⟩:=List.getElem?_eq_some_iff.1 hx;have q:=h.Rl rfl cur hb i x.rg hi (i*15+3) U2 hb' K;have e1:({st.l[i]with rg:=x.rg}:SF)=st.l[i]:=by rw[he]
 rw[e1,List.set_getElem_self]at q
 exact q
theorem O9{g n i cap:Nat}{x:SF}(h:aG w0 w e s d M fv code (.slice (some ⟨g,0,none⟩) n cap) mv st)(hx:st.l[i]? =some x)(hm2:st.marks.length<=1000)(k:Nat)(hk:k<st.data.length)(pc v o r:Int):Cs 189 #[ptr e,.pointer (some ⟨g,i*15,none⟩),pc,.agg #[x.rg.r0,x.rg.r1,x.rg.r2,x.rg.r3,x.rg.r4,x.rg.r5,x.rg.r6,x.rg.r7],.agg #[(2:Int),k,v,o,r]] w (.tuple #[]) λw'=>∃mv',aG w0 w' e s d M fv code (.slice (some ⟨g,0,none⟩) n cap) mv' {st with l:=st.l.set i {x with pc:=pc},data:=st.data.set k v,marks:=st.marks++[⟨2,k⟩]}:=by
 obtain⟨xk,xn,xp,⟨r0,r1,r2,r3,r4,r5,r6,r7⟩,xt⟩:=x;dsimp only;obtain⟨hi,hxe⟩:=List.getElem?_eq_some_iff.1 hx;have B1:Below w.heap.size w ((w.alloc (.cells #[r0,r1,r2,r3,r4,r5,r6,r7] 174)).alloc (.cells #[(2:Int),k,v,o,r] 235)):=(Ba _).alloc U8 _;have H1:=Hd (h.ai B1);have R1:=Hd ((af.new w #[r0,r1,r2,r3,r4,r5,r6,r7] 174 _ rfl).alloc (.cells #[(2:Int),k,v,o,r] 235));have E1:=af.new (w.alloc (.cells #[r0,r1,r2,r3,r4,r5,r6,r7] 174)) #[(2:Int),k,v,o,r] 235 _ rfl;rw[World.size_alloc]at E1;have E1:=Hd E1;have HX:=Hd hx;have HI:=Hd hi;have HK:=Hd hk;have HM:=Hd hm2;clear h B1 hx hi hxe hk hm2;go_enter func189,ntmps189;go_upto_region 4 with fail;generalize(w.alloc (.cells #[r0,r1,r2,r3,r4,r5,r6,r7] 174)).alloc (.cells #[(2:Int),k,v,o,r] 235)=W at*;generalize hq:w.heap.size=q at*;have y0:W.cell? ⟨q+1,0,none⟩=some (.int .i64 2):=E1.out.cell 0;have y1:W.cell? ⟨q+1,1,none⟩=some ↑k:=E1.out.cell 1;have y2:W.cell? ⟨q+1,2,none⟩=some ↑v:=E1.out.cell 2;have x3:=H1.o.bx.c3;have cS:=Hd (λwr (b:Below W.heap.size W wr)=>dN wr s d st.data k HK.o v (H1.o.ai b).da);go_upto_region 9 with fail
 go_region_law (first|(go_simp;go_at_call 84;refine(cS.o _ U56).mono ?_;rintro ev w1 ⟨rfl,sd1,k1⟩))
 all_goals
  have K1:Kept (One d) W w1:=by first|exact k1|exact(Kept.refl _ _).drew.trans k1
  have H2:=Hd (H1.o.data sd1 K1);have ne:∀{b:Nat} {cs:Array Value} {t:TypeId},af W b cs t->t≠ 3 ->¬One d b:=λq n z=>by
   have z:_=d:=z;subst z
   exact n (q.type H1.o.da.ws)
  have R2:=Hd (K1.blk R1.out (ne R1.out U0));have E2:=Hd (K1.blk E1.out (ne E1.out U0));clear y0 y1 y2 x3 cS sd1 k1 K1 ne;have y1:w1.cell? ⟨q+1,1,none⟩=some ↑k:=E2.out.cell 1;have cM:=Hd (mU H2.o 2 k HM.o)
  go_upto_region 17 with(go_at_call 188;refine cM.o.mono ?_;rintro ev w2 ⟨rfl,mv2,h2,k2⟩)
  have R3:=Hd (H2.o.xO k2 R2.out U0 U0);have E3:=Hd (H2.o.xO k2 E2.out U0 U0);have H3:=Hd h2;clear y1 h2 k2 cM R2 E2 H2;have cT:=Hd (λw=>Sp.wT ⟨r0,r1,r2,r3,r4,r5,r6,r7⟩ 2 k v o r 0 w);rw[show Sp.iZ ⟨r0,r1,r2,r3,r4,r5,r6,r7⟩ 2 v r 0=⟨r0,r1,r2,r3,r4,r5,r6,r7⟩from rfl]at cT;dsimp only at cT;have z0:=R3.out.c0;have z1:=R3.out.c1;have z2:=R3.out.c2;have z3:=R3.out.c3;have z4:=R3.out.c4;have z5:=R3.out.c5;have z6:=R3.out.c6;have z7:=R3.out.c7;have u0:w2.cell? ⟨q+1,0,none⟩=some (.int .i64 2):=E3.out.cell 0;have u1:w2.cell? ⟨q+1,1,none⟩=some ↑k:=E3.out.cell 1;have u2:w2.cell? ⟨q+1,2,none⟩=some ↑v:=E3.out.cell 2;have u3:w2.cell? ⟨q+1,3,none⟩=some ↑o:=E3.out.cell 3;have u4:w2.cell? ⟨q+1,4,none⟩=some ↑r:=E3.out.cell 4;have PH:=Hd (λw3 (b:Below w2.heap.size w2 w3)=>(⟨by obtain⟨_,_,c2,_⟩:=(H3.o.ai b).jV i _ HX.o;exact c2,by obtain⟨cs,q⟩:=(H3.o.ai b).fr.type (b:=g) rfl;exact q.fz _,(H3.o.ai b).oM rfl i 2 (i*15+2) ↑pc ⟨xk,xn,pc,⟨r0,r1,r2,r3,r4,r5,r6,r7⟩,xt⟩ HI.o U0 U2 U66⟩:w3.cell? ⟨g,i*15+2,none⟩=some ↑xp/\w3.frozen? ⟨g,i*15+2,none⟩=false/\aG w0 (w3.setCell ⟨g,i*15+2,none⟩ ↑pc) e s d M fv code (.slice (some ⟨g,0,none⟩) n cap) mv2 _))
  go_wp2_with (first|(go_at_call 149;refine(cT.o _).q λw3 hb3=> ?_;obtain⟨p2,pf,p3⟩:=PH.out _ hb3;obtain⟨cur,cb,cz⟩:=p3.Rc i (by simpa using HI.o);have P3:=Hd p3;have CB:=Hd cb;clear p3 cb z0 z1 z2 z3 z4 z5 z6 z7 u0 u1 u2 u3 u4)|(refine wpList_store_mid rfl 174 (.tmp 87) (.tmp 83) rfl g (i*15+3) cur 197 [.int .i64 r0,r1,r2,r3,r4,r5,r6,r7] CB.out (by show i*15+3+8<=_;omega) rfl rfl AQ U17 ?_;intro w4 b4 k4))
  go_end0
  exact⟨rfl,_,P3.out.Qx i ⟨xk,xn,pc,⟨r0,r1,r2,r3,r4,r5,r6,r7⟩,xt⟩ (by simp[HI.o]) cur CB.out b4 k4⟩
end
end
end Go.Proofs.YteiignfflbmafaaGreat.Tp
