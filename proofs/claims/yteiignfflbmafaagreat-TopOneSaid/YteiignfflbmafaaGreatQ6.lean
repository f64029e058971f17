/- TopOne, part 6. -/
import Derived.Test.YteiignfflbmafaaGreatQ5
import Derived.Laws.AppendOwn
import Derived.Deep.AppendLies
import Derived.Deep.RegionLaw
import Derived.Deep.WholeRow
set_option linter.unusedVariables false
set_option linter.unusedSimpArgs false
set_option maxRecDepth 100000
set_option maxHeartbeats 8000000
namespace Go.Proofs.YteiignfflbmafaaGreat.Tp
open Go.Proofs.Tryz
open Go.RowKit Go.Proofs.YteiignfflbmafaaGreat.Tok
structure Fr where
 kind:Int
 fn:Int
 pc:Int
 rg:Sp.Rg
 Sg:Int
 az:Bool
 due:Bool
 index:Nat
 Sc:Int
 fold:Int
 R9:Nat
 ae:Int
def Fr.cells(f:Fr):List Value:=[.int .i64 f.kind,f.fn,f.pc,f.rg.r0,f.rg.r1,f.rg.r2,f.rg.r3,f.rg.r4,f.rg.r5,f.rg.r6,f.rg.r7,f.Sg,.bool f.az,.bool f.due,f.index,f.Sc,f.fold,f.R9,f.ae]
def ax:Sp.Rg:=⟨0,0,0,0,0,0,0,0⟩
def aM:Fr:=⟨0,0,0,ax,0,false,false,0,0,0,0,0⟩
structure Ev where
 kind:Int
 loop:Int
 iter:Int
 Sc:Int
def Ev.cells(e:Ev):List Value:=[.int .i64 e.kind,e.loop,e.iter,e.Sc]
structure Is where
 op:Int
 a:Int
 b:Int
 c:Int
def Is.cells(e:Is):List Value:=[.int .i64 e.op,e.a,e.b,e.c]
def rows{α:Type}(f:α->List Value)(l:List α):Array Value:=(l.flatMap f).toArray
theorem flat_get{α β:Type}(f:α->List β)(n:Nat)(hf:∀x,(f x).length=n):∀(l:List α)(i j:Nat)(hi:i<l.length),j<n->(l.flatMap f)[n*i+j]? =(f l[i])[j]?
 |x::l,0,j,_,hj=>by
  simp only[List.flatMap_cons,Nat.mul_zero,Nat.zero_add,List.getElem_cons_zero];rw[List.getElem?_append_left (by rw[hf];exact hj)]
 |x::l,i+1,j,hi,hj=>by
  simp only[List.flatMap_cons,List.getElem_cons_succ];have e:n*(i+1)+j=n+(n*i+j):=by rw[Nat.mul_add];omega
  rw[e,List.getElem?_append_right (by rw[hf];omega),hf,Nat.add_sub_cancel_left]
  exact flat_get f n hf l i j U82 hj
theorem gQ{α β:Type}(f:α->List β)(n:Nat)(hf:∀x,(f x).length=n):∀(l:List α),(l.flatMap f).length=n*l.length
 |[]=>by simp
 |x::l=>by
  simp only[List.flatMap_cons,List.length_append,hf,List.length_cons];rw[gQ f n hf l,Nat.mul_add];omega
theorem vS{α β:Type}(f:α->List β)(n:Nat)(hf:∀x,(f x).length=n):∀(l:List α)(i j:Nat)(y:α)(v:β),i<l.length->j<n->(∀x,l[i]? =some x->f y=(f x).set j v)->(l.flatMap f).set (n*i+j) v=(l.set i y).flatMap f
 |x::l,0,j,y,v,_,hj,h=>by
  simp only[List.flatMap_cons,Nat.mul_zero,Nat.zero_add,List.set_cons_zero];rw[h x rfl,List.set_append_left _ _ (by rw[hf];exact hj)]
 |x::l,i+1,j,y,v,hi,hj,h=>by
  simp only[List.flatMap_cons,List.set_cons_succ];have e:n*(i+1)+j=n+(n*i+j):=by rw[Nat.mul_add];omega
  rw[e,List.set_append_right _ _ (by rw[hf];omega),hf,Nat.add_sub_cancel_left];rw[vS f n hf l i j y v U82 hj (λx hx=>h x (by simpa using hx))]
theorem wM{α:Type}(f:α->List Value)(n:Nat)(hf:∀x,(f x).length=n)(l:List α)(i j:Nat)(hi:i<l.length)(hj:j<n):(rows f l)[n*i+j]? =(f l[i])[j]? :=by
 unfold rows;rw[List.getElem?_toArray]
 exact flat_get f n hf l i j hi hj
theorem Gx{α:Type}(f:α->List Value)(n:Nat)(hf:∀x,(f x).length=n)(l:List α)(i j:Nat)(y:α)(v:Value)(hi:i<l.length)(hj:j<n)(h:∀x,l[i]? =some x->f y=(f x).set j v):
  (rows f l).setIfInBounds (n*i+j) v=rows f (l.set i y):=by
 unfold rows;rw[List.setIfInBounds_toArray,vS f n hf l i j y v hi hj h]
def bools(L:List Bool):Array Value:=(L.map Value.bool).toArray
theorem kL(L:List Bool)(j:Nat)(hj:j<L.length):(bools L)[j]? =some (.bool (L.getD j false)):=by
 simp[bools,List.getD,hj]
theorem sF(L:List Bool)(j:Nat)(v:Bool):(bools L).setIfInBounds j (.bool v)=bools (L.set j v):=by
 simp[bools,List.map_set]
structure St where
 steps:Int
 probes:Int
 bD:Int
 lh:Int
 dx:Int
 folds:Int
 bY:Int
structure Co where
 pl:Pl
 aj:Int
 fold:Bool
 lazy:Bool
 code:List (List Is)
 RY:List Int
 data:List Int
 Sj:List Bool
 back:List Nat
 fresh:Nat
 bY:Int
 aJ:List Fr
 out:List Int
 most:Int
 log:List Ev
 st:St
 ae:Int
 status:Int
 why:Int
structure Ly where
 c:Nat
 ws:Nat
 wd:Nat
 ds:Nat
 dd:Nat
 t:Nat
 fr:Nat
 a:Nat
 hl:Nat
 bk:Value
 o:Nat
 ov:Value
 g:Nat
 gv:Value
 cv:Value
 cb:List Nat
def gN(y:Ly)(m:Co):Array Value:= #[y.cv,m.pl.wk,m.pl.th,m.pl.fr,m.pl.dq,m.aj,.bool m.fold,.bool m.lazy,
 .pointer (some ⟨y.ws,0,none⟩),.pointer (some ⟨y.ds,0,none⟩),.pointer (some ⟨y.t,0,none⟩),.pointer (some ⟨y.o,0,none⟩),.pointer (some ⟨y.g,0,none⟩),
 .int .i64 m.st.steps,m.st.probes,m.st.bD,m.st.lh,m.st.dx,m.st.folds,m.st.bY,m.ae,m.status,m.why]
def Own{α:Type}(w:World)(e:TypeId)(n:Nat)(f:α->List Value)(v:Value)(l:List α):Prop:=w.ownsRow 0 e n v l.length (l.flatMap f)
def dB(n:Int):List Value:=[.int .i64 n]
def wD(n:Nat):List Value:=[.int .i64 n]
theorem Own.kept{α:Type}{S:Nat->Prop}{w w':World}{e:TypeId}{n:Nat}{f:α->List Value}{v:Value}{l:List α}(h:Own w e n f v l)(k:Kept S w w')(hs:∀b,v.ownBlock=some b->¬S b):Own w' e n f v l:=by
 obtain⟨h1,h2⟩:=h;refine⟨h1,?_⟩
 rcases h2 with h2|⟨g,cap,cur,rfl,hb,hg,r⟩
 ·exact .inl h2
 ·exact .inr ⟨g,cap,cur,rfl,hb,(k.block g (lt_of_block hg) (hs g rfl)).trans hg,r⟩
theorem Own.type{α:Type}{w:World}{e:TypeId}{n:Nat}{f:α->List Value}{v:Value}{l:List α}(h:Own w e n f v l){b:Nat}(hb:v.ownBlock=some b):∃cs,af w b cs e:=by
 obtain⟨h1,⟨rfl,_⟩|⟨g,cap,cur,rfl,_,hg,r⟩⟩:=h
 ·cases hb
 ·cases hb;exact⟨cur,hg⟩
def pM(w:World)(cb:List Nat)(v:Value)(code:List (List Is)):Prop:=
 ∃A cap,v=.slice A code.length cap/\∀fn (hf:fn<code.length),∃a0 B cap',A=some ⟨a0,0,none⟩/\a0∈cb/\w.cell? ⟨a0,fn,none⟩=some (.slice B code[fn].length cap')/\
  ∀pc (hp:pc<code[fn].length),∃b0,B=some ⟨b0,0,none⟩/\b0∈cb/\∀j,j<4->w.cell? ⟨b0,4*pc+j,none⟩=code[fn][pc].cells[j]?
theorem pM.kept{S:Nat->Prop}{w w':World}{cb:List Nat}{v:Value}{code:List (List Is)}(h:pM w cb v code)(k:Kept S w w')(hs:∀b∈cb,¬S b):pM w' cb v code:=by
 obtain⟨A,cap,e,h⟩:=h;refine⟨A,cap,e,λfn hf=>?_⟩;obtain⟨a0,B,cap',e1,m1,c1,h1⟩:=h fn hf;refine⟨a0,B,cap',e1,m1,(World.cell?_of_block (w:=w) (k.block a0 (bL w _ c1) (hs a0 m1))).trans c1,λpc hp=>?_⟩;obtain⟨b0,e2,m2,c2⟩:=h1 pc hp;refine⟨b0,e2,m2,λj hj=>?_⟩;have q:w.cell? ⟨b0,4*pc+j,none⟩≠none:=by
  rw[c2 j hj]
  match j,hj with
  |0,_=>simp[Is.cells]
  |1,_=>simp[Is.cells]
  |2,_=>simp[Is.cells]
  |3,_=>simp[Is.cells]
 obtain⟨u,hu⟩:=Option.ne_none_iff_exists'.1 q
 exact(World.cell?_of_block (w:=w) (k.block b0 (bL w _ hu) (hs b0 m2))).trans (c2 j hj)
structure bI(w:World)(y:Ly)(m:Co):Prop where
 core:af w y.c (gN y m) 135
 RY:aD w y.ws y.wd m.RY
 data:aD w y.ds y.dd m.data
 table:af w y.t #[m.pl.wk,m.pl.fr,m.pl.th,m.pl.dq,.pointer (some ⟨y.ws,0,none⟩),.pointer (some ⟨y.a,0,none⟩),.slice (some ⟨y.fr,0,none⟩) m.aJ.length m.aJ.length] 145
 frames:af w y.fr (rows Fr.cells m.aJ) 176
 arena:af w y.a #[.slice (some ⟨y.hl,0,none⟩) m.Sj.length m.Sj.length,y.bk,m.fresh,m.bY] 184
 Sj:af w y.hl (bools m.Sj) 4
 back:Own w 3 1 wD y.bk m.back
 sink:af w y.o #[y.ov,m.most] 138
 out:Own w 3 1 dB y.ov m.out
 log:af w y.g #[y.gv] 186
 evs:Own w 52 4 Ev.cells y.gv m.log
 wE:y.ws≠y.ds
 jL:y.wd≠y.dd
 uE:y.bk.ownBlock≠some y.wd
 rM:y.bk.ownBlock≠some y.dd
 now:y.ov.ownBlock≠some y.wd
 uG:y.ov.ownBlock≠some y.dd
 uF:∀k,y.ov.ownBlock=some k->y.bk.ownBlock≠some k
 hlen:m.Sj.length=m.aJ.length
 bU:(m.RY.length:Int)=m.pl.size
 bQ:m.pl.ok
 eZ:m.aJ.length<=1001
 code:pM w y.cb y.cv m.code
 nE:∀b∈y.cb,∃cs t,af w b cs t/\(t= 107 ∨t= 109)
def Ly.has(y:Ly)(b:Nat):Prop:=b=y.c∨b=y.ws∨b=y.wd∨b=y.ds∨b=y.dd∨b=y.t∨b=y.fr∨b=y.a∨b=y.hl∨y.bk.ownBlock=some b∨b=y.o∨y.ov.ownBlock=some b∨b=y.g∨y.gv.ownBlock=some b∨b∈y.cb
theorem bI.kept{S:Nat->Prop}{w w':World}{y:Ly}{m:Co}(h:bI w y m)(k:Kept S w w')(hs:∀b,y.has b->¬S b):bI w' y m where
 core:=k.blk h.core (hs _ U11)
 RY:=h.RY.kept k (hs _ U11) (hs _ U11)
 data:=h.data.kept k (hs _ U11) (hs _ U11)
 table:=k.blk h.table (hs _ U11)
 frames:=k.blk h.frames (hs _ U11)
 arena:=k.blk h.arena (hs _ U11)
 Sj:=k.blk h.Sj (hs _ U11)
 back:=h.back.kept k (λb e=>hs _ U20)
 sink:=k.blk h.sink (hs _ U11)
 out:=h.out.kept k (λb e=>hs _ U20)
 log:=k.blk h.log (hs _ U11)
 evs:=h.evs.kept k (λb e=>hs _ U20)
 wE:=h.wE
 jL:=h.jL
 uE:=h.uE
 rM:=h.rM
 now:=h.now
 uG:=h.uG
 uF:=h.uF
 hlen:=h.hlen
 bU:=h.bU
 bQ:=h.bQ
 eZ:=h.eZ
 code:=h.code.kept k (λb e=>hs _ U20)
 nE:=λb e=>by obtain⟨cs,t,h1,h2⟩:=h.nE b e;exact⟨cs,t,k.blk h1 (hs _ U20),h2⟩
theorem bI.ai{w w':World}{y:Ly}{m:Co}(h:bI w y m)(k:Below w.heap.size w w'):bI w' y m:=h.kept (Kept.ob (S:=None) k) (λ_ _ z=>z)
theorem Bw(w:World)(y:Ly)(m:Co)(hb:af w y.c (gN y m) 135):
  Cs 93 #[.pointer (some ⟨y.c,0,none⟩)] w (.pointer (some ⟨y.ws,0,none⟩)) λw'=>w=w':=by
 have h0:w.cell? ⟨y.c,8,none⟩=some (.pointer (some ⟨y.ws,0,none⟩)):=hb.cell 8;clear hb;generalize y.c=q at*;go_enter func93,ntmps93;go_wp2_with fail
 go_ret
 exact⟨rfl,rfl⟩
theorem jS(w:World)(y:Ly)(m:Co)(hb:af w y.c (gN y m) 135):
  Cs 31 #[.pointer (some ⟨y.c,0,none⟩)] w (.pointer (some ⟨y.ds,0,none⟩)) λw'=>w=w':=by
 have h0:w.cell? ⟨y.c,9,none⟩=some (.pointer (some ⟨y.ds,0,none⟩)):=hb.cell 9;clear hb;generalize y.c=q at*;go_enter func31,ntmps31;go_wp2_with fail
 go_ret
 exact⟨rfl,rfl⟩
theorem pX(w:World)(y:Ly)(m:Co)(hb:af w y.c (gN y m) 135):
  Cs 34 #[.pointer (some ⟨y.c,0,none⟩)] w (.pointer (some ⟨y.t,0,none⟩)) λw'=>w=w':=by
 have h0:w.cell? ⟨y.c,10,none⟩=some (.pointer (some ⟨y.t,0,none⟩)):=hb.cell 10;clear hb;generalize y.c=q at*;go_enter func34,ntmps34;go_wp2_with fail
 go_ret
 exact⟨rfl,rfl⟩
theorem JF(w:World)(y:Ly)(m:Co)(hb:af w y.c (gN y m) 135):
  Cs 29 #[.pointer (some ⟨y.c,0,none⟩)] w (.pointer (some ⟨y.o,0,none⟩)) λw'=>w=w':=by
 have h0:w.cell? ⟨y.c,11,none⟩=some (.pointer (some ⟨y.o,0,none⟩)):=hb.cell 11;clear hb;generalize y.c=q at*;go_enter func29,ntmps29;go_wp2_with fail
 go_ret
 exact⟨rfl,rfl⟩
theorem JA(w:World)(y:Ly)(m:Co)(hb:af w y.c (gN y m) 135):
  Cs 38 #[.pointer (some ⟨y.c,0,none⟩)] w (.pointer (some ⟨y.g,0,none⟩)) λw'=>w=w':=by
 have h0:w.cell? ⟨y.c,12,none⟩=some (.pointer (some ⟨y.g,0,none⟩)):=hb.cell 12;clear hb;generalize y.c=q at*;go_enter func38,ntmps38;go_wp2_with fail
 go_ret
 exact⟨rfl,rfl⟩
theorem Bv(w:World)(q:Nat):
  Cs 33 #[.pointer (some ⟨q,0,none⟩)] w (.pointer (some ⟨q,13,none⟩)) λw'=>w=w':=by
 go_enter func33,ntmps33;go_wp2_with fail
 go_ret
 exact⟨rfl,rfl⟩
theorem xS(w:World)(y:Ly)(m:Co)(hb:af w y.c (gN y m) 135):
  Cs 28 #[.pointer (some ⟨y.c,0,none⟩)] w (.tuple #[m.status,m.why]) λw'=>Below w.heap.size w w':=by
 have h0:w.cell? ⟨y.c,21,none⟩=some ↑m.status:=hb.cell 21;have h1:w.cell? ⟨y.c,22,none⟩=some ↑m.why:=hb.cell 22;clear hb;generalize y.c=q at*;generalize m.status=a at*;generalize m.why=b at*;go_enter func28,ntmps28;go_upto_region 3 with fail
 go_quiet (fail)
 go_wp2_with fail
 go_ret2
 exact⟨rfl,below_drewN (Below.refl _ _) _⟩
def Co.gU(m:Co):Value:=.agg #[m.pl.wk,m.pl.th,m.pl.fr,m.pl.dq,m.aj,.bool m.fold,.bool m.lazy]
def Pl.v(p:Pl):Value:=.agg #[p.wk,p.fr,p.th,p.dq]
theorem qj(w:World)(y:Ly)(m:Co)(hb:af w y.c (gN y m) 135):
  Cs 89 #[.pointer (some ⟨y.c,0,none⟩)] w m.gU λw'=>Below w.heap.size w w':=by
 have l0:=hb.lt;have h1:w.cell? ⟨y.c,1,none⟩=some ↑m.pl.wk:=hb.cell 1;have h2:w.cell? ⟨y.c,2,none⟩=some ↑m.pl.th:=hb.cell 2;have h3:w.cell? ⟨y.c,3,none⟩=some ↑m.pl.fr:=hb.cell 3;have h4:w.cell? ⟨y.c,4,none⟩=some ↑m.pl.dq:=hb.cell 4;have h5:w.cell? ⟨y.c,5,none⟩=some ↑m.aj:=hb.cell 5;have h6:w.cell? ⟨y.c,6,none⟩=some (.bool m.fold):=hb.cell 6;have h7:w.cell? ⟨y.c,7,none⟩=some (.bool m.lazy):=hb.cell 7;clear hb;unfold Co.gU;generalize y.c=q at*;generalize m.pl.wk=a1 at*;generalize m.pl.th=a2 at*;generalize m.pl.fr=a3 at*;generalize m.pl.dq=a4 at*;generalize m.aj=a5 at*;generalize m.fold=a6 at*;generalize m.lazy=a7 at*;go_enter func89,ntmps89;go_wp2_with fail
 exact bodyPost_ret (v:=.agg #[a1,a2,a3,a4,a5,.bool a6,.bool a7]) (by simp[results,results89,go_sem]) rfl ⟨rfl,U1⟩
theorem nG(a1 a2 a3 a4 a5:Int)(a6 a7:Bool)(w:World):
  Cs 79 #[.agg #[a1,a2,a3,a4,a5,.bool a6,.bool a7]] w (.agg #[a1,a3,a2,a4]) λw'=>Below w.heap.size w w':=by
 go_enter func79,ntmps79;go_wp2_with fail
 exact bodyPost_ret (v:=.agg #[a1,a3,a2,a4]) (by simp[results,results79,go_sem]) rfl ⟨rfl,U1⟩
theorem vz(w:World)(y:Ly)(m:Co)(hb:af w y.c (gN y m) 135):
  Cs 91 #[.pointer (some ⟨y.c,0,none⟩)] w m.pl.v λw'=>Below w.heap.size w w':=by
 have c1:=Hd (λw h=>qj w y m h);have c2:=Hd (λw=>nG m.pl.wk m.pl.th m.pl.fr m.pl.dq m.aj m.fold m.lazy w);have Sr:=hb.alloc (.cells #[(0:Int),(0:Int),(0:Int),(0:Int)] 89);have g1:=af.new w #[(0:Int),(0:Int),(0:Int),(0:Int)] 89 _ rfl;have bw:Below w.heap.size w (w.alloc (.cells #[(0:Int),(0:Int),(0:Int),(0:Int)] 89)):=Ba _;clear hb;unfold Pl.v;unfold Co.gU at c1;generalize y.c=q at*;generalize m.pl.wk=a1 at*;generalize m.pl.th=a2 at*;generalize m.pl.fr=a3 at*;generalize m.pl.dq=a4 at*;generalize m.aj=a5 at*;generalize m.fold=a6 at*;generalize m.lazy=a7 at*;go_enter func91,ntmps91;go_upto_region 1 with fail;generalize w.alloc (.cells #[(0:Int),(0:Int),(0:Int),(0:Int)] 89)=W at*;generalize hg:w.heap.size=g at*
 go_wp2_with (first|(go_at_call 89;refine(c1.o _ Sr).q λw1 k1=> ?_;have g2:=g1.below k1 g1.lt)|(go_at_call 79;refine(c2.o _).q λw2 k2=> ?_;have g3:=g2.below k2 g2.lt;have y0:=g3.cell 0;have y1:=g3.cell 1;have y2:=g3.cell 2;have y3:=g3.cell 3;have z3:=g3.fz))
 have B2:Below g w w2:=(bw.trans (k1.mono U72)).trans (k2.mono (nT U72 k1.size))
 exact bodyPost_ret (v:=.agg #[a1,a3,a2,a4]) (by simp[results,results91,go_sem,y0,y1,y2,y3,z3]) rfl ⟨rfl,by rw[hg];exact(((B2.setCell (p:=⟨g,0,none⟩) nr _).setCell (p:=⟨g,1,none⟩) nr _).setCell (p:=⟨g,2,none⟩) nr _).setCell (p:=⟨g,3,none⟩) nr _⟩
theorem Own.ne{α:Type}{w:World}{e:TypeId}{n:Nat}{f:α->List Value}{v:Value}{l:List α}(h:Own w e n f v l){b:Nat}{cs:Array Value}{t:TypeId}(hb:af w b cs t)(ht:e≠t):v.ownBlock≠some b:=λz=>by
 obtain⟨cs',h'⟩:=h.type z
 exact ht (h'.type hb)
theorem bI.Ic{S:Nat->Prop}{w w':World}{y:Ly}{m:Co}(h:bI w y m)(k:Kept S w w')(hs:∀k,S k->k=y.c∨¬y.has k)(st:St)(sr s1 s2:Int)(hc:af w' y.c (gN y {m with st:=st,ae:=sr,status:=s1,why:=s2}) 135):bI w' y {m with st:=st,ae:=sr,status:=s1,why:=s2} where
 core:=hc
 RY:=h.RY.kept k (h.RY.fs.elim λ_ q0=>(λz=>(hs _ z).elim (q0.ne h.core U0) (λq=>q U11))) (λz=>(hs _ z).elim (h.RY.ws.ne h.core U0) (λq=>q U11))
 data:=h.data.kept k (h.data.fs.elim λ_ q0=>(λz=>(hs _ z).elim (q0.ne h.core U0) (λq=>q U11))) (λz=>(hs _ z).elim (h.data.ws.ne h.core U0) (λq=>q U11))
 table:=k.blk h.table (λz=>(hs _ z).elim (h.table.ne h.core U0) (λq=>q U11))
 frames:=k.blk h.frames (λz=>(hs _ z).elim (h.frames.ne h.core U0) (λq=>q U11))
 arena:=k.blk h.arena (λz=>(hs _ z).elim (h.arena.ne h.core U0) (λq=>q U11))
 Sj:=k.blk h.Sj (λz=>(hs _ z).elim (h.Sj.ne h.core U0) (λq=>q U11))
 sink:=k.blk h.sink (λz=>(hs _ z).elim (h.sink.ne h.core U0) (λq=>q U11))
 log:=k.blk h.log (λz=>(hs _ z).elim (h.log.ne h.core U0) (λq=>q U11))
 back:=h.back.kept k (λb e z=>(hs _ z).elim (λe2=>h.back.ne h.core U0 (e2▸e)) (λq=>q U20))
 out:=h.out.kept k (λb e z=>(hs _ z).elim (λe2=>h.out.ne h.core U0 (e2▸e)) (λq=>q U20))
 evs:=h.evs.kept k (λb e z=>(hs _ z).elim (λe2=>h.evs.ne h.core U0 (e2▸e)) (λq=>q U20))
 code:=h.code.kept k (λb e z=>(hs _ z).elim (λe2=>by obtain⟨cs,t,h1,h2⟩:=h.nE b e;exact h1.ne h.core U14 e2) (λq=>q U20))
 nE:=λb e=>by obtain⟨cs,t,h1,h2⟩:=h.nE b e;exact⟨cs,t,k.blk h1 (λz=>(hs _ z).elim (h1.ne h.core U14) (λq=>q U20)),h2⟩
 wE:=h.wE
 jL:=h.jL
 uE:=h.uE
 rM:=h.rM
 now:=h.now
 uG:=h.uG
 uF:=h.uF
 hlen:=h.hlen
 bU:=h.bU
 bQ:=h.bQ
 eZ:=h.eZ
theorem bI.aC{S:Nat->Prop}{w w':World}{y:Ly}{m:Co}(h:bI w y m)(k:Kept S w w')(hs:∀k,S k->k=y.wd∨¬y.has k)(L:List Int)(hS:aD w' y.ws y.wd L)(hL:L.length=m.RY.length):bI w' y {m with RY:=L} where
 core:=k.blk h.core (λz=>(hs _ z).elim (h.core.ne h.RY.ws U0) (λq=>q U11))
 RY:=hS
 data:=h.data.kept k (h.data.fs.elim λ_ q0=>(λz=>(hs _ z).elim (q0.ne h.RY.ws U0) (λq=>q U11))) (λz=>(hs _ z).elim (λz=>h.jL z.symm) (λq=>q U11))
 table:=k.blk h.table (λz=>(hs _ z).elim (h.table.ne h.RY.ws U0) (λq=>q U11))
 frames:=k.blk h.frames (λz=>(hs _ z).elim (h.frames.ne h.RY.ws U0) (λq=>q U11))
 arena:=k.blk h.arena (λz=>(hs _ z).elim (h.arena.ne h.RY.ws U0) (λq=>q U11))
 Sj:=k.blk h.Sj (λz=>(hs _ z).elim (h.Sj.ne h.RY.ws U0) (λq=>q U11))
 sink:=k.blk h.sink (λz=>(hs _ z).elim (h.sink.ne h.RY.ws U0) (λq=>q U11))
 log:=k.blk h.log (λz=>(hs _ z).elim (h.log.ne h.RY.ws U0) (λq=>q U11))
 back:=h.back.kept k (λb e z=>(hs _ z).elim (λe2=>h.uE (e2▸e)) (λq=>q U20))
 out:=h.out.kept k (λb e z=>(hs _ z).elim (λe2=>h.now (e2▸e)) (λq=>q U20))
 evs:=h.evs.kept k (λb e z=>(hs _ z).elim (λe2=>h.evs.ne h.RY.ws U0 (e2▸e)) (λq=>q U20))
 code:=h.code.kept k (λb e z=>(hs _ z).elim (λe2=>by obtain⟨cs,t,h1,h2⟩:=h.nE b e;exact h1.ne h.RY.ws U14 e2) (λq=>q U20))
 nE:=λb e=>by obtain⟨cs,t,h1,h2⟩:=h.nE b e;exact⟨cs,t,k.blk h1 (λz=>(hs _ z).elim (h1.ne h.RY.ws U14) (λq=>q U20)),h2⟩
 wE:=h.wE
 jL:=h.jL
 uE:=h.uE
 rM:=h.rM
 now:=h.now
 uG:=h.uG
 uF:=h.uF
 hlen:=h.hlen
 bU:=by rw[hL];exact h.bU
 bQ:=h.bQ
 eZ:=h.eZ
theorem bI.qX{S:Nat->Prop}{w w':World}{y:Ly}{m:Co}(h:bI w y m)(k:Kept S w w')(hs:∀k,S k->k=y.dd∨¬y.has k)(L:List Int)(hS:aD w' y.ds y.dd L):bI w' y {m with data:=L} where
 core:=k.blk h.core (λz=>(hs _ z).elim (h.core.ne h.data.ws U0) (λq=>q U11))
 RY:=h.RY.kept k (h.RY.fs.elim λ_ q0=>(λz=>(hs _ z).elim (q0.ne h.data.ws U0) (λq=>q U11))) (λz=>(hs _ z).elim (h.jL) (λq=>q U11))
 data:=hS
 table:=k.blk h.table (λz=>(hs _ z).elim (h.table.ne h.data.ws U0) (λq=>q U11))
 frames:=k.blk h.frames (λz=>(hs _ z).elim (h.frames.ne h.data.ws U0) (λq=>q U11))
 arena:=k.blk h.arena (λz=>(hs _ z).elim (h.arena.ne h.data.ws U0) (λq=>q U11))
 Sj:=k.blk h.Sj (λz=>(hs _ z).elim (h.Sj.ne h.data.ws U0) (λq=>q U11))
 sink:=k.blk h.sink (λz=>(hs _ z).elim (h.sink.ne h.data.ws U0) (λq=>q U11))
 log:=k.blk h.log (λz=>(hs _ z).elim (h.log.ne h.data.ws U0) (λq=>q U11))
 back:=h.back.kept k (λb e z=>(hs _ z).elim (λe2=>h.rM (e2▸e)) (λq=>q U20))
 out:=h.out.kept k (λb e z=>(hs _ z).elim (λe2=>h.uG (e2▸e)) (λq=>q U20))
 evs:=h.evs.kept k (λb e z=>(hs _ z).elim (λe2=>h.evs.ne h.data.ws U0 (e2▸e)) (λq=>q U20))
 code:=h.code.kept k (λb e z=>(hs _ z).elim (λe2=>by obtain⟨cs,t,h1,h2⟩:=h.nE b e;exact h1.ne h.data.ws U14 e2) (λq=>q U20))
 nE:=λb e=>by obtain⟨cs,t,h1,h2⟩:=h.nE b e;exact⟨cs,t,k.blk h1 (λz=>(hs _ z).elim (h1.ne h.data.ws U14) (λq=>q U20)),h2⟩
 wE:=h.wE
 jL:=h.jL
 uE:=h.uE
 rM:=h.rM
 now:=h.now
 uG:=h.uG
 uF:=h.uF
 hlen:=h.hlen
 bU:=h.bU
 bQ:=h.bQ
 eZ:=h.eZ
theorem bI.qY{S:Nat->Prop}{w w':World}{y:Ly}{m:Co}(h:bI w y m)(k:Kept S w w')(hs:∀k,S k->k=y.fr∨¬y.has k)(L:List Fr)(hL:L.length=m.aJ.length)(hS:af w' y.fr (rows Fr.cells L) 176):bI w' y {m with aJ:=L} where
 core:=k.blk h.core (λz=>(hs _ z).elim (h.core.ne h.frames U0) (λq=>q U11))
 RY:=h.RY.kept k (h.RY.fs.elim λ_ q0=>(λz=>(hs _ z).elim (q0.ne h.frames U0) (λq=>q U11))) (λz=>(hs _ z).elim (h.RY.ws.ne h.frames U0) (λq=>q U11))
 data:=h.data.kept k (h.data.fs.elim λ_ q0=>(λz=>(hs _ z).elim (q0.ne h.frames U0) (λq=>q U11))) (λz=>(hs _ z).elim (h.data.ws.ne h.frames U0) (λq=>q U11))
 table:=by dsimp only;rw[hL];exact k.blk h.table (λz=>(hs _ z).elim (h.table.ne h.frames U0) (λq=>q U11))
 frames:=hS
 arena:=k.blk h.arena (λz=>(hs _ z).elim (h.arena.ne h.frames U0) (λq=>q U11))
 Sj:=k.blk h.Sj (λz=>(hs _ z).elim (h.Sj.ne h.frames U0) (λq=>q U11))
 sink:=k.blk h.sink (λz=>(hs _ z).elim (h.sink.ne h.frames U0) (λq=>q U11))
 log:=k.blk h.log (λz=>(hs _ z).elim (h.log.ne h.frames U0) (λq=>q U11))
 back:=h.back.kept k (λb e z=>(hs _ z).elim (λe2=>h.back.ne h.frames U0 (e2▸e)) (λq=>q U20))
 out:=h.out.kept k (λb e z=>(hs _ z).elim (λe2=>h.out.ne h.frames U0 (e2▸e)) (λq=>q U20))
 evs:=h.evs.kept k (λb e z=>(hs _ z).elim (λe2=>h.evs.ne h.frames U0 (e2▸e)) (λq=>q U20))
 code:=h.code.kept k (λb e z=>(hs _ z).elim (λe2=>by obtain⟨cs,t,h1,h2⟩:=h.nE b e;exact h1.ne h.frames U14 e2) (λq=>q U20))
 nE:=λb e=>by obtain⟨cs,t,h1,h2⟩:=h.nE b e;exact⟨cs,t,k.blk h1 (λz=>(hs _ z).elim (h1.ne h.frames U14) (λq=>q U20)),h2⟩
 wE:=h.wE
 jL:=h.jL
 uE:=h.uE
 rM:=h.rM
 now:=h.now
 uG:=h.uG
 uF:=h.uF
 hlen:=h.hlen.trans hL.symm
 bU:=h.bU
 bQ:=h.bQ
 eZ:=by dsimp only;rw[hL];exact h.eZ
theorem bI.lt{w:World}{y:Ly}{m:Co}(h:bI w y m){b:Nat}(hb:y.has b):b<w.heap.size:=by
 rcases hb with rfl|rfl|rfl|rfl|rfl|rfl|rfl|rfl|rfl|e|rfl|e|rfl|e|e
 ·exact h.core.lt
 ·exact h.RY.fs.elim λ_ q=>q.lt
 ·exact h.RY.ws.lt
 ·exact h.data.fs.elim λ_ q=>q.lt
 ·exact h.data.ws.lt
 ·exact h.table.lt
 ·exact h.frames.lt
 ·exact h.arena.lt
 ·exact h.Sj.lt
 ·exact(h.back.type e).elim λ_ q=>q.lt
 ·exact h.sink.lt
 ·exact(h.out.type e).elim λ_ q=>q.lt
 ·exact h.log.lt
 ·exact(h.evs.type e).elim λ_ q=>q.lt
 ·obtain⟨cs,t,h1,_⟩:=h.nE b e
  exact h1.lt
theorem bI.frame{w:World}{y:Ly}{m:Co}(h:bI w y m)(i:Nat)(hi:i<m.aJ.length)(j:Nat)(hj:j<19):w.cell? ⟨y.fr,19*i+j,none⟩=(m.aJ[i].cells)[j]? :=
 (h.frames.cell _).trans (wM Fr.cells 19 (λ_=>rfl) m.aJ i j hi hj)
theorem bI.aF{w:World}{y:Ly}{m:Co}(h:bI w y m)(i:Nat)(hi:i<m.aJ.length)(j:Nat)(hj:j<19)(v:Value)(f:Fr)(e:f.cells=(m.aJ[i].cells).set j v):bI (w.setCell ⟨y.fr,19*i+j,none⟩ v) y {m with aJ:=m.aJ.set i f}:=
 h.qY (S:=One y.fr) (Kept.one _ _ _ _) (λk z=>Or.inl z) _ U8 (by
  rw[<-Gx Fr.cells 19 (λ_=>rfl) m.aJ i j f v hi hj (λx hx=>by
   have q:m.aJ[i]? =some m.aJ[i]:=by simp[hi]
   rw[q]at hx
   cases hx
   exact e)]
  exact h.frames.set _ v)
theorem bI.fB{w:World}{y:Ly}{m:Co}(h:bI w y m)(i:Nat)(v:Value)(st:St)(sr s1 s2:Int)(e:gN y {m with st:=st,ae:=sr,status:=s1,why:=s2}=(gN y m).setIfInBounds i v):bI (w.setCell ⟨y.c,i,none⟩ v) y {m with st:=st,ae:=sr,status:=s1,why:=s2}:=
 h.Ic (S:=One y.c) (Kept.one _ _ _ _) (λk z=>Or.inl z) _ _ _ _ (by rw[e];exact h.core.set i v)
theorem xR(w:World)(y:Ly)(m:Co)(h:bI w y m):
  Cs 267 #[.pointer (some ⟨y.c,0,none⟩)] w (.int .i64 (wrap64 (m.ae+1))) λw'=>bI w' y {m with ae:=wrap64 (m.ae+1)}/\Kept (One y.c) w w':=by
 have C:=Hd (h.fB 20 (.int .i64 (wrap64 (m.ae+1))) m.st (wrap64 (m.ae+1)) m.status m.why rfl);have x:w.cell? ⟨y.c,20,none⟩=some ↑m.ae:=h.core.cell 20;have z:=h.core.fz;have K:=Kept.one w y.c 20 (.int .i64 (wrap64 (m.ae+1)));generalize hn:wrap64 (m.ae+1)=n at*;clear h;go_enter func267,ntmps267;go_wp2_with fail
 go_ret
 exact⟨rfl,C.out,K⟩
def Co.stop(m:Co)(s y:Int):Co:=if m.status=0 then{m with status:=s,why:=y}else m
theorem Eb(w:World)(y:Ly)(m:Co)(a b:Int)(h:bI w y m):
  Cs 138 #[.pointer (some ⟨y.c,0,none⟩),a,b] w (.tuple #[]) λw'=>bI w' y (m.stop a b)/\Kept (One y.c) w w':=by
 have C:=Hd ((h.fB 21 ↑a m.st m.ae a m.why rfl).fB 22 ↑b m.st m.ae a b rfl);have H:=Hd h;have x:w.cell? ⟨y.c,21,none⟩=some ↑m.status:=h.core.cell 21;have x2:w.cell? ⟨y.c,22,none⟩=some ↑m.why:=h.core.cell 22;have z:=h.core.fz;have K:=(Kept.one w y.c 21 ↑a).set (p:=⟨y.c,22,none⟩) (Or.inl rfl) ↑b;have HM:=Hd (show m.stop a b=if m.status=0 then{m with status:=a,why:=b}else m from rfl);generalize m.stop a b=M at*;clear h
 by_cases hs:m.status=0
 ·rw[if_pos hs]at HM
  go_enter func138,ntmps138;go_wp2_with fail
  go_end0
  exact⟨rfl,HM.o▸C.out,K⟩
 ·rw[if_neg hs]at HM
  have hs2:(m.status==0)=false:=by simp[hs]
  go_enter func138,ntmps138;go_wp2_with fail
  go_end0
  exact⟨rfl,HM.o▸H.o,Kept.refl _ _⟩
theorem Us86 {p:Prop} (h:p:=by
 unfold Own;rw[List.length_append,List.flatMap_append]
 exact hown'):p:=h
theorem fH:(prog.info? 3).map (λi=>(i.zero,i.size,i.bytes))=some (some (.int .i64 0),1,8):=by kernel_rfl
theorem EP:(prog.info? 52).map (λi=>(i.zero,i.size,i.bytes))=some (some (.agg #[(0:Int),(0:Int),(0:Int),(0:Int)]),4,32):=by kernel_rfl
def jM(w:World)(v v':Value):Prop:=v'.ownBlock=v.ownBlock∨∃g,v'.ownBlock=some g/\w.heap.size<=g
theorem jM.ne{w:World}{v v':Value}(h:jM w v v'){b:Nat}(hb:b<w.heap.size)(hn:v.ownBlock≠some b):v'.ownBlock≠some b:=by
 rcases h with e|⟨g,e,hg⟩
 ·rw[e];exact hn
 ·rw[e];intro z;cases z;omega
theorem bI.Lm{S:Nat->Prop}{w w':World}{y:Ly}{m:Co}(h:bI w y m)(k:Kept S w w')(hs:∀k,S k->k=y.o∨y.ov.ownBlock=some k∨¬y.has k)(v:Value)(L:List Int)(hb:af w' y.o #[v,m.most] 138)(ho:Own w' 3 1 dB v L)(hv:jM w y.ov v):bI w' {y with ov:=v} {m with out:=L} where
 core:=k.blk h.core (λz=>(hs _ z).elim (h.core.ne h.sink U0) (λz2=>z2.elim (λe2=>h.out.ne h.core U0 e2) (λq=>q U11)))
 RY:=h.RY.kept k (h.RY.fs.elim λ_ q0=>(λz=>(hs _ z).elim (q0.ne h.sink U0) (λz2=>z2.elim (λe2=>h.out.ne q0 U0 e2) (λq=>q U11)))) (λz=>(hs _ z).elim (h.RY.ws.ne h.sink U0) (λz2=>z2.elim (h.now) (λq=>q U11)))
 data:=h.data.kept k (h.data.fs.elim λ_ q0=>(λz=>(hs _ z).elim (q0.ne h.sink U0) (λz2=>z2.elim (λe2=>h.out.ne q0 U0 e2) (λq=>q U11)))) (λz=>(hs _ z).elim (h.data.ws.ne h.sink U0) (λz2=>z2.elim (h.uG) (λq=>q U11)))
 table:=k.blk h.table (λz=>(hs _ z).elim (h.table.ne h.sink U0) (λz2=>z2.elim (λe2=>h.out.ne h.table U0 e2) (λq=>q U11)))
 frames:=k.blk h.frames (λz=>(hs _ z).elim (h.frames.ne h.sink U0) (λz2=>z2.elim (λe2=>h.out.ne h.frames U0 e2) (λq=>q U11)))
 arena:=k.blk h.arena (λz=>(hs _ z).elim (h.arena.ne h.sink U0) (λz2=>z2.elim (λe2=>h.out.ne h.arena U0 e2) (λq=>q U11)))
 Sj:=k.blk h.Sj (λz=>(hs _ z).elim (h.Sj.ne h.sink U0) (λz2=>z2.elim (λe2=>h.out.ne h.Sj U0 e2) (λq=>q U11)))
 sink:=hb
 log:=k.blk h.log (λz=>(hs _ z).elim (h.log.ne h.sink U0) (λz2=>z2.elim (λe2=>h.out.ne h.log U0 e2) (λq=>q U11)))
 back:=h.back.kept k (λb e z=>(hs _ z).elim (λe2=>h.back.ne h.sink U0 (e2▸e)) (λz2=>z2.elim (λe2=>h.uF _ e2 e) (λq=>q U20)))
 out:=ho
 evs:=h.evs.kept k (λb e z=>(hs _ z).elim (λe2=>h.evs.ne h.sink U0 (e2▸e)) (λz2=>z2.elim (λe2=>(h.evs.type e).elim λ_ q1=>h.out.ne q1 U0 e2) (λq=>q U20)))
 code:=h.code.kept k (λb e z=>by obtain⟨cs,t,h1,h2⟩:=h.nE b e;exact(hs _ z).elim (h1.ne h.sink U14) (λz2=>z2.elim (λe2=>h.out.ne h1 U14 e2) (λq=>q U20)))
 nE:=λb e=>by obtain⟨cs,t,h1,h2⟩:=h.nE b e;exact⟨cs,t,k.blk h1 (λz=>(hs _ z).elim (h1.ne h.sink U14) (λz2=>z2.elim (λe2=>h.out.ne h1 U14 e2) (λq=>q U20))),h2⟩
 wE:=h.wE
 jL:=h.jL
 uE:=h.uE
 rM:=h.rM
 now:=hv.ne (h.lt U11) h.now
 uG:=hv.ne (h.lt U11) h.uG
 uF:=λk e z=>by have z':y.bk.ownBlock=some k:=z;exact hv.ne (h.lt (by simp[Ly.has,z'])) (λe2=>h.uF k e2 z') e
 hlen:=h.hlen
 bU:=h.bU
 bQ:=h.bQ
 eZ:=h.eZ
theorem bI.Ll{S:Nat->Prop}{w w':World}{y:Ly}{m:Co}(h:bI w y m)(k:Kept S w w')(hs:∀k,S k->k=y.g∨y.gv.ownBlock=some k∨¬y.has k)(v:Value)(L:List Ev)(hb:af w' y.g #[v] 186)(ho:Own w' 52 4 Ev.cells v L):bI w' {y with gv:=v} {m with log:=L} where
 core:=k.blk h.core (λz=>(hs _ z).elim (h.core.ne h.log U0) (λz2=>z2.elim (λe2=>h.evs.ne h.core U0 e2) (λq=>q U11)))
 RY:=h.RY.kept k (h.RY.fs.elim λ_ q0=>(λz=>(hs _ z).elim (q0.ne h.log U0) (λz2=>z2.elim (λe2=>h.evs.ne q0 U0 e2) (λq=>q U11)))) (λz=>(hs _ z).elim (h.RY.ws.ne h.log U0) (λz2=>z2.elim (λe2=>h.evs.ne h.RY.ws U0 e2) (λq=>q U11)))
 data:=h.data.kept k (h.data.fs.elim λ_ q0=>(λz=>(hs _ z).elim (q0.ne h.log U0) (λz2=>z2.elim (λe2=>h.evs.ne q0 U0 e2) (λq=>q U11)))) (λz=>(hs _ z).elim (h.data.ws.ne h.log U0) (λz2=>z2.elim (λe2=>h.evs.ne h.data.ws U0 e2) (λq=>q U11)))
 table:=k.blk h.table (λz=>(hs _ z).elim (h.table.ne h.log U0) (λz2=>z2.elim (λe2=>h.evs.ne h.table U0 e2) (λq=>q U11)))
 frames:=k.blk h.frames (λz=>(hs _ z).elim (h.frames.ne h.log U0) (λz2=>z2.elim (λe2=>h.evs.ne h.frames U0 e2) (λq=>q U11)))
 arena:=k.blk h.arena (λz=>(hs _ z).elim (h.arena.ne h.log U0) (λz2=>z2.elim (λe2=>h.evs.ne h.arena U0 e2) (λq=>q U11)))
 Sj:=k.blk h.Sj (λz=>(hs _ z).elim (h.Sj.ne h.log U0) (λz2=>z2.elim (λe2=>h.evs.ne h.Sj U0 e2) (λq=>q U11)))
 sink:=k.blk h.sink (λz=>(hs _ z).elim (h.sink.ne h.log U0) (λz2=>z2.elim (λe2=>h.evs.ne h.sink U0 e2) (λq=>q U11)))
 log:=hb
 back:=h.back.kept k (λb e z=>(hs _ z).elim (λe2=>h.back.ne h.log U0 (e2▸e)) (λz2=>z2.elim (λe2=>(h.back.type e).elim λ_ q1=>h.evs.ne q1 U0 e2) (λq=>q U20)))
 out:=h.out.kept k (λb e z=>(hs _ z).elim (λe2=>h.out.ne h.log U0 (e2▸e)) (λz2=>z2.elim (λe2=>(h.out.type e).elim λ_ q1=>h.evs.ne q1 U0 e2) (λq=>q U20)))
 evs:=ho
 code:=h.code.kept k (λb e z=>by obtain⟨cs,t,h1,h2⟩:=h.nE b e;exact(hs _ z).elim (h1.ne h.log U14) (λz2=>z2.elim (λe2=>h.evs.ne h1 U14 e2) (λq=>q U20)))
 nE:=λb e=>by obtain⟨cs,t,h1,h2⟩:=h.nE b e;exact⟨cs,t,k.blk h1 (λz=>(hs _ z).elim (h1.ne h.log U14) (λz2=>z2.elim (λe2=>h.evs.ne h1 U14 e2) (λq=>q U20))),h2⟩
 wE:=h.wE
 jL:=h.jL
 uE:=h.uE
 rM:=h.rM
 now:=h.now
 uG:=h.uG
 uF:=h.uF
 hlen:=h.hlen
 bU:=h.bU
 bQ:=h.bQ
 eZ:=h.eZ
theorem Own.len{α:Type}{w:World}{e:TypeId}{n:Nat}{f:α->List Value}{v:Value}{l:List α}(h:Own w e n f v l):∃A cap,v=.slice A l.length cap:=by
 obtain⟨_,⟨rfl,h0⟩|⟨g,cap,cur,rfl,_⟩⟩:=h
 ·exact⟨none,0,by rw[h0]⟩
 ·exact⟨_,_,rfl⟩
theorem Kept.grown{w w':World}{v:Value}(h:w.grownBy w' v.ownBlock):Kept (λk=>v.ownBlock=some k) w w':=⟨h.os,h.tape,h.output,h.size,λk hk hn=>h.block k hk (λe=>hn e.symm)⟩
theorem Own.alloc{α:Type}{w:World}{e:TypeId}{n:Nat}{f:α->List Value}{v:Value}{l:List α}(h:Own w e n f v l)(o:Obj):Own (w.alloc o) e n f v l:=h.kept (S:=None) (Kept.ob (Ba o)) (λ_ _ z=>z)
theorem JO(w:World)(y:Ly)(m:Co)(n:Int)(h:bI w y m)(h1:m.out.length<m.most)(hm:m.most<=1000):
  Cs 150 #[.pointer (some ⟨y.o,0,none⟩),n] w (.bool true) λw'=>∃v,bI w' {y with ov:=v} {m with out:=m.out++[n]}/\jM w y.ov v/\Kept (λk=>k=y.o∨y.ov.ownBlock=some k) w w':=by
 obtain⟨i0,hi,hz0,hz1,hz2⟩:=info_parts fH;obtain⟨A,cap,hov⟩:=h.out.len;have x0:w.cell? ⟨y.o,0,none⟩=some (.slice A m.out.length cap):=by rw[<-hov];exact h.sink.cell 0
 have x1:w.cell? ⟨y.o,1,none⟩=some ↑m.most:=h.sink.cell 1;have hc:decide ((m.most:Int)<=(m.out.length:Int))=false:=by simp;omega
 have hown:=h.out;rw[hov]at hown;have l0:=h.sink.lt;have hlen:m.out.length+1<=1000:=by omega
 have e0:∃o,o=m.out:=⟨_,rfl⟩;go_enter func150,ntmps150;go_upto_region 1 with fail
 go_quiet (fail)
 have hd:Kept None w (w.drewN nq):=(Kept.refl _ w).drewN nq;have sk:=hd.blk h.sink (λz=>z);replace hown:=hown.kept hd (λ_ _ z=>z);replace x0:(w.drewN nq).cell? ⟨y.o,0,none⟩=some (.slice A m.out.length cap):=x0;have HW:=Hd (show w.drewN nq=w.drewN nq from rfl);generalize hW:w.drewN nq=W at*;replace HW:=Hd hW;clear hW;have l1:=sk.lt
 go_wp2_with (at_builtin;go_loud (refine wpList_append_lies _ rfl _ _ 25 rfl 0 3 i0 (.int .i64 0) 1 8 underlying25 hi hz0 hz1 hz2 rfl U0 _ _ _ rfl (show World.ownsRow _ 0 3 1 _ m.out.length (m.out.flatMap dB)from hown.alloc _) ⟨W.heap.size,0,none⟩ 1 1 [.int .i64 n] rfl rfl ?c1 ?c2 U2 ?c3 ?c4 (n0 _) _ rfl ?_))
 case c1=>
  intro j u hj
  match j,hj with
  |0,hj=>simp at hj;subst hj;simp[Addr.add,cell_new]
 case c2=>intro u hu;simp at hu;subst hu;rfl
 case c3=>unfold maxLen;omega
 case c4=>omega
 intro g cap' w2 hown' hgrow hg hgl;have KW:Kept (λk=>y.ov.ownBlock=some k) (W.alloc (.cells #[n] 3)) w2:=by rw[hov];exact Kept.grown hgrow
 have no:y.ov.ownBlock≠some y.o:=h.out.ne h.sink U0;have s2:=KW.blk (sk.alloc _) no;have z2:=s2.fz;have y0:w2.cell? ⟨y.o,0,none⟩=some (.slice A m.out.length cap):=by rw[<-hov];exact s2.cell 0
 have KG:Kept (λk=>k=y.o∨y.ov.ownBlock=some k) w w2:=by
  have k1:Kept (λk=>k=y.o∨y.ov.ownBlock=some k) w W:=HW.o▸(Kept.refl _ w).drewN nq
  exact(k1.alloc _).trans (KW.mono (λk z=>Or.inr z))
 go_wp2_with fail
 go_ret
 have K2:=KG.set (p:=⟨y.o,0,none⟩) (Or.inl (Or.inl rfl)) (.slice (some ⟨g,0,none⟩) (m.out.length+1) cap');have F:jM w y.ov (.slice (some ⟨g,0,none⟩) (m.out.length+1) cap'):=by
  rcases hg with e|e
  ·exact Or.inl (by rw[hov,e];rfl)
  ·exact Or.inr ⟨g,rfl,by rw[e,<-HW.o];show w.heap.size<=w.heap.size+1;omega⟩
 have O:Own (w2.setCell ⟨y.o,0,none⟩ (.slice (some ⟨g,0,none⟩) (m.out.length+1) cap')) 3 1 dB (.slice (some ⟨g,0,none⟩) (m.out.length+1) cap') (m.out++[n]):=by
  have o2:Own w2 3 1 dB (.slice (some ⟨g,0,none⟩) (m.out.length+1) cap') (m.out++[n]):=by
   exact Us86
  exact o2.kept (Kept.one w2 y.o 0 _) (λb e z=>o2.ne s2 U0 (z▸e))
 exact⟨rfl,_,h.Lm K2 (λk z=>z.elim Or.inl (λz=>Or.inr (Or.inl z))) _ _ (s2.set 0 _) O F,F,K2⟩
theorem BM(w:World)(y:Ly)(m:Co)(n:Int)(h:bI w y m)(h1:m.most<=m.out.length):
  Cs 150 #[.pointer (some ⟨y.o,0,none⟩),n] w (.bool false) λw'=>Below w.heap.size w w':=by
 obtain⟨A,cap,hov⟩:=h.out.len;have x0:w.cell? ⟨y.o,0,none⟩=some (.slice A m.out.length cap):=by rw[<-hov];exact h.sink.cell 0
 have x1:w.cell? ⟨y.o,1,none⟩=some ↑m.most:=h.sink.cell 1;have hc:decide ((m.most:Int)<=(m.out.length:Int))=true:=by simp;omega
 go_enter func150,ntmps150;go_upto_region 1 with fail
 go_quiet (fail)
 go_wp2_with fail
 go_ret
 exact⟨rfl,below_drewN (Below.refl _ _) _⟩
theorem Ar(w:World)(y:Ly)(m:Co)(ev:Ev)(h:bI w y m)(h1:m.log.length<100000):
  Cs 140 #[.pointer (some ⟨y.g,0,none⟩),.agg #[ev.kind,ev.loop,ev.iter,ev.Sc]] w (.tuple #[]) λw'=>∃v,bI w' {y with gv:=v} {m with log:=m.log++[ev]}/\jM w y.gv v/\Kept (λk=>k=y.g∨y.gv.ownBlock=some k) w w':=by
 obtain⟨i0,hi,hz0,hz1,hz2⟩:=info_parts EP;obtain⟨A,cap,hov⟩:=h.evs.len;have hown:=h.evs.alloc (.cells #[ev.kind,ev.loop,ev.iter,ev.Sc] 52);have sk:=h.log.alloc (.cells #[ev.kind,ev.loop,ev.iter,ev.Sc] 52);have bx:=af.new w #[ev.kind,ev.loop,ev.iter,ev.Sc] 52 _ rfl;have k1:Kept (λk=>k=y.g∨y.gv.ownBlock=some k) w (w.alloc (.cells #[ev.kind,ev.loop,ev.iter,ev.Sc] 52)):=(Kept.refl _ _).alloc _;have hsz:=k1.size;go_enter func140,ntmps140;go_upto_region 2 with fail;generalize w.alloc (.cells #[ev.kind,ev.loop,ev.iter,ev.Sc] 52)=W at*;generalize hgb:w.heap.size=gb at*;have x0:W.cell? ⟨y.g,0,none⟩=some (.slice A m.log.length cap):=by rw[<-hov];exact sk.cell 0
 have e0:=bx.c0;have e1:=bx.c1;have e2:=bx.c2;have e3:=bx.c3;rw[hov]at hown;have l1:=sk.lt;have ne1:some y.g≠(Value.slice A m.log.length cap).ownBlock:=λz=>(hov▸h.evs.ne h.log U0) z.symm;have ne2:some gb≠(Value.slice A m.log.length cap).ownBlock:=λz=>by
  obtain⟨cs,q⟩:=h.evs.type (hov.symm▸z.symm)
  exact absurd q.lt U2
 have hown2:W.ownsRow 0 52 4 (.slice A m.log.length cap) m.log.length (m.log.flatMap Ev.cells):=hown
 go_region_law (first|((refine step_append_lies _ (by rfl) _ _ 48 (by rfl) 0 52 i0 _ 4 32 underlying48 hi hz0 hz1 hz2 rfl U2 _ m.log.length _ (by rfl) (by first|exact(hown2.alloc _).drew|exact hown2.alloc _|exact(hown2.drew.alloc _)) ⟨W.heap.size,0,none⟩ 1 1 [.int .i64 ev.kind,ev.loop,ev.iter,ev.Sc] (by rfl) (by rfl) (World.news_of_block (cs:= #[ev.kind,ev.loop,ev.iter,ev.Sc]) (t:= 52) (fr:=(0,0)) (heap_alloc_new W _)) U17 U2 U71 U2 U2 (W.heap.size+1) U8 ?_;intro gg cap' w2 hown' hgrow hat hlt2;have s2:=(Kept.grown hgrow).blk (by first|exact(sk.alloc _).drew|exact sk.alloc _|exact(sk.drew.alloc _)|exact(sk.drew.alloc _).drew:af _ y.g #[y.gv] 186) (λz=>ne1 z.symm);have z2:=s2.fz;have yg:w2.cell? ⟨y.g,0,none⟩=some (.slice A m.log.length cap):=hov▸s2.cell 0)))
 all_goals
  have KG:Kept (λk=>k=y.g∨y.gv.ownBlock=some k) w w2:=by
   refine k1.trans ((?_:Kept _ W _).trans ((Kept.grown hgrow).mono (λk z=>Or.inr (hov▸z))))
   first|exact((Kept.refl _ _).alloc _).drew|exact(Kept.refl _ _).alloc _|exact((Kept.refl _ _).drew).alloc _|exact(((Kept.refl _ _).drew).alloc _).drew
  have K2:=KG.set (p:=⟨y.g,0,none⟩) (Or.inl (Or.inl rfl)) (.slice (some ⟨gg,0,none⟩) (m.log.length+1) cap');have o2:Own w2 52 4 Ev.cells (.slice (some ⟨gg,0,none⟩) (m.log.length+1) cap') (m.log++[ev]):=by
   exact Us86
  have O:=o2.kept (Kept.one w2 y.g 0 (.slice (some ⟨gg,0,none⟩) (m.log.length+1) cap')) (λb e z=>o2.ne s2 U0 (z▸e));have F:jM w y.gv (.slice (some ⟨gg,0,none⟩) (m.log.length+1) cap'):=by
   rcases hat with e|e
   ·exact Or.inl (by rw[hov];exact(show(Value.slice A m.log.length cap).ownBlock=some gg from e).symm)
   ·exact Or.inr ⟨gg,rfl,by omega⟩
  have C:=h.Ll K2 (λk z=>z.elim Or.inl (λz=>Or.inr (Or.inl z))) _ _ (s2.set 0 _) O
  go_end0
  exact⟨rfl,_,C,F,K2⟩
theorem bI.lH{w:World}{y:Ly}{m:Co}(h:bI w y m)(o:Obj):bI (w.alloc o) y m:=h.ai (Ba o)
def Co.ok(m:Co)(i:Nat):Prop:=0<i/\i<m.Sj.length/\m.Sj.getD i false=true
theorem Ac(w:World)(y:Ly)(m:Co)(h:bI w y m)(i:Nat)(hi:m.ok i):
  Cs 261 #[.pointer (some ⟨y.a,0,none⟩),i] w (.bool true) λw'=>w=w':=by
 obtain⟨h0,h1,h2⟩:=hi;have x0:w.cell? ⟨y.a,0,none⟩=some (.slice (some ⟨y.hl,0,none⟩) m.Sj.length m.Sj.length):=h.arena.cell 0;have x1:w.cell? ⟨y.hl,i,none⟩=some (.bool true):=by rw[<-h2];exact(h.Sj.cell i).trans (kL _ _ h1)
 have h1':(i:Int)<(m.Sj.length:Int):=by omega
 have h0':(0:Int)<(i:Int):=by omega
 clear h h2;generalize m.Sj.length=n at*;generalize y.a=a at*;generalize y.hl=b at*;go_enter func261,ntmps261;go_wp2_with fail
 go_ret
 exact⟨rfl,rfl⟩
theorem Hu(w:World)(y:Ly)(m:Co)(h:bI w y m)(i:Nat)(hi:m.ok i):
  Cs 210 #[.pointer (some ⟨y.t,0,none⟩),i] w (.pointer (some ⟨y.fr,19*i,none⟩)) λw'=>w=w':=by
 have cH:=Hd (Ac w y m h i hi);have hf:i<m.aJ.length:=by have:=hi.2.1;have:=h.hlen;omega
 have hf':(i:Int)<(m.aJ.length:Int):=by omega
 have x5:w.cell? ⟨y.t,5,none⟩=some (.pointer (some ⟨y.a,0,none⟩)):=h.table.cell 5;have x6:w.cell? ⟨y.t,6,none⟩=some (.slice (some ⟨y.fr,0,none⟩) m.aJ.length m.aJ.length):=h.table.cell 6;clear h hi;generalize m.aJ.length=n at*;generalize y.t=a at*;generalize y.fr=b at*;go_enter func210,ntmps210
 go_wp2_with (go_at_call 261;refine cH.o.r ?_)
 go_ret
 exact⟨by simp[Nat.mul_comm],rfl⟩
theorem I8(w:World)(y:Ly)(m:Co)(h:bI w y m)(i:Nat)(hi:m.ok i):
  Cs 141 #[.pointer (some ⟨y.c,0,none⟩),i] w (.pointer (some ⟨y.fr,19*i,none⟩)) λw'=>w=w':=by
 have c1:=Hd (pX w y m h.core);have c2:=Hd (Hu w y m h i hi);clear h hi;generalize 19*i=P at*;go_enter func141,ntmps141
 go_wp2_with (first|(go_at_call 34;refine c1.o.r ?_)|(go_at_call 210;refine c2.o.r ?_))
 go_ret
 exact⟨rfl,rfl⟩
theorem Gr(a b c d id au:Int)(w:World):
  Cs 226 #[.agg #[a,b,c,d],id,au] w (.agg #[a,b,c,d,id,au]) λw'=>Below w.heap.size w w':=by
 go_enter func226,ntmps226;go_wp2_with fail
 exact bodyPost_ret (v:=.agg #[a,b,c,d,id,au]) (by simp[results,results226,go_sem]) rfl ⟨rfl,U1⟩
def fZ(p:Pl)(id au:Int):Value:=.agg #[p.wk,p.fr,p.th,p.dq,id,au]
def Co.fr(m:Co)(i:Nat):Fr:=m.aJ.getD i aM
theorem CG(w:World)(y:Ly)(m:Co)(h:bI w y m)(i:Nat)(hi:m.ok i):
  Cs 156 #[.pointer (some ⟨y.c,0,none⟩),i] w (fZ m.pl i (m.fr i).ae) λw'=>Below w.heap.size w w':=by
 have hf:i<m.aJ.length:=by have:=hi.2.1;have:=h.hlen;omega
 have hs:=(h.frame i hf 18 U0);have e18:(m.aJ[i].cells)[18]? =some (.int .i64 (m.fr i).ae):=by simp[Fr.cells,Co.fr,List.getD,hf]
 rw[e18]at hs;have lf:=h.frames.lt;have c1:=Hd (λw h=>vz w y m h);have c2:=Hd (λw h=>I8 w y m h i hi);have c3:=Hd (λw=>Gr m.pl.wk m.pl.fr m.pl.th m.pl.dq i (m.fr i).ae w);unfold Pl.v at c1;unfold fZ;have Sr:=h.lH (.cells #[(0:Int),(0:Int),(0:Int),(0:Int),(0:Int),(0:Int)] 247);have g1:=af.new w #[(0:Int),(0:Int),(0:Int),(0:Int),(0:Int),(0:Int)] 247 _ rfl;have bw:Below w.heap.size w (w.alloc (.cells #[(0:Int),(0:Int),(0:Int),(0:Int),(0:Int),(0:Int)] 247)):=Ba _;have x18:(w.alloc (.cells #[(0:Int),(0:Int),(0:Int),(0:Int),(0:Int),(0:Int)] 247)).cell? ⟨y.fr,19*i+18,none⟩=some (.int .i64 (m.fr i).ae):=kc hs;clear h hi hs e18 hf;generalize 19*i=P at*;generalize(m.fr i).ae=sr at*;generalize m.pl.wk=a1 at*;generalize m.pl.fr=a2 at*;generalize m.pl.th=a3 at*;generalize m.pl.dq=a4 at*;go_enter func156,ntmps156;go_upto_region 1 with fail;generalize w.alloc (.cells #[(0:Int),(0:Int),(0:Int),(0:Int),(0:Int),(0:Int)] 247)=W at*;generalize hg:w.heap.size=g at*;have lg:=g1.lt;have lf2:y.fr<W.heap.size:=nL lf U72
 go_wp2_with (first|(go_at_call 91;refine(c1.o _ Sr.core).q λw1 k1=> ?_;have hb2:=Sr.ai k1;have g2:=g1.below k1 lg;have y18:=kb k1 lf2 x18)|(go_at_call 141;refine(c2.o _ hb2).r ?_)|(go_at_call 226;refine(c3.o _).q λw3 k3=> ?_;have g3:=g2.below k3 g2.lt;have y0:=g3.cell 0;have y1:=g3.cell 1;have y2:=g3.cell 2;have y3:=g3.cell 3;have y4:=g3.cell 4;have y5:=g3.cell 5;have z3:=g3.fz))
 have B2:Below g w w3:=(bw.trans (k1.mono U72)).trans (k3.mono (nT U72 k1.size))
 exact bodyPost_ret (v:=.agg #[a1,a2,a3,a4,i,sr]) (by simp[results,results156,go_sem,y0,y1,y2,y3,y4,y5,z3]) rfl ⟨rfl,by rw[hg];exact(((((B2.setCell (p:=⟨g,0,none⟩) nr _).setCell (p:=⟨g,1,none⟩) nr _).setCell (p:=⟨g,2,none⟩) nr _).setCell (p:=⟨g,3,none⟩) nr _).setCell (p:=⟨g,4,none⟩) nr _).setCell (p:=⟨g,5,none⟩) nr _⟩
theorem Us87 {p:Prop} (h:p:=by
 go_wp2_with (go_at_call 125;refine(cW.o _ h _).r ?_)
 go_ret2
 exact⟨rfl,h,Kept.refl _ _⟩):p:=h
theorem Us56 {p:Prop} (h:p:=by
 clear hn;go_enter func125,ntmps125
 go_wp2_with (go_at_call 202;refine(cS.o _ h).r ?_)
 go_ret
 exact⟨rfl,rfl⟩):p:=h
def qD(L:List Int)(at_:Int):Bool:=decide (0<=at_)&&decide (at_<L.length)
def qE(L:List Int)(at_:Int):Int:=if qD L at_=true then L.getD at_.toNat 0 else 0
def AR(L:List Int)(at_ v:Int):List Int:=if qD L at_=true then L.set at_.toNat v else L
theorem oW{L:List Int}{at_:Int}(h:qD L at_=true):∃k:Nat,at_=k/\k<L.length:=by
 unfold qD at h
 simp at h
 exact⟨at_.toNat,by omega,by omega⟩
theorem mV(w:World)(s d:Nat)(L:List Int)(n:Int)(hn:qD L n=false)(b:Bool)(h:aD w s d L):
  Cs 125 #[.pointer (some ⟨s,0,none⟩),n,.bool b] w (.pointer none) λw'=>w=w':=by
 have cS:=Hd (λw h=>qP w s d L h);unfold qD at hn
 by_cases h0:n<0
 ·have d0:decide (n<0)=true:=by simp[h0]
  exact Us56
 ·have d0:decide (n<0)=false:=by simp[h0]
  have h1:(L.length:Int)<=n:=by simp at hn;omega
  have d1:decide ((L.length:Int)<=n)=true:=by simp[h1]
  exact Us56
theorem Kl(w:World)(s d:Nat)(L:List Int)(n:Int)(h:aD w s d L):
  Cs 160 #[.pointer (some ⟨s,0,none⟩),n] w (.tuple #[.int .i64 (qE L n),.bool (qD L n)]) λw'=>w=w':=by
 cases hc:qD L n
 ·have cW:=Hd (λw h b=>mV w s d L n hc b h)
  have e0:qE L n=0:=by unfold qE;rw[hc];rfl
  rw[e0];clear hc e0;go_enter func160,ntmps160
  go_wp2_with (go_at_call 125;refine(cW.o _ h _).r ?_)
  go_ret2
  exact⟨rfl,rfl⟩
 ·have e0:qE L n=L.getD n.toNat 0:=by unfold qE;rw[hc];rfl
  obtain⟨k,rfl,hk⟩:=oW hc;rw[e0]
  exact fI w s d L k hk h
theorem He(w:World)(s d:Nat)(L:List Int)(n v:Int)(h:aD w s d L):
  Cs 84 #[.pointer (some ⟨s,0,none⟩),n,v] w (.bool (qD L n)) λw'=>aD w' s d (AR L n v)/\Kept (One d) w w':=by
 cases hc:qD L n
 ·have cW:=Hd (λw h b=>mV w s d L n hc b h)
  have e0:AR L n v=L:=by unfold AR;rw[hc];rfl
  rw[e0];clear hc e0;go_enter func84,ntmps84
  go_wp2_with (go_at_call 125;refine(cW.o _ h _).r ?_)
  go_ret
  exact⟨rfl,h,Kept.refl _ _⟩
 ·have e0:AR L n v=L.set n.toNat v:=by unfold AR;rw[hc];rfl
  obtain⟨k,rfl,hk⟩:=oW hc;rw[e0]
  exact dN w s d L k hk v h
theorem M7(w:World)(s d:Nat)(L:List Int)(n v:Int)(h:aD w s d L):
  Cs 217 #[.pointer (some ⟨s,0,none⟩),n,v] w (.tuple #[.int .i64 (qE L n),.bool (qD L n)]) λw'=>aD w' s d (AR L n (wrap64 (qE L n+v)))/\Kept (One d) w w':=by
 cases hc:qD L n
 ·have cW:=Hd (λw h b=>mV w s d L n hc b h)
  have e0:∀v,AR L n v=L:=λv=>by unfold AR;rw[hc];rfl
  have e1:qE L n=0:=by unfold qE;rw[hc];rfl
  rw[e0,e1];clear hc e0 e1;go_enter func217,ntmps217
  exact Us87
 ·have e0:∀v,AR L n v=L.set n.toNat v:=λv=>by unfold AR;rw[hc];rfl
  have e1:qE L n=L.getD n.toNat 0:=by unfold qE;rw[hc];rfl
  obtain⟨k,rfl,hk⟩:=oW hc;rw[e0,e1]
  exact uj w s d L k hk v h
def Pf(L:List Int)(n old now:Int):List Int:=if qD L n=true then swp L n.toNat old now else L
theorem Li(w:World)(s d:Nat)(L:List Int)(n old now:Int)(h:aD w s d L):
  Cs 219 #[.pointer (some ⟨s,0,none⟩),n,old,now] w (.tuple #[.int .i64 (qE L n),.bool (qD L n)]) λw'=>aD w' s d (Pf L n old now)/\Kept (One d) w w':=by
 cases hc:qD L n
 ·have cW:=Hd (λw h b=>mV w s d L n hc b h)
  have e0:Pf L n old now=L:=by unfold Pf;rw[hc];rfl
  have e1:qE L n=0:=by unfold qE;rw[hc];rfl
  rw[e0,e1];clear hc e0 e1;go_enter func219,ntmps219
  exact Us87
 ·have e0:Pf L n old now=swp L n.toNat old now:=by unfold Pf;rw[hc];rfl
  have e1:qE L n=L.getD n.toNat 0:=by unfold qE;rw[hc];rfl
  obtain⟨k,rfl,hk⟩:=oW hc;rw[e0,e1]
  exact AX w s d L k hk old now h
def Co.ask(m:Co)(k a v o:Int):Co×Int×Bool:=
 if k=1 then(m,qE m.data a,qD m.data a)
 else if k=2 then({m with data:=AR m.data a v},0,qD m.data a)
 else if k=3 then({m with data:=AR m.data a (wrap64 (qE m.data a+v))},qE m.data a,qD m.data a)
 else({m with data:=Pf m.data a v o},qE m.data a,qD m.data a)
theorem DZ(w:World)(y:Ly)(m:Co)(a v o rg:Int)(h:bI w y m):
  Cs 148 #[.pointer (some ⟨y.c,0,none⟩),.agg #[(1:Int),a,v,o,rg]] w (.tuple #[.int .i64 (m.ask 1 a v o).2.1,.bool (m.ask 1 a v o).2.2]) λw'=>bI w' y (m.ask 1 a v o).1/\Kept (One y.dd) w w':=by
 have cT:=Hd (λw h=>Kl w y.ds y.dd m.data a h);have cD:=Hd (λw h=>jS w y m h);have hb:=h.lH (.cells #[(1:Int),a,v,o,rg] 235);have g1:=af.new w #[(1:Int),a,v,o,rg] 235 _ rfl;have bw:Kept (One y.dd) w (w.alloc (.cells #[(1:Int),a,v,o,rg] 235)):=(Kept.refl _ _).alloc _;have l0:=h.core.lt;clear h;rw[show m.ask 1 a v o=(m.ask 1 a v o)from rfl];unfold Co.ask;simp only[reduceIte,Int.reduceEq,if_true,if_false];generalize qE m.data a=u at*;generalize qD m.data a=z at*;go_enter func148,ntmps148;go_upto_region 3 with fail;generalize w.alloc (.cells #[(1:Int),a,v,o,rg] 235)=W at*;generalize w.heap.size=g at*;have x9:W.cell? ⟨y.c,9,none⟩=some (.pointer (some ⟨y.ds,0,none⟩)):=hb.core.cell 9;have e0:=g1.c0;have e1:=g1.c1;have e2:=g1.c2;have e3:=g1.c3;have lg:=g1.lt;have lc:=hb.core.lt;have gdd:¬One y.dd g:=λz=>g1.ne hb.data.ws U0 z;have gcc:¬One y.dd y.c:=λz=>hb.core.ne hb.data.ws U0 z
 go_region_held3 (λw'=>w'.cell? ⟨g,0,none⟩=some (.int .i64 1)/\w'.cell? ⟨g,1,none⟩=some ↑a/\w'.cell? ⟨g,2,none⟩=some ↑v/\w'.cell? ⟨g,3,none⟩=some ↑o/\w'.cell? ⟨y.c,9,none⟩=some (.pointer (some ⟨y.ds,0,none⟩)))
  (exact U160)
  (first|(go_at_call 31;refine(cD.o _ U27).r ?_)|(go_at_call 160;refine(cT.o _ U42).r ?_))
 all_goals
  go_wp2_with fail
  go_ret2
  exact⟨rfl,by first|exact hb.ai (Below.refl _ _).drew.drew|exact hb.ai (Below.refl _ _).drew|exact hb,by first|exact bw.drew.drew|exact bw.drew|exact bw⟩
theorem D5(w:World)(y:Ly)(m:Co)(a v o rg:Int)(h:bI w y m):
  Cs 148 #[.pointer (some ⟨y.c,0,none⟩),.agg #[(2:Int),a,v,o,rg]] w (.tuple #[.int .i64 (m.ask 2 a v o).2.1,.bool (m.ask 2 a v o).2.2]) λw'=>bI w' y (m.ask 2 a v o).1/\Kept (One y.dd) w w':=by
 have cT:=Hd (λw h=>He w y.ds y.dd m.data a v h);have cD:=Hd (λw h=>jS w y m h);have hb:=h.lH (.cells #[(2:Int),a,v,o,rg] 235);have g1:=af.new w #[(2:Int),a,v,o,rg] 235 _ rfl;have bw:Kept (One y.dd) w (w.alloc (.cells #[(2:Int),a,v,o,rg] 235)):=(Kept.refl _ _).alloc _;have l0:=h.core.lt;clear h;rw[show m.ask 2 a v o=(m.ask 2 a v o)from rfl];unfold Co.ask;simp only[reduceIte,Int.reduceEq,if_true,if_false]
 skip
 generalize qD m.data a=z at*;generalize AR m.data a v=L2 at*;go_enter func148,ntmps148;go_upto_region 5 with fail;generalize w.alloc (.cells #[(2:Int),a,v,o,rg] 235)=W at*;generalize w.heap.size=g at*;have x9:W.cell? ⟨y.c,9,none⟩=some (.pointer (some ⟨y.ds,0,none⟩)):=hb.core.cell 9;have e0:=g1.c0;have e1:=g1.c1;have e2:=g1.c2;have e3:=g1.c3;have lg:=g1.lt;have lc:=hb.core.lt;have gdd:¬One y.dd g:=λz=>g1.ne hb.data.ws U0 z;have gcc:¬One y.dd y.c:=λz=>hb.core.ne hb.data.ws U0 z
 go_region_held3 (λw'=>w'.cell? ⟨g,0,none⟩=some (.int .i64 2)/\w'.cell? ⟨g,1,none⟩=some ↑a/\w'.cell? ⟨g,2,none⟩=some ↑v/\w'.cell? ⟨g,3,none⟩=some ↑o/\w'.cell? ⟨y.c,9,none⟩=some (.pointer (some ⟨y.ds,0,none⟩)))
  (exact U160)
  (first|(go_at_call 31;refine(cD.o _ U27).r ?_)|(go_at_call 84;refine(cT.o _ U42).mono ?_;rintro ev w2 ⟨rfl,s2,k2⟩;have gg2:=k2.blk U61 gdd;have cc2:=k2.blk U27 gcc))
 all_goals
  go_wp2_with fail
  go_ret2
  have K2:Kept (One y.dd) W w2:=by first|exact k2|exact(Kept.refl _ W).drew.trans k2|exact(Kept.refl _ W).drew.drew.trans k2
  have Q:=hb.qX K2 (λk z=>Or.inl z) L2 s2;have QK:=bw.trans K2
  exact⟨rfl,by first|exact Q|exact Q.ai (Below.refl _ _).drew,by first|exact QK|exact QK.drew⟩
theorem D6(w:World)(y:Ly)(m:Co)(a v o rg:Int)(h:bI w y m):
  Cs 148 #[.pointer (some ⟨y.c,0,none⟩),.agg #[(3:Int),a,v,o,rg]] w (.tuple #[.int .i64 (m.ask 3 a v o).2.1,.bool (m.ask 3 a v o).2.2]) λw'=>bI w' y (m.ask 3 a v o).1/\Kept (One y.dd) w w':=by
 have cT:=Hd (λw h=>M7 w y.ds y.dd m.data a v h);have cD:=Hd (λw h=>jS w y m h);have hb:=h.lH (.cells #[(3:Int),a,v,o,rg] 235);have g1:=af.new w #[(3:Int),a,v,o,rg] 235 _ rfl;have bw:Kept (One y.dd) w (w.alloc (.cells #[(3:Int),a,v,o,rg] 235)):=(Kept.refl _ _).alloc _;have l0:=h.core.lt;clear h;rw[show m.ask 3 a v o=(m.ask 3 a v o)from rfl];unfold Co.ask;simp only[reduceIte,Int.reduceEq,if_true,if_false];generalize qE m.data a=u at*;generalize qD m.data a=z at*;generalize AR m.data a (wrap64 (u+v))=L2 at*;go_enter func148,ntmps148;go_upto_region 7 with fail;generalize w.alloc (.cells #[(3:Int),a,v,o,rg] 235)=W at*;generalize w.heap.size=g at*;have x9:W.cell? ⟨y.c,9,none⟩=some (.pointer (some ⟨y.ds,0,none⟩)):=hb.core.cell 9;have e0:=g1.c0;have e1:=g1.c1;have e2:=g1.c2;have e3:=g1.c3;have lg:=g1.lt;have lc:=hb.core.lt;have gdd:¬One y.dd g:=λz=>g1.ne hb.data.ws U0 z;have gcc:¬One y.dd y.c:=λz=>hb.core.ne hb.data.ws U0 z
 go_region_held3 (λw'=>w'.cell? ⟨g,0,none⟩=some (.int .i64 3)/\w'.cell? ⟨g,1,none⟩=some ↑a/\w'.cell? ⟨g,2,none⟩=some ↑v/\w'.cell? ⟨g,3,none⟩=some ↑o/\w'.cell? ⟨y.c,9,none⟩=some (.pointer (some ⟨y.ds,0,none⟩)))
  (exact U160)
  (first|(go_at_call 31;refine(cD.o _ U27).r ?_)|(go_at_call 217;refine(cT.o _ U42).mono ?_;rintro ev w2 ⟨rfl,s2,k2⟩;have gg2:=k2.blk U61 gdd;have cc2:=k2.blk U27 gcc))
 all_goals
  go_wp2_with fail
  go_ret2
  have K2:Kept (One y.dd) W w2:=by first|exact k2|exact(Kept.refl _ W).drew.trans k2|exact(Kept.refl _ W).drew.drew.trans k2
  have Q:=hb.qX K2 (λk z=>Or.inl z) L2 s2;have QK:=bw.trans K2
  exact⟨rfl,by first|exact Q|exact Q.ai (Below.refl _ _).drew,by first|exact QK|exact QK.drew⟩
theorem D7(w:World)(y:Ly)(m:Co)(a v o rg:Int)(h:bI w y m):
  Cs 148 #[.pointer (some ⟨y.c,0,none⟩),.agg #[(4:Int),a,v,o,rg]] w (.tuple #[.int .i64 (m.ask 4 a v o).2.1,.bool (m.ask 4 a v o).2.2]) λw'=>bI w' y (m.ask 4 a v o).1/\Kept (One y.dd) w w':=by
 have cT:=Hd (λw h=>Li w y.ds y.dd m.data a v o h);have cD:=Hd (λw h=>jS w y m h);have hb:=h.lH (.cells #[(4:Int),a,v,o,rg] 235);have g1:=af.new w #[(4:Int),a,v,o,rg] 235 _ rfl;have bw:Kept (One y.dd) w (w.alloc (.cells #[(4:Int),a,v,o,rg] 235)):=(Kept.refl _ _).alloc _;have l0:=h.core.lt;clear h;rw[show m.ask 4 a v o=(m.ask 4 a v o)from rfl];unfold Co.ask;simp only[reduceIte,Int.reduceEq,if_true,if_false];generalize qE m.data a=u at*;generalize qD m.data a=z at*;generalize Pf m.data a v o=L2 at*;go_enter func148,ntmps148;go_upto_region 9 with fail;generalize w.alloc (.cells #[(4:Int),a,v,o,rg] 235)=W at*;generalize w.heap.size=g at*;have x9:W.cell? ⟨y.c,9,none⟩=some (.pointer (some ⟨y.ds,0,none⟩)):=hb.core.cell 9;have e0:=g1.c0;have e1:=g1.c1;have e2:=g1.c2;have e3:=g1.c3;have lg:=g1.lt;have lc:=hb.core.lt;have gdd:¬One y.dd g:=λz=>g1.ne hb.data.ws U0 z;have gcc:¬One y.dd y.c:=λz=>hb.core.ne hb.data.ws U0 z
 go_region_held3 (λw'=>w'.cell? ⟨g,0,none⟩=some (.int .i64 4)/\w'.cell? ⟨g,1,none⟩=some ↑a/\w'.cell? ⟨g,2,none⟩=some ↑v/\w'.cell? ⟨g,3,none⟩=some ↑o/\w'.cell? ⟨y.c,9,none⟩=some (.pointer (some ⟨y.ds,0,none⟩)))
  (exact U160)
  (first|(go_at_call 31;refine(cD.o _ U27).r ?_)|(go_at_call 219;refine(cT.o _ U42).mono ?_;rintro ev w2 ⟨rfl,s2,k2⟩;have gg2:=k2.blk U61 gdd;have cc2:=k2.blk U27 gcc))
 all_goals
  go_wp2_with fail
  go_ret2
  have K2:Kept (One y.dd) W w2:=by first|exact k2|exact(Kept.refl _ W).drew.trans k2|exact(Kept.refl _ W).drew.drew.trans k2
  have Q:=hb.qX K2 (λk z=>Or.inl z) L2 s2;have QK:=bw.trans K2
  exact⟨rfl,by first|exact Q|exact Q.ai (Below.refl _ _).drew,by first|exact QK|exact QK.drew⟩
theorem Us24 {p:Prop} (h:p:=by
 go_enter func143,ntmps143;go_wp2_with fail
 exact bodyPost_ret (v:=.agg #[(0:Int),(0:Int),(0:Int),(0:Int)]) U39 rfl ⟨rfl,U1⟩):p:=h
def Cr:Is:=⟨0,0,0,0⟩
def Co.at_(m:Co)(fn pc:Int):Is:=if 0<=fn/\0<=pc then(m.code.getD fn.toNat []).getD pc.toNat Cr else Cr
def Is.v(x:Is):Value:=.agg #[x.op,x.a,x.b,x.c]
theorem D8(w:World)(y:Ly)(m:Co)(fn pc:Int)(h:bI w y m):
  Calls prog 143 #[.pointer (some ⟨y.c,0,none⟩),fn,pc] w λev w'=>ev=.returned (m.at_ fn pc).v/\Below w.heap.size w w':=by
 obtain⟨A,cap,hcv,hcode⟩:=h.code;have l0:=h.core.lt;have x0:w.cell? ⟨y.c,0,none⟩=some (.slice A m.code.length cap):=by rw[<-hcv];exact h.core.cell 0
 have x0':(w.alloc (.cells #[(0:Int),(0:Int),(0:Int),(0:Int)] 109)).cell? ⟨y.c,0,none⟩=some (.slice A m.code.length cap):=kc x0;clear h
 by_cases h1:fn<0
 ·have e:m.at_ fn pc=Cr:=by unfold Co.at_;rw[if_neg U2]
  rw[e];have d1:decide (fn<0)=true:=by simp[h1]
  clear hcode e h1
  exact Us24
 have d1:decide (fn<0)=false:=by simp[h1]
 by_cases h2:(m.code.length:Int)<=fn
 ·have e:m.at_ fn pc=Cr:=by
   unfold Co.at_
   have:m.code.getD fn.toNat []=[]:=by simp[List.getD,List.getElem?_eq_none (show m.code.length<=fn.toNat by omega)]
   rw[this]
   split<;>simp
  rw[e];have d2:decide ((m.code.length:Int)<=fn)=true:=by simp[h2]
  clear hcode e h2
  exact Us24
 have d2:decide ((m.code.length:Int)<=fn)=false:=by simp[h2]
 by_cases h3:pc<0
 ·have e:m.at_ fn pc=Cr:=by unfold Co.at_;rw[if_neg U2]
  rw[e];have d3:decide (pc<0)=true:=by simp[h3]
  clear hcode e h3
  exact Us24
 have d3:decide (pc<0)=false:=by simp[h3]
 obtain⟨i,rfl⟩:=Int.eq_ofNat_of_zero_le (show 0<=fn by omega);obtain⟨j,rfl⟩:=Int.eq_ofNat_of_zero_le (show 0<=pc by omega);have hi:i<m.code.length:=by omega
 obtain⟨a0,B,cap',rfl,_,c1,hpc⟩:=hcode i hi;have c1':(w.alloc (.cells #[(0:Int),(0:Int),(0:Int),(0:Int)] 109)).cell? ⟨a0,i,none⟩=some (.slice B m.code[i].length cap'):=kc c1;have h2':(i:Int)<(m.code.length:Int):=by omega
 by_cases h4:(m.code[i].length:Int)<=(j:Int)
 ·have e:m.at_ i j=Cr:=by
   unfold Co.at_;rw[if_pos U2];simp[List.getD,hi,List.getElem?_eq_none (show m.code[i].length<=j by omega)]
  rw[e];have d4:decide ((m.code[i].length:Int)<=(j:Int))=true:=by simp;omega
  have d5:m.code[i].length<=j:=by omega
  have d6:¬j<m.code[i].length:=by omega
  clear e h4 hpc hcode c1;generalize m.code[i].length=n2 at*
  exact Us24
 ·have hj:j<m.code[i].length:=by omega
  have e:m.at_ i j=m.code[i][j]:=by
   unfold Co.at_;rw[if_pos U2];simp[List.getD,hi,hj]
  rw[e];have d4:decide ((m.code[i].length:Int)<=(j:Int))=false:=by simp;omega
  have h4':(j:Int)<(m.code[i].length:Int):=by omega
  obtain⟨b0,rfl,_,q⟩:=hpc j hj;have q0:(w.alloc (.cells #[(0:Int),(0:Int),(0:Int),(0:Int)] 109)).cell? ⟨b0,j*4,none⟩=some (.int .i64 m.code[i][j].op):=kc (by rw[Nat.mul_comm];exact q 0 U0);have q1:(w.alloc (.cells #[(0:Int),(0:Int),(0:Int),(0:Int)] 109)).cell? ⟨b0,j*4+1,none⟩=some (.int .i64 m.code[i][j].a):=kc (by rw[Nat.mul_comm];exact q 1 U0);have q2:(w.alloc (.cells #[(0:Int),(0:Int),(0:Int),(0:Int)] 109)).cell? ⟨b0,j*4+2,none⟩=some (.int .i64 m.code[i][j].b):=kc (by rw[Nat.mul_comm];exact q 2 U0);have q3:(w.alloc (.cells #[(0:Int),(0:Int),(0:Int),(0:Int)] 109)).cell? ⟨b0,j*4+3,none⟩=some (.int .i64 m.code[i][j].c):=kc (by rw[Nat.mul_comm];exact q 3 U0);clear e h4 q hcode hpc c1;unfold Is.v;generalize m.code[i][j]=X at*;obtain⟨xo,xa,xb,xc⟩:=X;dsimp only at*;generalize m.code[i].length=n2 at*;go_enter func143,ntmps143;go_wp2_with fail
  exact bodyPost_ret (v:=.agg #[xo,xa,xb,xc]) U39 rfl ⟨rfl,U1⟩
def Fr.v(f:Fr):Value:=.agg (f.cells.toArray)
def Fr.child(f:Fr)(Sq fn:Int):Fr:={aM with kind:=1,fn:=fn,rg:=f.rg,Sg:=Sq}
def Fr.loop(f:Fr)(Sq fn au:Int):Fr:={aM with kind:=3,fn:=fn,rg:=f.rg,Sg:=Sq,ae:=au}
def Fr.iter(f:Fr)(Sq:Int):Fr:={aM with kind:=2,fn:=f.fn,rg:=f.rg,Sg:=Sq,index:=f.R9}
theorem aQ{P:Program}{ops:Array Oper}{rest:List Oper}{o:Oper}{a:Act}{w:World}{Q:Exit->Act->World->Prop}(hgd:o.guard=none)(ty:TypeId)(x y:Operand)(ho:o.op=.store ty x y)
  (b:Nat) (c cells:Array Value) (t:TypeId) (hb:af w b c t) (hx:a.eval x=.pointer (some ⟨b,0,none⟩)) (hy:a.eval y=.agg cells)
  (hi:(P.info? ty).map (·.size)=some cells.size) (hold:c.size=cells.size) (h1:cells.all (·.oneCell')=true)
  (h:∀w',af w' b cells t->Kept (One b) w w'->wpList P ops Q rest (a.put o.dst undef) w'):wpList P ops Q (o::rest) a w:=
 wpList_plain hgd λ_ hK=>wp_store_row ty x y ho b cells hx hy t c hb hi hold h1 (hK _ _ (h _ (setRow_heap w b c cells t (0,0) hb) ⟨rfl,rfl,rfl,by simp,λk _ hn=>setRow_other w b k cells hn⟩))
theorem dm:(prog.info? 176).map (·.size)=some 19:=by kernel_rfl
theorem uA(k0 fn0 pc0 r0 r1 r2 r3 r4 r5 r6 r7 pa:Int)(di du:Bool)(ix:Nat)(sg fo:Int)(sd:Nat)(sr:Int)(Sq fn:Int)(w:World):
  Cs 265 #[.agg #[k0,fn0,pc0,r0,r1,r2,r3,r4,r5,r6,r7,pa,.bool di,.bool du,ix,sg,fo,sd,sr],Sq,fn] w (.agg #[(1:Int),fn,(0:Int),r0,r1,r2,r3,r4,r5,r6,r7,Sq,.bool false,.bool false,(0:Int),(0:Int),(0:Int),(0:Int),(0:Int)]) λw'=>Below w.heap.size w w':=by
 go_enter func265,ntmps265;go_upto_region 1 with fail;have g1:=(af.new w #[k0,fn0,pc0,r0,r1,r2,r3,r4,r5,r6,r7,pa,.bool di,.bool du,ix,sg,fo,sd,sr] 176 _ rfl).alloc (.cells #[(0:Int),(0:Int),(0:Int),(0:Int),(0:Int),(0:Int),(0:Int),(0:Int),(0:Int),(0:Int),(0:Int),(0:Int),.bool false,.bool false,(0:Int),(0:Int),(0:Int),(0:Int),(0:Int)] 176);have g2:=af.new (w.alloc (.cells #[k0,fn0,pc0,r0,r1,r2,r3,r4,r5,r6,r7,pa,.bool di,.bool du,ix,sg,fo,sd,sr] 176)) #[(0:Int),(0:Int),(0:Int),(0:Int),(0:Int),(0:Int),(0:Int),(0:Int),(0:Int),(0:Int),(0:Int),(0:Int),.bool false,.bool false,(0:Int),(0:Int),(0:Int),(0:Int),(0:Int)] 176 _ rfl;have B0:Below w.heap.size w ((w.alloc (.cells #[k0,fn0,pc0,r0,r1,r2,r3,r4,r5,r6,r7,pa,.bool di,.bool du,ix,sg,fo,sd,sr] 176)).alloc (.cells #[(0:Int),(0:Int),(0:Int),(0:Int),(0:Int),(0:Int),(0:Int),(0:Int),(0:Int),(0:Int),(0:Int),(0:Int),.bool false,.bool false,(0:Int),(0:Int),(0:Int),(0:Int),(0:Int)] 176)):=(Ba _).alloc U8 _;rw[World.size_alloc]at g2;generalize(w.alloc (.cells #[k0,fn0,pc0,r0,r1,r2,r3,r4,r5,r6,r7,pa,.bool di,.bool du,ix,sg,fo,sd,sr] 176)).alloc (.cells #[(0:Int),(0:Int),(0:Int),(0:Int),(0:Int),(0:Int),(0:Int),(0:Int),(0:Int),(0:Int),(0:Int),(0:Int),.bool false,.bool false,(0:Int),(0:Int),(0:Int),(0:Int),(0:Int)] 176)=W at*;generalize hg:w.heap.size=g at*;have x1:=g1.c1;have x17:=g1.c17;have x3:=g1.c3
 have x4:=g1.c4;have x5:=g1.c5;have x6:=g1.c6;have x7:=g1.c7;have x8:=g1.c8;have x9:=g1.c9;have x10:=g1.c10
 go_wp2_with (first|(refine aQ rfl 176 (.tmp 6) (.tmp 11) rfl (g+1) #[(0:Int),(0:Int),(0:Int),(0:Int),(0:Int),(0:Int),(0:Int),(0:Int),(0:Int),(0:Int),(0:Int),(0:Int),.bool false,.bool false,(0:Int),(0:Int),(0:Int),(0:Int),(0:Int)] #[(1:Int),fn,(0:Int),r0,r1,r2,r3,r4,r5,r6,r7,Sq,.bool false,.bool false,(0:Int),(0:Int),(0:Int),(0:Int),(0:Int)] 176 g2 rfl rfl dm rfl U17 ?_;intro w2 b2 k2))
 have hl:=run_loadVar_row w2 (g+1) 176 176 _ (0,0) _ b2 underlying176 rfl dm;refine bodyPost_ret (v:=.agg _) (by simp[results,results265,Act.put,asAddr,hl]) rfl ⟨rfl,by rw[hg];exact B0.trans (k2.below (λk z=>by unfold One at z;omega) U110)⟩
theorem qy(f:Fr)(Sq fn:Int)(w:World):
  Calls prog 265 #[f.v,Sq,fn] w λev w'=>ev=.returned (f.child Sq fn).v/\Below w.heap.size w w':=by
 obtain⟨k0,fn0,pc0,⟨r0,r1,r2,r3,r4,r5,r6,r7⟩,pa,di,du,ix,sg,fo,sd,sr⟩:=f
 exact uA k0 fn0 pc0 r0 r1 r2 r3 r4 r5 r6 r7 pa di du ix sg fo sd sr Sq fn w
theorem vT(k0 fn0 pc0 r0 r1 r2 r3 r4 r5 r6 r7 pa:Int)(di du:Bool)(ix:Nat)(sg fo:Int)(sd:Nat)(sr:Int)(Sq fn au:Int)(w:World):
  Cs 266 #[.agg #[k0,fn0,pc0,r0,r1,r2,r3,r4,r5,r6,r7,pa,.bool di,.bool du,ix,sg,fo,sd,sr],Sq,fn,au] w (.agg #[(3:Int),fn,(0:Int),r0,r1,r2,r3,r4,r5,r6,r7,Sq,.bool false,.bool false,(0:Int),(0:Int),(0:Int),(0:Int),au]) λw'=>Below w.heap.size w w':=by
 go_enter func266,ntmps266;go_upto_region 1 with fail;have g1:=(af.new w #[k0,fn0,pc0,r0,r1,r2,r3,r4,r5,r6,r7,pa,.bool di,.bool du,ix,sg,fo,sd,sr] 176 _ rfl).alloc (.cells #[(0:Int),(0:Int),(0:Int),(0:Int),(0:Int),(0:Int),(0:Int),(0:Int),(0:Int),(0:Int),(0:Int),(0:Int),.bool false,.bool false,(0:Int),(0:Int),(0:Int),(0:Int),(0:Int)] 176);have g2:=af.new (w.alloc (.cells #[k0,fn0,pc0,r0,r1,r2,r3,r4,r5,r6,r7,pa,.bool di,.bool du,ix,sg,fo,sd,sr] 176)) #[(0:Int),(0:Int),(0:Int),(0:Int),(0:Int),(0:Int),(0:Int),(0:Int),(0:Int),(0:Int),(0:Int),(0:Int),.bool false,.bool false,(0:Int),(0:Int),(0:Int),(0:Int),(0:Int)] 176 _ rfl;have B0:Below w.heap.size w ((w.alloc (.cells #[k0,fn0,pc0,r0,r1,r2,r3,r4,r5,r6,r7,pa,.bool di,.bool du,ix,sg,fo,sd,sr] 176)).alloc (.cells #[(0:Int),(0:Int),(0:Int),(0:Int),(0:Int),(0:Int),(0:Int),(0:Int),(0:Int),(0:Int),(0:Int),(0:Int),.bool false,.bool false,(0:Int),(0:Int),(0:Int),(0:Int),(0:Int)] 176)):=(Ba _).alloc U8 _;rw[World.size_alloc]at g2;generalize(w.alloc (.cells #[k0,fn0,pc0,r0,r1,r2,r3,r4,r5,r6,r7,pa,.bool di,.bool du,ix,sg,fo,sd,sr] 176)).alloc (.cells #[(0:Int),(0:Int),(0:Int),(0:Int),(0:Int),(0:Int),(0:Int),(0:Int),(0:Int),(0:Int),(0:Int),(0:Int),.bool false,.bool false,(0:Int),(0:Int),(0:Int),(0:Int),(0:Int)] 176)=W at*;generalize hg:w.heap.size=g at*;have x1:=g1.c1;have x17:=g1.c17;have x3:=g1.c3
 have x4:=g1.c4;have x5:=g1.c5;have x6:=g1.c6;have x7:=g1.c7;have x8:=g1.c8;have x9:=g1.c9;have x10:=g1.c10
 go_wp2_with (first|(refine aQ rfl 176 (.tmp 8) (.tmp 14) rfl (g+1) #[(0:Int),(0:Int),(0:Int),(0:Int),(0:Int),(0:Int),(0:Int),(0:Int),(0:Int),(0:Int),(0:Int),(0:Int),.bool false,.bool false,(0:Int),(0:Int),(0:Int),(0:Int),(0:Int)] #[(3:Int),fn,(0:Int),r0,r1,r2,r3,r4,r5,r6,r7,Sq,.bool false,.bool false,(0:Int),(0:Int),(0:Int),(0:Int),au] 176 g2 rfl rfl dm rfl U17 ?_;intro w2 b2 k2))
 have hl:=run_loadVar_row w2 (g+1) 176 176 _ (0,0) _ b2 underlying176 rfl dm;refine bodyPost_ret (v:=.agg _) (by simp[results,results266,Act.put,asAddr,hl]) rfl ⟨rfl,by rw[hg];exact B0.trans (k2.below (λk z=>by unfold One at z;omega) U110)⟩
theorem sU(f:Fr)(Sq fn au:Int)(w:World):
  Calls prog 266 #[f.v,Sq,fn,au] w λev w'=>ev=.returned (f.loop Sq fn au).v/\Below w.heap.size w w':=by
 obtain⟨k0,fn0,pc0,⟨r0,r1,r2,r3,r4,r5,r6,r7⟩,pa,di,du,ix,sg,fo,sd,sr⟩:=f
 exact vT k0 fn0 pc0 r0 r1 r2 r3 r4 r5 r6 r7 pa di du ix sg fo sd sr Sq fn au w
theorem vQ(k0 fn0 pc0 r0 r1 r2 r3 r4 r5 r6 r7 pa:Int)(di du:Bool)(ix:Nat)(sg fo:Int)(sd:Nat)(sr:Int)(Sq:Int)(w:World):
  Cs 247 #[.agg #[k0,fn0,pc0,r0,r1,r2,r3,r4,r5,r6,r7,pa,.bool di,.bool du,ix,sg,fo,sd,sr],Sq] w (.agg #[(2:Int),fn0,(0:Int),r0,r1,r2,r3,r4,r5,r6,r7,Sq,.bool false,.bool false,sd,(0:Int),(0:Int),(0:Int),(0:Int)]) λw'=>Below w.heap.size w w':=by
 go_enter func247,ntmps247;go_upto_region 1 with fail;have g1:=(af.new w #[k0,fn0,pc0,r0,r1,r2,r3,r4,r5,r6,r7,pa,.bool di,.bool du,ix,sg,fo,sd,sr] 176 _ rfl).alloc (.cells #[(0:Int),(0:Int),(0:Int),(0:Int),(0:Int),(0:Int),(0:Int),(0:Int),(0:Int),(0:Int),(0:Int),(0:Int),.bool false,.bool false,(0:Int),(0:Int),(0:Int),(0:Int),(0:Int)] 176);have g2:=af.new (w.alloc (.cells #[k0,fn0,pc0,r0,r1,r2,r3,r4,r5,r6,r7,pa,.bool di,.bool du,ix,sg,fo,sd,sr] 176)) #[(0:Int),(0:Int),(0:Int),(0:Int),(0:Int),(0:Int),(0:Int),(0:Int),(0:Int),(0:Int),(0:Int),(0:Int),.bool false,.bool false,(0:Int),(0:Int),(0:Int),(0:Int),(0:Int)] 176 _ rfl;have B0:Below w.heap.size w ((w.alloc (.cells #[k0,fn0,pc0,r0,r1,r2,r3,r4,r5,r6,r7,pa,.bool di,.bool du,ix,sg,fo,sd,sr] 176)).alloc (.cells #[(0:Int),(0:Int),(0:Int),(0:Int),(0:Int),(0:Int),(0:Int),(0:Int),(0:Int),(0:Int),(0:Int),(0:Int),.bool false,.bool false,(0:Int),(0:Int),(0:Int),(0:Int),(0:Int)] 176)):=(Ba _).alloc U8 _;rw[World.size_alloc]at g2;generalize(w.alloc (.cells #[k0,fn0,pc0,r0,r1,r2,r3,r4,r5,r6,r7,pa,.bool di,.bool du,ix,sg,fo,sd,sr] 176)).alloc (.cells #[(0:Int),(0:Int),(0:Int),(0:Int),(0:Int),(0:Int),(0:Int),(0:Int),(0:Int),(0:Int),(0:Int),(0:Int),.bool false,.bool false,(0:Int),(0:Int),(0:Int),(0:Int),(0:Int)] 176)=W at*;generalize hg:w.heap.size=g at*;have x1:=g1.c1;have x17:=g1.c17;have x3:=g1.c3
 have x4:=g1.c4;have x5:=g1.c5;have x6:=g1.c6;have x7:=g1.c7;have x8:=g1.c8;have x9:=g1.c9;have x10:=g1.c10
 go_wp2_with (first|(refine aQ rfl 176 (.tmp 4) (.tmp 12) rfl (g+1) #[(0:Int),(0:Int),(0:Int),(0:Int),(0:Int),(0:Int),(0:Int),(0:Int),(0:Int),(0:Int),(0:Int),(0:Int),.bool false,.bool false,(0:Int),(0:Int),(0:Int),(0:Int),(0:Int)] #[(2:Int),fn0,(0:Int),r0,r1,r2,r3,r4,r5,r6,r7,Sq,.bool false,.bool false,sd,(0:Int),(0:Int),(0:Int),(0:Int)] 176 g2 rfl rfl dm rfl U17 ?_;intro w2 b2 k2))
 have hl:=run_loadVar_row w2 (g+1) 176 176 _ (0,0) _ b2 underlying176 rfl dm;refine bodyPost_ret (v:=.agg _) (by simp[results,results247,Act.put,asAddr,hl]) rfl ⟨rfl,by rw[hg];exact B0.trans (k2.below (λk z=>by unfold One at z;omega) U110)⟩
theorem sQ(f:Fr)(Sq:Int)(w:World):
  Calls prog 247 #[f.v,Sq] w λev w'=>ev=.returned (f.iter Sq).v/\Below w.heap.size w w':=by
 obtain⟨k0,fn0,pc0,⟨r0,r1,r2,r3,r4,r5,r6,r7⟩,pa,di,du,ix,sg,fo,sd,sr⟩:=f
 exact vQ k0 fn0 pc0 r0 r1 r2 r3 r4 r5 r6 r7 pa di du ix sg fo sd sr Sq w
end Go.Proofs.YteiignfflbmafaaGreat.Tp
