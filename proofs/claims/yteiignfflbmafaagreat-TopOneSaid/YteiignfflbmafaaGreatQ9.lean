/- TopOne, part 9. -/
import Derived.Test.YteiignfflbmafaaGreatQ8
import Derived.Deep.MidRow
set_option linter.unusedVariables false
set_option linter.unusedSimpArgs false
set_option maxRecDepth 100000
set_option maxHeartbeats 8000000
namespace Go.Proofs.YteiignfflbmafaaGreat.Tp
open Go.Proofs.Tryz
open Go.RowKit Go.Proofs.YteiignfflbmafaaGreat.Tok
variable {z:Lay} {l:List WS} {k:Nat} {w:World} {m:Co} {x:WS}
theorem Us41 {p:Prop} (h:p:=by
 refine pz ?_;refine wpAnyH_done U7 ?_ _;go_wp2_with fail
 (try simp only[Exit.inBlock,Exit.then]);refine bodyPost_ret (results_none rfl _ _ _) rfl ?_
 exact⟨rfl,H2⟩):p:=h
theorem hT{P:Program}{md:Region.Mode}{ops:Array Oper}{Q:Exit->Act->World->Prop}{S:World->Prop}(i:Nat){oi:Oper}(v:Value){fuel:Nat}{listed:Array Bool}{a:Act}{w:World}(hi:ops[i]? =some oi)
  (hb:(Region.noSelect ops&&Region.free md ops listed i&&(Region.ready md ops listed).contains i)=true) (hQ:∀c a w,Q (.panic c) (a.put oi.dst v) w->Q (.panic c) a w)
  (hw:Region.wanted oi (yielded ops a.tmps)=true) (hy:∀w,S w->(execOp a.eval oi).run P w=.ok (.value v) w) (hS:S w)
  (h:wpAnyH P md ops Q S fuel (listed.setIfInBounds i true) (a.put oi.dst v) w):wpAnyH P md ops Q S (fuel+1) listed a w:=by
 rw[Bool.and_eq_true,Bool.and_eq_true]at hb
 exact wpAnyH_take hi hb.1.1 hb.1.2 hb.2 hQ (Or.inl ⟨hw,hy⟩) hS h
theorem hN{P:Program}{md:Region.Mode}{ops:Array Oper}{Q:Exit->Act->World->Prop}{S:World->Prop}(i:Nat){oi:Oper}{fuel:Nat}{listed:Array Bool}{a:Act}{w:World}(hi:ops[i]? =some oi)
  (hb:(Region.noSelect ops&&Region.free md ops listed i&&(Region.ready md ops listed).contains i)=true) (hQ:∀c a w,Q (.panic c) (a.put oi.dst undef) w->Q (.panic c) a w)
  (hw:Region.wanted oi (yielded ops a.tmps)=false) (hS:S w)
  (h:wpAnyH P md ops Q S fuel (listed.setIfInBounds i true) (a.put oi.dst undef) w):wpAnyH P md ops Q S (fuel+1) listed a w:=by
 rw[Bool.and_eq_true,Bool.and_eq_true]at hb
 exact wpAnyH_take hi hb.1.1 hb.1.2 hb.2 hQ (Or.inr ⟨hw,rfl⟩) hS h
theorem pz{p q:Prop}(k:q)(h:q->p:=by intro x;(try simp only[List.getElem_toArray,List.getElem_cons_zero,List.getElem_cons_succ,Act.put,List.setIfInBounds_toArray,List.set_cons_zero,List.set_cons_succ]);exact x):p:=h k
theorem hU{P:Program}{md:Region.Mode}{ops:Array Oper}{Q:Exit->Act->World->Prop}{S:World->Prop}(i:Nat){oi:Oper}{v:Value}{fuel:Nat}{listed:Array Bool}{a:Act}{w:World}
  (h:wpAnyH P md ops Q S fuel (listed.setIfInBounds i true) (a.put oi.dst v) w) (hi:ops[i]? =some oi:=by rfl)
  (hb:(Region.noSelect ops&&Region.free md ops listed i&&(Region.ready md ops listed).contains i)=true:=by kernel_rfl) (hQ:∀c a w,Q (.panic c) (a.put oi.dst v) w->Q (.panic c) a w:=by exact λ_ _ _ h=>h)
  (hw:Region.wanted oi (yielded ops a.tmps)=true:=by rfl) (hy:∀w,S w->(execOp a.eval oi).run P w=.ok (.value v) w:=by intro w hSw;(try dsimp only at hSw);(try go_split_ands);go_simp<;>with_reducible rfl) (hS:S w:=by assumption):wpAnyH P md ops Q S (fuel+1) listed a w:=hT i v hi hb hQ hw hy hS h
theorem hM{P:Program}{md:Region.Mode}{ops:Array Oper}{Q:Exit->Act->World->Prop}{S:World->Prop}(i:Nat){oi:Oper}{fuel:Nat}{listed:Array Bool}{a:Act}{w:World}
  (h:wpAnyH P md ops Q S fuel (listed.setIfInBounds i true) (a.put oi.dst undef) w) (hi:ops[i]? =some oi:=by rfl)
  (hb:(Region.noSelect ops&&Region.free md ops listed i&&(Region.ready md ops listed).contains i)=true:=by kernel_rfl) (hQ:∀c a w,Q (.panic c) (a.put oi.dst undef) w->Q (.panic c) a w:=by exact λ_ _ _ h=>h)
  (hw:Region.wanted oi (yielded ops a.tmps)=false:=by rfl) (hS:S w:=by assumption):wpAnyH P md ops Q S (fuel+1) listed a w:=hN i hi hb hQ hw hS h
theorem hA{P:Program}{md:Region.Mode}{ops:Array Oper}{Q:Exit->Act->World->Prop}{S:World->Prop}{fuel:Nat}{listed:Array Bool}{a:Act}{w:World}{i:Nat}{o:Oper}
  (h:∀K':Act->World->Prop,Go.Shut (∀a w,S w->(S w->wpAnyH P md ops Q S fuel (listed.setIfInBounds i true) a w)->K' a w)->if Region.wanted o (yielded ops a.tmps)=true then Oper.wp P o a w K' Q else K' (a.put o.dst undef) w) (ho:ops[i]? =some o:=by rfl):AllReadyH P md ops Q S fuel listed a w [i]:=AllReadyH.cons ho h AllReadyH.nil
theorem Kept.range{S:Nat->Prop}{w w':World}(K:Kept S w w'){b o:Nat}{cs:List Value}(hb:b<w.heap.size)(hs:¬S b)(h:w.rangeAt b o cs):w'.rangeAt b o cs:=λj v e=>kk K hb hs (h j v e)
theorem af.range{w:World}{b:Nat}{cs:List Value}{t:TypeId}(h:af w b cs.toArray t):w.rangeAt b 0 cs:=λj v e=>by
 rw[Nat.zero_add,h.cell]
 simpa using e
theorem Co.uO(m:Co)(a b:Int)(i:Nat):(m.stop a b).fr i=m.fr i:=by unfold Co.stop;split<;>rfl
theorem Co.uP(m:Co)(a b:Int)(i:Nat):(m.stop a b).ok i↔m.ok i:=by unfold Co.stop;split<;>exact Iff.rfl
theorem Co.dE{m:Co}{i:Nat}{f:Fr}(_:m.ok i)(h:i<m.aJ.length):(m.ak i f).fr i=f:=by simp[Co.ak,Co.fr,List.getD,h]
theorem A1.iB(h:A1 z l k w m x)(i:Nat)(hi:m.ok i):i<m.aJ.length:=by
 obtain⟨bk,ov,gv,g,R,hk,W,C⟩:=h.parts
 have:=hi.2.1;have:=C.hlen;omega
def Lay.five(z:Lay):Nat->Prop:=λk=>k=z.a∨k=z.hl∨k=z.fr∨k=z.wd
theorem A1.Qq(h:A1 z l k w m x)(f:Fr)(ha:m.gG)(i:Nat)(B:List Nat)(n:Nat)(hp:m.pick=some (i,B,n)):Cs 86 #[ptr z.t,f.v] w (.tuple #[i,.bool true]) λw'=>A1 z l k w' (m.made i B n f) x/\Kept z.five w w':=by
 obtain⟨bk,ov,gv,g,R,hk,W,C⟩:=h.parts;refine(qV f w (z.y bk ov gv) m C ha i B n hp).mono λe w' ⟨e1,v,C',F,K⟩=>⟨e1,A1.fC h.1 R K (λb q=>?_) _ v ov gv C' (λb q=>?_),K⟩
 ·rcases q with q|q|q|q<;>(subst q;simp[Ly.has,Lay.y])
 ·unfold Ly.has Lay.y at q⊢
  dsimp only at q⊢;rw[F]at q
  exact Or.inl q
theorem A1.five(h:A1 z l k w m x)(b:Nat)(hb:w.heap.size<=b):¬z.five b:=by
 obtain⟨bk,ov,gv,g,R,hk,W,C⟩:=h.parts;have h1:=C.arena.lt;have h2:=C.Sj.lt;have h3:=C.frames.lt;have h4:=C.RY.ws.lt;rintro(e|e|e|e)
 ·subst e;exact absurd h1 U81
 ·subst e;exact absurd h2 U81
 ·subst e;exact absurd h3 U81
 ·subst e;exact absurd h4 U81
theorem A1.lZ(F:Fr)(h:A1 z l k w m x)(ha:m.gG)(i:Nat)(B:List Nat)(n:Nat)(hp:m.pick=some (i,B,n)):Cs 246 #[ptr (z.wq k),ptr z.c,F.v] w (.tuple #[i,.bool true]) λw'=>A1 z l k w' (m.made i B n F) x:=by
 have c1:=Hd (λw (h:A1 z l k w m x)=>h.dZ);have c2:=Hd (λw (h:A1 z l k w m x)=>h.Qq F ha i B n hp);have c3:=Hd (λw (h:A1 z l k w m x)=>h.jR 5 1);have ns:=h.five w.heap.size nr;unfold Fr.v at c2⊢;have hlen:F.cells.length=19:=rfl;generalize F.cells=cs at*;have hsz:(prog.info? 176).map (·.size)=some cs.length:=by rw[hlen];exact dm
 have HSZ:=Hd hsz;have bg:=(af.new w cs.toArray 176 _ rfl);have br:=bg.range;have lg:=bg.lt;have H0:=Hd (h.alloc (.cells cs.toArray 176));have hl:=λ(W:World)(g:Nat)(q:W.rangeAt g 0 cs)=>run_loadAt_mid W g 0 176 cs _ q underlying176 rfl HSZ.o;clear h ha hp hlen hsz bg;generalize m.made i B n F=M at*;go_enter func246,ntmps246;go_upto_region 1 with fail;generalize w.alloc (.cells cs.toArray 176)=W at*;generalize w.heap.size=g at*;refine wp_region_held_drew (S:=(λw'=>w'.rangeAt g 0 cs)) U7 ?_ (λhHeld=>?_)
 ·exact U123
 refine wpAnyH_take (i:=2) (oi:=_) (v:=_) rfl U7 U7 U7 (λ_ _ _ h=>h) (yieldsIf_load_mid (by rfl) _ _ rfl _ _ rfl _ _ (λw q=>q) underlying176 rfl HSZ.o) U6 ?_;refine pz ?_;refine hU 0 ?_;refine pz ?_;refine wpAnyH_ready (rs:=[1]) U7 U8 ?_;refine hA (λK hK=>?_)
 go_simp
 (go_at_call 34;refine(c1.o _ U4).r ?_)
 refine hK.o _ _ ?_ (λhHeld=>?_)
 ·exact U123
 clear hK K;refine pz ?_;refine wpAnyH_ready (rs:=[3]) U7 U8 ?_;refine hA (λK hK=>?_)
 go_simp
 (go_at_call 86;refine(c2.o _ U4).mono ?_;rintro ev w2 ⟨rfl,H2,k2⟩)
 refine hK.o _ _ ?_ (λhHeld=>?_)
 ·exact U123
 clear hK K;refine pz ?_;refine hU 4 ?_;refine hU 5 ?_;refine pz ?_;refine hU 6 ?_;refine hU 7 ?_;refine hU 8 ?_;refine pz ?_;refine wpAnyH_done U7 ?_ _;go_wp2_with fail
 go_ret2
 exact⟨rfl,H2⟩
theorem A1.lY(F:Fr)(h:A1 z l k w m x)(ha:m.gG)(hp:m.pick=none):Cs 246 #[ptr (z.wq k),ptr z.c,F.v] w (.tuple #[(0:Int),.bool false]) λw'=>A1 z l k w' (m.stop 5 1) x:=by
 have c1:=Hd (λw (h:A1 z l k w m x)=>h.dZ);have c2:=Hd (λw (h:A1 z l k w m x)=>h.FZ F ha hp);have c3:=Hd (λw (h:A1 z l k w m x)=>h.jR 5 1);have ns:=h.five w.heap.size nr;unfold Fr.v at c2⊢;have hlen:F.cells.length=19:=rfl;generalize F.cells=cs at*;have hsz:(prog.info? 176).map (·.size)=some cs.length:=by rw[hlen];exact dm
 have HSZ:=Hd hsz;have bg:=(af.new w cs.toArray 176 _ rfl);have br:=bg.range;have lg:=bg.lt;have H0:=Hd (h.alloc (.cells cs.toArray 176));have hl:=λ(W:World)(g:Nat)(q:W.rangeAt g 0 cs)=>run_loadAt_mid W g 0 176 cs _ q underlying176 rfl HSZ.o;clear h ha hp hlen hsz bg;generalize m.stop 5 1=M at*;go_enter func246,ntmps246;go_upto_region 1 with fail;generalize w.alloc (.cells cs.toArray 176)=W at*;generalize w.heap.size=g at*;refine wp_region_held_drew (S:=(λw'=>w'.rangeAt g 0 cs)) U7 ?_ (λhHeld=>?_)
 ·exact U121
 refine wpAnyH_take (i:=2) (oi:=_) (v:=_) rfl U7 U7 U7 (λ_ _ _ h=>h) (yieldsIf_load_mid (by rfl) _ _ rfl _ _ rfl _ _ (λw q=>q) underlying176 rfl HSZ.o) U6 ?_;refine pz ?_;refine hU 0 ?_;refine pz ?_;refine wpAnyH_ready (rs:=[1]) U7 U8 ?_;refine hA (λK hK=>?_)
 go_simp
 (go_at_call 34;refine(c1.o _ U4).r ?_)
 refine hK.o _ _ ?_ (λhHeld=>?_)
 ·exact U121
 clear hK K;refine pz ?_;refine wpAnyH_ready (rs:=[3]) U7 U8 ?_;refine hA (λK hK=>?_)
 go_simp
 (go_at_call 86;refine(c2.o _ U4).q λw2 hb2=> ?_)
 refine hK.o _ _ ?_ (λhHeld=>?_)
 ·exact U121
 clear hK K;refine pz ?_;refine hU 4 ?_;refine hU 5 ?_;refine pz ?_;refine hU 6 ?_;refine hU 7 ?_;refine hU 8 ?_;refine pz ?_;refine wpAnyH_done U7 ?_ _;have H2:=H0.o.drew.ai hb2
 go_wp2_with (go_at_call 138;refine(c3.o _ H2).q λw3 H3=> ?_)
 go_ret2
 exact⟨rfl,H3⟩
theorem A1.dD(h:A1 z l k w m x)(i:Nat)(hi:m.ok i):w.rangeAt z.fr (19*i) (m.fr i).cells:=λj v e=>
 h.frame i hi j (by have:=(List.getElem?_eq_some_iff.1 e).1;exact this) v e
theorem Co.dH(m:Co)(i:Nat)(a b:Fr):(m.ak i a).ak i b=m.ak i b:=by simp[Co.ak,List.set_set]
theorem Co.kT{m:Co}{j:Nat}{B:List Nat}{n:Nat}{F:Fr}{i:Nat}(hi:m.ok i):(m.made j B n F).ok i:=by
 refine⟨hi.1,?_,?_⟩
 ·show i<(m.Sj.set j true).length
  rw[List.length_set];exact hi.2.1
 ·show(m.Sj.set j true).getD i false=true
  by_cases e:j=i
  ·subst e;simp[List.getD,hi.2.1]
  ·have q:=hi.2.2
   simp only[List.getD]at q⊢;rw[List.getElem?_set_ne e];exact q
theorem Co.kS{m:Co}{j:Nat}{B:List Nat}{n:Nat}{F:Fr}{i:Nat}(hi:j≠i):(m.made j B n F).fr i=m.fr i:=by
 show(m.aJ.set j F).getD i aM=m.aJ.getD i aM
 simp only[List.getD];rw[List.getElem?_set_ne hi]
theorem A1.zu(h:A1 z l k w m x)(i:Nat)(pc fn:Int)(hi:m.ok i)(hx:x.Sa=i)(ha:m.gG)(j:Nat)(B:List Nat)(n:Nat)(hp:m.pick=some (j,B,n))(hj:j≠i):Cs 220 #[ptr (z.wq k),ptr z.c,.pointer (some ⟨z.fr,19*i,none⟩),pc,fn] w (.tuple #[]) λw'=>A1 z l k w' (((m).made j B n ((m.fr i).child i fn)).ak i {m.fr i with pc:=pc,az:=true}) {x with other:=j,R8:=6}:=by
 have HI:=Hd hi;have FS0:=Hd (λw (h:A1 z l k w m x)=>(⟨h.dD i hi,h.cell 2 _ U21⟩:w.rangeAt z.fr (19*i) (m.fr i).cells/\w.cell? ⟨z.wq k,2,none⟩=some ↑i));have FS:=Hd (λw (h:A1 z l k w m x)=>(⟨h.dD i hi,h.cell 2 _ U21⟩:w.rangeAt z.fr (19*i) (m.fr i).cells/\w.cell? ⟨z.wq k,2,none⟩=some ↑i));have FM:=Hd (λw (h:A1 z l k w ((m).made j B n ((m.fr i).child i fn)) x)=>(⟨Co.kS (m:=m) hj▸h.dD i (Co.kT hi),h.cell 2 _ U21⟩:w.rangeAt z.fr (19*i) (m.fr i).cells/\w.cell? ⟨z.wq k,2,none⟩=some ↑i));have c1:=Hd (λw=>qy (m.fr i) i fn w);have c2:=Hd (λw (h:A1 z l k w m x)=>A1.lZ ((m.fr i).child i fn) h ha j B n hp);have FF:=Hd (λw (h:A1 z l k w ((m).made j B n ((m.fr i).child i fn)) x)=>h);have HM:(((m).made j B n ((m.fr i).child i fn))).fr i=m.fr i:=Co.kS (m:=m) hj;have HO:(((m).made j B n ((m.fr i).child i fn))).ok i:=Co.kT hi;have G:=Hd (λw (h:A1 z l k w ((m).made j B n ((m.fr i).child i fn)) x)=>(⟨h.frame i HO 2 U0 _ U78,h.frame i HO 12 U0 _ U78,h.cell 7 _ rfl,h.cell 1 _ rfl,h.fz,h.sM,h.oN⟩:w.cell? ⟨z.fr,19*i+2,none⟩=some (.int .i64 (m.fr i).pc)/\w.cell? ⟨z.fr,19*i+12,none⟩=some (.bool (m.fr i).az)/\w.cell? ⟨z.wq k,7,none⟩=some ↑x.other/\w.cell? ⟨z.wq k,1,none⟩=some ↑x.R8/\(∀j,w.frozen? ⟨z.wq k,j,none⟩=false)/\(∀j,w.frozen? ⟨z.fr,j,none⟩=false)/\¬z.wq k=z.fr/\¬z.fr=z.wq k));have G2:=Hd (λw (h:A1 z l k w ((m).made j B n ((m.fr i).child i fn)) x)=>(Co.dH ((m).made j B n ((m.fr i).child i fn)) i {m.fr i with pc:=pc} {m.fr i with pc:=pc,az:=true}▸(((h.aF i HO 2 U0 ↑pc {m.fr i with pc:=pc} U78).aF i HO 12 U0 (.bool true) {m.fr i with pc:=pc,az:=true} (by rw[Co.dE HO (h.iB i HO)];rfl)).set 7 ↑j {x with other:=j} ⟨rfl,rfl,rfl,rfl,rfl⟩ (λ_ _ _ _ _ _=>rfl)).set 1 (.int .i64 6) {x with other:=j,R8:=6} ⟨rfl,rfl,rfl,rfl,rfl⟩ (λ_ _ _ _ _ _=>rfl):A1 z l k ((((w.setCell ⟨z.fr,19*i+2,none⟩ ↑pc).setCell ⟨z.fr,19*i+12,none⟩ (.bool true)).setCell ⟨z.wq k,7,none⟩ ↑j).setCell ⟨z.wq k,1,none⟩ (.int .i64 6)) (((m).made j B n ((m.fr i).child i fn)).ak i {m.fr i with pc:=pc,az:=true}) {x with other:=j,R8:=6}))
 have H0:=Hd h;clear h ha hp hx HM HO hj;have HSZ:=Hd (show(prog.info? 176).map (·.size)=some ((m.fr i).cells).length from dm);clear hi;unfold Fr.v at c1 c2;generalize((m).made j B n ((m.fr i).child i fn)).ak i {m.fr i with pc:=pc,az:=true}=M2 at*;generalize((m).made j B n ((m.fr i).child i fn))=M at*;generalize((m.fr i).child i fn).cells=cv at*;generalize(m.fr i).cells=cs at*;generalize 19*i=I at*;go_enter func220,ntmps220;go_upto_region 0 with fail;refine wp_region_held_drew (S:=(λw'=>w'.rangeAt z.fr I cs/\w'.cell? ⟨z.wq k,2,none⟩=some ↑i)) U7 ?_ (λhHeld=>?_)
 ·exact U117
 refine hU 0 ?_;refine hU 1 ?_;refine hU 2 ?_;refine pz ?_;refine hU 3 ?_;refine wpAnyH_take (i:=4) (oi:=_) (v:=_) rfl U7 U7 U7 (λ_ _ _ h=>h) (yieldsIf_load_mid (by rfl) _ _ rfl _ _ rfl _ _ (λw q=>q.1) underlying176 rfl HSZ.o) U6 ?_;refine pz ?_;refine hU 5 ?_;refine hU 6 ?_;refine pz ?_;refine hU 7 ?_;refine hU 8 ?_;refine hU 9 ?_;refine pz ?_;refine wpAnyH_ready (rs:=[10]) U7 U8 ?_;refine hA (λK hK=>?_)
 go_simp
 (go_at_call 265;refine(c1.o _).q λw1 Sr=> ?_;have H1:=H0.o.drew.ai Sr)
 refine hK.o _ _ ?_ (λhHeld=>?_)
 ·exact U117
 clear hK K;refine pz ?_;refine wpAnyH_ready (rs:=[11]) U7 U8 ?_;refine hA (λK hK=>?_)
 go_simp
 (go_at_call 246;refine(c2.o _ H1).q λw2 H2=> ?_)
 refine hK.o _ _ ?_ (λhHeld=>?_)
 ·exact U117
 clear hK K;refine pz ?_;refine hU 12 ?_;refine hU 13 ?_;refine hU 14 ?_;refine pz ?_;refine hU 15 ?_;refine hU 16 ?_;refine pz ?_;refine wpAnyH_done U7 ?_ _;obtain⟨y2,y12,y7,y1,z1,z2,n1,n2⟩:=G.out w2 H2;have H4:=G2.out w2 H2;go_wp2_with fail
 go_end0
 exact⟨rfl,H4⟩
theorem A1.zt(h:A1 z l k w m x)(i:Nat)(pc fn:Int)(hi:m.ok i)(hx:x.Sa=i)(ha:m.gG)(hp:m.pick=none):Cs 220 #[ptr (z.wq k),ptr z.c,.pointer (some ⟨z.fr,19*i,none⟩),pc,fn] w (.tuple #[]) λw'=>A1 z l k w' ((m).stop 5 1) x:=by
 have HI:=Hd hi;have FS0:=Hd (λw (h:A1 z l k w m x)=>(⟨h.dD i hi,h.cell 2 _ U21⟩:w.rangeAt z.fr (19*i) (m.fr i).cells/\w.cell? ⟨z.wq k,2,none⟩=some ↑i));have FS:=Hd (λw (h:A1 z l k w m x)=>(⟨h.dD i hi,h.cell 2 _ U21⟩:w.rangeAt z.fr (19*i) (m.fr i).cells/\w.cell? ⟨z.wq k,2,none⟩=some ↑i));have FM:=Hd (λw (h:A1 z l k w ((m).stop 5 1) x)=>(⟨(Co.uO m 5 1 i)▸h.dD i ((Co.uP m 5 1 i).2 hi),h.cell 2 _ U21⟩:w.rangeAt z.fr (19*i) (m.fr i).cells/\w.cell? ⟨z.wq k,2,none⟩=some ↑i));have c1:=Hd (λw=>qy (m.fr i) i fn w);have c2:=Hd (λw (h:A1 z l k w m x)=>A1.lY ((m.fr i).child i fn) h ha hp);have H0:=Hd h;clear h ha hp hx;have HSZ:=Hd (show(prog.info? 176).map (·.size)=some ((m.fr i).cells).length from dm);clear hi;unfold Fr.v at c1 c2;generalize((m).stop 5 1)=M at*;generalize((m.fr i).child i fn).cells=cv at*;generalize(m.fr i).cells=cs at*;generalize 19*i=I at*;go_enter func220,ntmps220;go_upto_region 0 with fail;refine wp_region_held_drew (S:=(λw'=>w'.rangeAt z.fr I cs/\w'.cell? ⟨z.wq k,2,none⟩=some ↑i)) U7 ?_ (λhHeld=>?_)
 ·exact U117
 refine hU 0 ?_;refine pz ?_;refine hU 1 ?_;refine hU 2 ?_;refine hU 3 ?_;refine pz ?_;refine wpAnyH_take (i:=4) (oi:=_) (v:=_) rfl U7 U7 U7 (λ_ _ _ h=>h) (yieldsIf_load_mid (by rfl) _ _ rfl _ _ rfl _ _ (λw q=>q.1) underlying176 rfl HSZ.o) U6 ?_;refine pz ?_;refine hU 5 ?_;refine hU 6 ?_;refine hU 7 ?_;refine pz ?_;refine hU 8 ?_;refine hU 9 ?_;refine pz ?_;refine wpAnyH_ready (rs:=[10]) U7 U8 ?_;refine hA (λK hK=>?_)
 go_simp
 (go_at_call 265;refine(c1.o _).q λw1 Sr=> ?_;have H1:=H0.o.drew.ai Sr)
 refine hK.o _ _ ?_ (λhHeld=>?_)
 ·exact U117
 clear hK K;refine pz ?_;refine wpAnyH_ready (rs:=[11]) U7 U8 ?_;refine hA (λK hK=>?_)
 go_simp
 (go_at_call 246;refine(c2.o _ H1).q λw2 H2=> ?_)
 refine hK.o _ _ ?_ (λhHeld=>?_)
 ·exact U117
 clear hK K;refine pz ?_;refine hU 12 ?_;refine pz ?_;refine hU 13 ?_;refine hU 14 ?_;refine hU 15 ?_;refine pz ?_;refine hU 16 ?_
 exact Us41
theorem A1.zB(h:A1 z l k w m x)(i:Nat)(pc fn:Int)(hi:m.ok i)(hx:x.Sa=i)(ha:m.gG)(j:Nat)(B:List Nat)(n:Nat)(hp:m.pick=some (j,B,n))(hj:j≠i):Cs 221 #[ptr (z.wq k),ptr z.c,.pointer (some ⟨z.fr,19*i,none⟩),pc,fn] w (.tuple #[]) λw'=>A1 z l k w' ((({m with ae:=wrap64 (m.ae+1)}).made j B n ((m.fr i).loop i fn (wrap64 (m.ae+1)))).ak i {m.fr i with pc:=pc}) {x with Sa:=j,R8:=19}:=by
 have HI:=Hd hi;have FS0:=Hd (λw (h:A1 z l k w m x)=>(⟨h.dD i hi,h.cell 2 _ U21⟩:w.rangeAt z.fr (19*i) (m.fr i).cells/\w.cell? ⟨z.wq k,2,none⟩=some ↑i));have FS:=Hd (λw (h:A1 z l k w {m with ae:=wrap64 (m.ae+1)} x)=>(⟨h.dD i (show({m with ae:=wrap64 (m.ae+1)}).ok i from hi),h.cell 2 _ U21⟩:w.rangeAt z.fr (19*i) (m.fr i).cells/\w.cell? ⟨z.wq k,2,none⟩=some ↑i));have FM:=Hd (λw (h:A1 z l k w (({m with ae:=wrap64 (m.ae+1)}).made j B n ((m.fr i).loop i fn (wrap64 (m.ae+1)))) x)=>(⟨Co.kS (m:={m with ae:=wrap64 (m.ae+1)}) hj▸h.dD i (Co.kT (show({m with ae:=wrap64 (m.ae+1)}).ok i from hi)),h.cell 2 _ U21⟩:w.rangeAt z.fr (19*i) (m.fr i).cells/\w.cell? ⟨z.wq k,2,none⟩=some ↑i));have c0:=Hd (λw (h:A1 z l k w m x)=>h.zP);have c1:=Hd (λw=>sU (m.fr i) i fn (wrap64 (m.ae+1)) w);have c2:=Hd (λw (h:A1 z l k w {m with ae:=wrap64 (m.ae+1)} x)=>A1.lZ ((m.fr i).loop i fn (wrap64 (m.ae+1))) h (show({m with ae:=wrap64 (m.ae+1)}).gG from ha) j B n (show({m with ae:=wrap64 (m.ae+1)}).pick=_ from hp));have c5:=Hd (λw (h:A1 z l k w ((({m with ae:=wrap64 (m.ae+1)}).made j B n ((m.fr i).loop i fn (wrap64 (m.ae+1)))).ak i {m.fr i with pc:=pc}) x)=>h.uT j);have FF:=Hd (λw (h:A1 z l k w (({m with ae:=wrap64 (m.ae+1)}).made j B n ((m.fr i).loop i fn (wrap64 (m.ae+1)))) x)=>h);have HM:((({m with ae:=wrap64 (m.ae+1)}).made j B n ((m.fr i).loop i fn (wrap64 (m.ae+1))))).fr i=m.fr i:=Co.kS (m:={m with ae:=wrap64 (m.ae+1)}) hj;have HO:((({m with ae:=wrap64 (m.ae+1)}).made j B n ((m.fr i).loop i fn (wrap64 (m.ae+1))))).ok i:=Co.kT (show({m with ae:=wrap64 (m.ae+1)}).ok i from hi)
 have G:=Hd (λw (h:A1 z l k w (({m with ae:=wrap64 (m.ae+1)}).made j B n ((m.fr i).loop i fn (wrap64 (m.ae+1)))) x)=>(⟨h.frame i HO 2 U0 _ U78,h.sM⟩:w.cell? ⟨z.fr,19*i+2,none⟩=some (.int .i64 (m.fr i).pc)/\(∀j,w.frozen? ⟨z.fr,j,none⟩=false)));have G2:=Hd (λw (h:A1 z l k w (({m with ae:=wrap64 (m.ae+1)}).made j B n ((m.fr i).loop i fn (wrap64 (m.ae+1)))) x)=>(h.aF i HO 2 U0 ↑pc {m.fr i with pc:=pc} U78:A1 z l k (w.setCell ⟨z.fr,19*i+2,none⟩ ↑pc) ((({m with ae:=wrap64 (m.ae+1)}).made j B n ((m.fr i).loop i fn (wrap64 (m.ae+1)))).ak i {m.fr i with pc:=pc}) x));have H0:=Hd h;clear h ha hp hx HM HO hj;have HSZ:=Hd (show(prog.info? 176).map (·.size)=some ((m.fr i).cells).length from dm);clear hi;unfold Fr.v at c1 c2;generalize(({m with ae:=wrap64 (m.ae+1)}).made j B n ((m.fr i).loop i fn (wrap64 (m.ae+1)))).ak i {m.fr i with pc:=pc}=M2 at*;generalize(({m with ae:=wrap64 (m.ae+1)}).made j B n ((m.fr i).loop i fn (wrap64 (m.ae+1))))=M at*;generalize((m.fr i).loop i fn (wrap64 (m.ae+1))).cells=cv at*;generalize(m.fr i).cells=cs at*;generalize wrap64 (m.ae+1)=sv at*;generalize 19*i=I at*;go_enter func221,ntmps221;go_upto_region 0 with fail;refine wp_region_held_drew (S:=(λw'=>w'.rangeAt z.fr I cs/\w'.cell? ⟨z.wq k,2,none⟩=some ↑i)) U7 ?_ (λhHeld=>?_)
 ·exact U117
 refine hU 0 ?_;refine hU 1 ?_;refine pz ?_;refine hU 2 ?_;refine hU 3 ?_;refine wpAnyH_take (i:=4) (oi:=_) (v:=_) rfl U7 U7 U7 (λ_ _ _ h=>h) (yieldsIf_load_mid (by rfl) _ _ rfl _ _ rfl _ _ (λw q=>q.1) underlying176 rfl HSZ.o) U6 ?_;refine pz ?_;refine hU 5 ?_;refine pz ?_;refine hU 6 ?_;refine hU 7 ?_;refine hU 8 ?_;refine pz ?_;refine hU 9 ?_;refine hU 10 ?_;refine pz ?_;refine wpAnyH_ready (rs:=[11]) U7 U8 ?_;refine hA (λK hK=>?_)
 go_simp
 (go_at_call 267;refine(c0.o _ U4).q λw0 H1=> ?_)
 refine hK.o _ _ ?_ (λhHeld=>?_)
 ·exact U117
 clear hK K;refine pz ?_;refine wpAnyH_ready (rs:=[12]) U7 U8 ?_;refine hA (λK hK=>?_)
 go_simp
 (go_at_call 266;refine(c1.o _).q λw1 Sr=> ?_;replace H1:=H1.ai Sr)
 refine hK.o _ _ ?_ (λhHeld=>?_)
 ·exact U117
 clear hK K;refine pz ?_;refine wpAnyH_ready (rs:=[13]) U7 U8 ?_;refine hA (λK hK=>?_)
 go_simp
 (go_at_call 246;refine(c2.o _ H1).q λw2 H2=> ?_)
 refine hK.o _ _ ?_ (λhHeld=>?_)
 ·exact U117
 clear hK K;refine pz ?_;refine hU 14 ?_;refine pz ?_;refine hU 15 ?_;refine hU 16 ?_;refine hU 17 ?_;refine pz ?_;refine hU 18 ?_;refine pz ?_;refine wpAnyH_done U7 ?_ _;obtain⟨y2,z2⟩:=G.out w2 H2;have H4:=G2.out w2 H2
 go_wp2_with (go_at_call 211;refine(c5.o _ (by first|exact H4|exact H4.drew)).q λw5 H5=> ?_)
 go_end0
 exact⟨rfl,H5⟩
theorem A1.zA(h:A1 z l k w m x)(i:Nat)(pc fn:Int)(hi:m.ok i)(hx:x.Sa=i)(ha:m.gG)(hp:m.pick=none):Cs 221 #[ptr (z.wq k),ptr z.c,.pointer (some ⟨z.fr,19*i,none⟩),pc,fn] w (.tuple #[]) λw'=>A1 z l k w' (({m with ae:=wrap64 (m.ae+1)}).stop 5 1) x:=by
 have HI:=Hd hi;have FS0:=Hd (λw (h:A1 z l k w m x)=>(⟨h.dD i hi,h.cell 2 _ U21⟩:w.rangeAt z.fr (19*i) (m.fr i).cells/\w.cell? ⟨z.wq k,2,none⟩=some ↑i));have FS:=Hd (λw (h:A1 z l k w {m with ae:=wrap64 (m.ae+1)} x)=>(⟨h.dD i (show({m with ae:=wrap64 (m.ae+1)}).ok i from hi),h.cell 2 _ U21⟩:w.rangeAt z.fr (19*i) (m.fr i).cells/\w.cell? ⟨z.wq k,2,none⟩=some ↑i));have FM:=Hd (λw (h:A1 z l k w (({m with ae:=wrap64 (m.ae+1)}).stop 5 1) x)=>(⟨(Co.uO {m with ae:=wrap64 (m.ae+1)} 5 1 i)▸h.dD i ((Co.uP {m with ae:=wrap64 (m.ae+1)} 5 1 i).2 (show({m with ae:=wrap64 (m.ae+1)}).ok i from hi)),h.cell 2 _ U21⟩:w.rangeAt z.fr (19*i) (m.fr i).cells/\w.cell? ⟨z.wq k,2,none⟩=some ↑i));have c0:=Hd (λw (h:A1 z l k w m x)=>h.zP);have c1:=Hd (λw=>sU (m.fr i) i fn (wrap64 (m.ae+1)) w);have c2:=Hd (λw (h:A1 z l k w {m with ae:=wrap64 (m.ae+1)} x)=>A1.lY ((m.fr i).loop i fn (wrap64 (m.ae+1))) h (show({m with ae:=wrap64 (m.ae+1)}).gG from ha) (show({m with ae:=wrap64 (m.ae+1)}).pick=_ from hp));have H0:=Hd h;clear h ha hp hx;have HSZ:=Hd (show(prog.info? 176).map (·.size)=some ((m.fr i).cells).length from dm);clear hi;unfold Fr.v at c1 c2;generalize(({m with ae:=wrap64 (m.ae+1)}).stop 5 1)=M at*;generalize((m.fr i).loop i fn (wrap64 (m.ae+1))).cells=cv at*;generalize(m.fr i).cells=cs at*;generalize wrap64 (m.ae+1)=sv at*;generalize 19*i=I at*;go_enter func221,ntmps221;go_upto_region 0 with fail;refine wp_region_held_drew (S:=(λw'=>w'.rangeAt z.fr I cs/\w'.cell? ⟨z.wq k,2,none⟩=some ↑i)) U7 ?_ (λhHeld=>?_)
 ·exact U117
 refine hU 0 ?_;refine hU 1 ?_;refine pz ?_;refine hU 2 ?_;refine hU 3 ?_;refine wpAnyH_take (i:=4) (oi:=_) (v:=_) rfl U7 U7 U7 (λ_ _ _ h=>h) (yieldsIf_load_mid (by rfl) _ _ rfl _ _ rfl _ _ (λw q=>q.1) underlying176 rfl HSZ.o) U6 ?_;refine pz ?_;refine hU 5 ?_;refine pz ?_;refine hU 6 ?_;refine hU 7 ?_;refine hU 8 ?_;refine pz ?_;refine hU 9 ?_;refine hU 10 ?_;refine pz ?_;refine wpAnyH_ready (rs:=[11]) U7 U8 ?_;refine hA (λK hK=>?_)
 go_simp
 (go_at_call 267;refine(c0.o _ U4).q λw0 H1=> ?_)
 refine hK.o _ _ ?_ (λhHeld=>?_)
 ·exact U117
 clear hK K;refine pz ?_;refine wpAnyH_ready (rs:=[12]) U7 U8 ?_;refine hA (λK hK=>?_)
 go_simp
 (go_at_call 266;refine(c1.o _).q λw1 Sr=> ?_;replace H1:=H1.ai Sr)
 refine hK.o _ _ ?_ (λhHeld=>?_)
 ·exact U117
 clear hK K;refine pz ?_;refine wpAnyH_ready (rs:=[13]) U7 U8 ?_;refine hA (λK hK=>?_)
 go_simp
 (go_at_call 246;refine(c2.o _ H1).q λw2 H2=> ?_)
 refine hK.o _ _ ?_ (λhHeld=>?_)
 ·exact U117
 clear hK K;refine pz ?_;refine hU 14 ?_;refine pz ?_;refine hU 15 ?_;refine hU 16 ?_;refine hU 17 ?_;refine pz ?_;refine hU 18 ?_
 exact Us41
theorem A1.xB(h:A1 z l k w m x)(i:Nat)(hi:m.ok i)(hx:x.Sa=i)(ha:m.gG)(j:Nat)(B:List Nat)(n:Nat)(hp:m.pick=some (j,B,n))(hj:j≠i)(hst:(m.fr i).R9+1<100000):Cs 180 #[ptr (z.wq k),ptr z.c] w (.tuple #[]) λw'=>A1 z l k w' (((m).made j B n ((m.fr i).iter i)).ak i {m.fr i with R9:=(m.fr i).R9+1}) {x with other:=j,R8:=22}:=by
 have HI:=Hd hi;have FS0:=Hd (λw (h:A1 z l k w m x)=>(⟨h.dD i hi,h.cell 2 _ U21⟩:w.rangeAt z.fr (19*i) (m.fr i).cells/\w.cell? ⟨z.wq k,2,none⟩=some ↑i));have FS:=Hd (λw (h:A1 z l k w m x)=>(⟨h.dD i hi,h.cell 2 _ U21⟩:w.rangeAt z.fr (19*i) (m.fr i).cells/\w.cell? ⟨z.wq k,2,none⟩=some ↑i));have FM:=Hd (λw (h:A1 z l k w ((m).made j B n ((m.fr i).iter i)) x)=>(⟨Co.kS (m:=m) hj▸h.dD i (Co.kT hi),h.cell 2 _ U21⟩:w.rangeAt z.fr (19*i) (m.fr i).cells/\w.cell? ⟨z.wq k,2,none⟩=some ↑i));have c1:=Hd (λw=>sQ (m.fr i) i w);have c2:=Hd (λw (h:A1 z l k w m x)=>A1.lZ ((m.fr i).iter i) h ha j B n hp);have c4:=Hd (h.aT i hi hx);have FF:=Hd (λw (h:A1 z l k w ((m).made j B n ((m.fr i).iter i)) x)=>h);have HM:(((m).made j B n ((m.fr i).iter i))).fr i=m.fr i:=Co.kS (m:=m) hj;have HO:(((m).made j B n ((m.fr i).iter i))).ok i:=Co.kT hi;have G:=Hd (λw (h:A1 z l k w ((m).made j B n ((m.fr i).iter i)) x)=>(⟨h.frame i HO 17 U0 _ U78,h.cell 7 _ rfl,h.cell 1 _ rfl,h.fz,h.sM,h.oN⟩:w.cell? ⟨z.fr,19*i+17,none⟩=some (.int .i64 (m.fr i).R9)/\w.cell? ⟨z.wq k,7,none⟩=some ↑x.other/\w.cell? ⟨z.wq k,1,none⟩=some ↑x.R8/\(∀j,w.frozen? ⟨z.wq k,j,none⟩=false)/\(∀j,w.frozen? ⟨z.fr,j,none⟩=false)/\¬z.wq k=z.fr/\¬z.fr=z.wq k));have G2:=Hd (λw (h:A1 z l k w ((m).made j B n ((m.fr i).iter i)) x)=>(((h.aF i HO 17 U0 (.int .i64 ((m.fr i).R9+1:Nat)) {m.fr i with R9:=(m.fr i).R9+1} U78).set 7 ↑j {x with other:=j} ⟨rfl,rfl,rfl,rfl,rfl⟩ (λ_ _ _ _ _ _=>rfl)).set 1 (.int .i64 22) {x with other:=j,R8:=22} ⟨rfl,rfl,rfl,rfl,rfl⟩ (λ_ _ _ _ _ _=>rfl):A1 z l k (((w.setCell ⟨z.fr,19*i+17,none⟩ (.int .i64 ((m.fr i).R9+1:Nat))).setCell ⟨z.wq k,7,none⟩ ↑j).setCell ⟨z.wq k,1,none⟩ (.int .i64 22)) (((m).made j B n ((m.fr i).iter i)).ak i {m.fr i with R9:=(m.fr i).R9+1}) {x with other:=j,R8:=22}))
 have H0:=Hd h;clear h ha hp hx HM HO hj;have HSZ:=Hd (show(prog.info? 176).map (·.size)=some ((m.fr i).cells).length from dm);clear hi;unfold Fr.v at c1 c2;generalize((m).made j B n ((m.fr i).iter i)).ak i {m.fr i with R9:=(m.fr i).R9+1}=M2 at*;generalize((m).made j B n ((m.fr i).iter i))=M at*;generalize((m.fr i).iter i).cells=cv at*;generalize(m.fr i).cells=cs at*;generalize(m.fr i).R9=sN at*;have ws1:IntKind.i64.wrap ((sN:Int)+1)=((sN+1:Nat):Int):=by rw[dQ];unfold wrap64;omega
 generalize 19*i=I at*;go_enter func180,ntmps180
 go_upto_region 1 with(go_at_call 139;refine c4.o.r ?_)
 refine wp_region_held_drew (S:=(λw'=>w'.rangeAt z.fr I cs/\w'.cell? ⟨z.wq k,2,none⟩=some ↑i)) U7 ?_ (λhHeld=>?_)
 ·exact U117
 refine hU 0 ?_;refine hU 1 ?_;refine pz ?_;refine hU 2 ?_;refine hU 3 ?_;refine wpAnyH_take (i:=4) (oi:=_) (v:=_) rfl U7 U7 U7 (λ_ _ _ h=>h) (yieldsIf_load_mid (by rfl) _ _ rfl _ _ rfl _ _ (λw q=>q.1) underlying176 rfl HSZ.o) U6 ?_;refine pz ?_;refine hU 5 ?_;refine pz ?_;refine hU 6 ?_;refine hU 7 ?_;refine hU 8 ?_;refine pz ?_;refine wpAnyH_ready (rs:=[9]) U7 U8 ?_;refine hA (λK hK=>?_)
 go_simp
 (go_at_call 247;refine(c1.o _).q λw1 Sr=> ?_;have H1:=H0.o.drew.ai Sr)
 refine hK.o _ _ ?_ (λhHeld=>?_)
 ·exact U117
 clear hK K;refine pz ?_;refine wpAnyH_ready (rs:=[10]) U7 U8 ?_;refine hA (λK hK=>?_)
 go_simp
 (go_at_call 246;refine(c2.o _ H1).q λw2 H2=> ?_)
 refine hK.o _ _ ?_ (λhHeld=>?_)
 ·exact U117
 clear hK K;refine pz ?_;refine hU 11 ?_;refine hU 12 ?_;refine hU 13 ?_;refine pz ?_;refine hU 14 ?_;refine hU 15 ?_;refine pz ?_;refine wpAnyH_done U7 ?_ _;obtain⟨y17,y7,y1,z1,z2,n1,n2⟩:=G.out w2 H2;have H4:=G2.out w2 H2;go_wp2_with fail
 go_end0
 exact⟨rfl,H4⟩
theorem A1.xA(h:A1 z l k w m x)(i:Nat)(hi:m.ok i)(hx:x.Sa=i)(ha:m.gG)(hp:m.pick=none)(hst:(m.fr i).R9+1<100000):Cs 180 #[ptr (z.wq k),ptr z.c] w (.tuple #[]) λw'=>A1 z l k w' ((m).stop 5 1) x:=by
 have HI:=Hd hi;have FS0:=Hd (λw (h:A1 z l k w m x)=>(⟨h.dD i hi,h.cell 2 _ U21⟩:w.rangeAt z.fr (19*i) (m.fr i).cells/\w.cell? ⟨z.wq k,2,none⟩=some ↑i));have FS:=Hd (λw (h:A1 z l k w m x)=>(⟨h.dD i hi,h.cell 2 _ U21⟩:w.rangeAt z.fr (19*i) (m.fr i).cells/\w.cell? ⟨z.wq k,2,none⟩=some ↑i));have FM:=Hd (λw (h:A1 z l k w ((m).stop 5 1) x)=>(⟨(Co.uO m 5 1 i)▸h.dD i ((Co.uP m 5 1 i).2 hi),h.cell 2 _ U21⟩:w.rangeAt z.fr (19*i) (m.fr i).cells/\w.cell? ⟨z.wq k,2,none⟩=some ↑i));have c1:=Hd (λw=>sQ (m.fr i) i w);have c2:=Hd (λw (h:A1 z l k w m x)=>A1.lY ((m.fr i).iter i) h ha hp);have c4:=Hd (h.aT i hi hx);have H0:=Hd h;clear h ha hp hx;have HSZ:=Hd (show(prog.info? 176).map (·.size)=some ((m.fr i).cells).length from dm);clear hi;unfold Fr.v at c1 c2;generalize((m).stop 5 1)=M at*;generalize((m.fr i).iter i).cells=cv at*;generalize(m.fr i).cells=cs at*;generalize 19*i=I at*;go_enter func180,ntmps180
 go_upto_region 1 with(go_at_call 139;refine c4.o.r ?_)
 refine wp_region_held_drew (S:=(λw'=>w'.rangeAt z.fr I cs/\w'.cell? ⟨z.wq k,2,none⟩=some ↑i)) U7 ?_ (λhHeld=>?_)
 ·exact U117
 refine hU 0 ?_;refine pz ?_;refine hU 1 ?_;refine hU 2 ?_;refine hU 3 ?_;refine pz ?_;refine wpAnyH_take (i:=4) (oi:=_) (v:=_) rfl U7 U7 U7 (λ_ _ _ h=>h) (yieldsIf_load_mid (by rfl) _ _ rfl _ _ rfl _ _ (λw q=>q.1) underlying176 rfl HSZ.o) U6 ?_;refine pz ?_;refine hU 5 ?_;refine hU 6 ?_;refine hU 7 ?_;refine pz ?_;refine hU 8 ?_;refine pz ?_;refine wpAnyH_ready (rs:=[9]) U7 U8 ?_;refine hA (λK hK=>?_)
 go_simp
 (go_at_call 247;refine(c1.o _).q λw1 Sr=> ?_;have H1:=H0.o.drew.ai Sr)
 refine hK.o _ _ ?_ (λhHeld=>?_)
 ·exact U117
 clear hK K;refine pz ?_;refine wpAnyH_ready (rs:=[10]) U7 U8 ?_;refine hA (λK hK=>?_)
 go_simp
 (go_at_call 246;refine(c2.o _ H1).q λw2 H2=> ?_)
 refine hK.o _ _ ?_ (λhHeld=>?_)
 ·exact U117
 clear hK K;refine pz ?_;refine hU 11 ?_;refine hU 12 ?_;refine pz ?_;refine hU 13 ?_;refine hU 14 ?_;refine hU 15 ?_
 exact Us41
end Go.Proofs.YteiignfflbmafaaGreat.Tp
