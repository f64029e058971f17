/- TopOne, part 29. -/
import Derived.Test.YteiignfflbmafaaGreatQ28
import Derived.Deep.Upon
import Derived.Deep.RegionHeld3
set_option linter.unusedVariables false
set_option linter.unusedSimpArgs false
set_option maxRecDepth 100000
set_option maxHeartbeats 8000000
namespace Go.Proofs.YteiignfflbmafaaGreat.Tp
open Go.Proofs.Tryz
open Go.RowKit Go.Proofs.YteiignfflbmafaaGreat.Tok
section
def mi(n:Nat):Prop:=n=n
structure rV(w0 w:World)(o6 o7:Option Nat):Prop where
 ai:Below w0.heap.size w0 w
 b6:∀b,o6=some b->af w b #[(0:Int),(0:Int),(0:Int),(0:Int),(0:Int),(0:Int),(0:Int),(0:Int)] 174 /\w0.heap.size<=b/\(∀b',o7=some b'->b≠b')
 b7:∀b,o7=some b->af w b #[(0:Int),(0:Int),(0:Int),(0:Int),(0:Int)] 235 /\w0.heap.size<=b
theorem rV.call{w0 w w':World}{o6 o7:Option Nat}(h:rV w0 w o6 o7)(b:Below w.heap.size w w'):rV w0 w' o6 o7:=
 ⟨h.ai.trans (b.mono h.ai.size),λq e=>⟨((h.b6 q e).1).below b ((h.b6 q e).1).lt,(h.b6 q e).2⟩,λq e=>⟨((h.b7 q e).1).below b ((h.b7 q e).1).lt,(h.b7 q e).2⟩⟩
theorem rV.drew{w0 w:World}{o6 o7:Option Nat}(h:rV w0 w o6 o7):rV w0 w.drew o6 o7:=h.call (Below.refl _ _).drew
theorem rV.a6{w0 w:World}{o7:Option Nat}(h:rV w0 w none o7):rV w0 (w.alloc (.cells #[(0:Int),(0:Int),(0:Int),(0:Int),(0:Int),(0:Int),(0:Int),(0:Int)] 174)) (some w.heap.size) o7:=
 ⟨h.ai.alloc h.ai.size _,λq e=>by cases e;exact⟨af.new _ _ _ _ rfl,h.ai.size,λb' e'=>by have:=((h.b7 b' e').1).lt;omega⟩,λq e=>⟨((h.b7 q e).1).alloc _,(h.b7 q e).2⟩⟩
theorem rV.a7{w0 w:World}{o6:Option Nat}(h:rV w0 w o6 none):rV w0 (w.alloc (.cells #[(0:Int),(0:Int),(0:Int),(0:Int),(0:Int)] 235)) o6 (some w.heap.size):=
 ⟨h.ai.alloc h.ai.size _,λq e=>⟨((h.b6 q e).1).alloc _,(h.b6 q e).2.1,λb' e'=>by cases e';have:=((h.b6 q e).1).lt;omega⟩,λq e=>by cases e;exact⟨af.new _ _ _ _ rfl,h.ai.size⟩⟩
theorem Mt{P:Program}{o:Oper}{a:Act}{w:World}{K:Act->World->Prop}{Q:Exit->Act->World->Prop}(ty:TypeId)(x y:Operand)(ho:o.op=.store ty x y)
  (b:Nat) (c cells:Array Value) (t:TypeId) (hb:af w b c t) (hx:a.eval x=.pointer (some ⟨b,0,none⟩)) (hy:a.eval y=.agg cells)
  (hi:(P.info? ty).map (·.size)=some cells.size) (hold:c.size=cells.size) (h1:cells.all (·.oneCell')=true)
  (h:∀w',af w' b cells t->Kept (One b) w w'->K (a.put o.dst undef) w'):o.wp P a w K Q:=
 wp_store_row ty x y ho b cells hx hy t c hb hi hold h1 (h _ (setRow_heap w b c cells t (0,0) hb) ⟨rfl,rfl,rfl,by simp,λk _ hn=>setRow_other w b k cells hn⟩)
theorem KV:(prog.info? 235).map (·.size)=some 5:=by kernel_rfl
theorem aP.ins{w:World}{fv:Value}{code:List (List Is)}(h:aP w fv code)(k p:Nat)(hk:k<code.length)(hp:p<code[k].length):∃fb fo Su ib io Sv,fv=.slice (some ⟨fb,fo,none⟩) code.length Su/\w.cell? ⟨fb,fo+k,none⟩=some (.slice (some ⟨ib,io,none⟩) code[k].length Sv)/\fb<w.heap.size/\ib<w.heap.size/\w.cell? ⟨ib,io+p*4,none⟩=some (.int .i64 code[k][p].op)/\w.cell? ⟨ib,io+p*4+1,none⟩=some (.int .i64 code[k][p].a)/\w.cell? ⟨ib,io+p*4+2,none⟩=some (.int .i64 code[k][p].b)/\w.cell? ⟨ib,io+p*4+3,none⟩=some (.int .i64 code[k][p].c):=by
 obtain⟨A,Su,rfl,_,_,q⟩:=h;obtain⟨fb,fo,rfl,qa⟩:=q U2;obtain⟨v',h1,h2⟩:=qa k hk;obtain⟨A2,Sv,rfl,_,_,q2⟩:=h2;obtain⟨ib,io,rfl,qb⟩:=q2 U2;have r:=qb p hp
 exact⟨fb,fo,Su,ib,io,Sv,rfl,h1,bL w _ h1,bL w _ (r 0 U0),r 0 U0,r 1 U0,r 2 U0,r 3 U0⟩
section
variable {w0 w:World} {e s d:Nat} {M:Int} {fv:Value} {code:List (List Is)} {lv mv:Value} {st:ES}
theorem aG.tick(h:aG w0 w e s d M fv code lv mv st)(n:Int):aG w0 (w.setCell ⟨e,10,none⟩ ↑n) e s d M fv code lv mv {st with steps:=n}:=h.put 10 _ rfl rfl rfl rfl
inductive Does(st:ES)(pre:List SF)(x:SF)(PC:Int):Sp.Ef->ES->Prop where
 |fork (a v o r fr dp:Int) (e1:wrap64 (st.frames+1)=fr) (e2:(if st.deepest<((st.l.length+1:Nat):Int)then((st.l.length+1:Nat):Int)else st.deepest)=dp):Does st pre x PC ⟨6,a,v,o,r⟩ {st with l:=pre++[{x with pc:=PC,az:=true}]++[⟨1,v,0,x.rg,false⟩],marks:=st.marks++[⟨4,0⟩],frames:=fr,deepest:=dp}
 |write (k:Nat) (v o r:Int) (hk:k<st.data.length):Does st pre x PC ⟨2,k,v,o,r⟩ {st with l:=pre++[{x with pc:=PC}],data:=st.data.set k v,marks:=st.marks++[⟨2,k⟩]}
 |meet (a v o r:Int) (hd:x.az=true):Does st pre x PC ⟨7,a,v,o,r⟩ {st with l:=pre++[{x with pc:=PC,az:=false}],marks:=st.marks++[⟨6,0⟩]}
 |ends (a v o r:Int) (hd:x.az=true) (hk:x.kind=1) (hp:pre=[]):Does st pre x PC ⟨12,a,v,o,r⟩ {st with l:=[{x with az:=false}],marks:=st.marks++[⟨6,0⟩],status:=1}
 |back (a v o r:Int) (hd:x.az=false) (hk:x.kind=1) (hp:pre≠[]):Does st pre x PC ⟨12,a,v,o,r⟩ {st with l:=pre,marks:=st.marks++[⟨5,0⟩]}
theorem mQ{pre:List SF}{x y:SF}{i:Nat}(h:pre.length=i):(pre++[x]).set i y=pre++[y]:=by subst h;simp
theorem aG.form(h:aG w0 w e s d M fv code lv mv st)(hp:0<st.l.length):∃g cap,lv=.slice (some ⟨g,0,none⟩) st.l.length cap:=by
 obtain⟨g,cap,e1,_⟩:=h.fr.cells (λ_=>rfl) hp
 exact⟨g,cap,e1⟩
theorem aG.jO{g n cap:Nat}{i:Nat}{y:SF}(h:aG w0 w e s d M fv code (.slice (some ⟨g,0,none⟩) n cap) mv {st with l:=st.l.set i y})(hi:i<st.l.length)(j k:Nat)(u:Value)(hj:j<15)(hk:k=i*15+j)(hy:y.cells=y.cells.set j u):aG w0 (w.setCell ⟨g,k,none⟩ u) e s d M fv code (.slice (some ⟨g,0,none⟩) n cap) mv {st with l:=st.l.set i y}:=by
 have q:=h.oM rfl i j k u y U82 hj U2 (by simpa using hy)
 simpa using q
theorem aG.nine{g n cap:Nat}(h:aG w0 w e s d M fv code (.slice (some ⟨g,0,none⟩) n cap) mv st)(i:Nat)(xk xn xp PC r0 r1 r2 r3 r4 r5 r6 r7:Int)(xt:Bool)(hx:st.l[i]? =some ⟨xk,xn,xp,⟨r0,r1,r2,r3,r4,r5,r6,r7⟩,xt⟩):aG w0 (((((((((w.setCell ⟨g,i*15+2,none⟩ ↑PC).setCell ⟨g,i*15+3,none⟩ ↑r0).setCell ⟨g,i*15+4,none⟩ ↑r1).setCell ⟨g,i*15+5,none⟩ ↑r2).setCell ⟨g,i*15+6,none⟩ ↑r3).setCell ⟨g,i*15+7,none⟩ ↑r4).setCell ⟨g,i*15+8,none⟩ ↑r5).setCell ⟨g,i*15+9,none⟩ ↑r6).setCell ⟨g,i*15+10,none⟩ ↑r7) e s d M fv code (.slice (some ⟨g,0,none⟩) n cap) mv {st with l:=st.l.set i ⟨xk,xn,PC,⟨r0,r1,r2,r3,r4,r5,r6,r7⟩,xt⟩}:=by
 obtain⟨hi,he⟩:=List.getElem?_eq_some_iff.1 hx;have h1:=h.oM rfl i 2 (i*15+2) ↑PC ⟨xk,xn,PC,⟨r0,r1,r2,r3,r4,r5,r6,r7⟩,xt⟩ hi U0 U2 (by rw[he];rfl)
 exact(((((((h1.jO hi 3 _ _ U0 rfl rfl).jO hi 4 _ _ U0 rfl rfl).jO hi 5 _ _ U0 rfl rfl).jO hi 6 _ _ U0 rfl rfl).jO hi 7 _ _ U0 rfl rfl).jO hi 8 _ _ U0 rfl rfl).jO hi 9 _ _ U0 rfl rfl).jO hi 10 _ _ U0 rfl rfl
theorem Pb{pre:List SF}{x:SF}(h:aG w0 w e s d M fv code lv mv st)(hl:st.l=pre++[x])(hm:st.l.length<=900)(hm2:st.marks.length<=900)(K P:Nat)(hfn:x.fn=K)(hpc:x.pc=P)(hK:K<code.length)(hP:P<code[K].length)(PC n1:Int)(EF:Sp.Ef)(st':ES)
  (hPC:Sp.vG code[K][P].op code[K][P].a code[K][P].b code[K][P].c P x.rg=PC) (hRG:Sp.lN code[K][P].op code[K][P].a code[K][P].b code[K][P].c x.rg=x.rg) (hEF:Sp.lM code[K][P].op code[K][P].a code[K][P].b code[K][P].c x.rg=EF) (hFT:Sp.uw code[K][P].op code[K][P].c x.rg=0) (hn1:wrap64 (st.steps+1)=n1) (hf:Does {st with steps:=n1} pre x PC EF st'):
  Cs 114 #[ptr e] w (.tuple #[]) λw'=>∃lv' mv',aG w0 w' e s d M fv code lv' mv' st':=by
 obtain⟨g,cap,hlv⟩:=h.form (by rw[hl];simp);subst hlv;obtain⟨n,hn⟩:∃n,n=st.l.length:=⟨_,rfl⟩;obtain⟨i,hi⟩:∃i,pre.length=i:=⟨_,rfl⟩;have hni:n=i+1:=by rw[hn,hl];simp[hi]
 have nm:n<=1000:=by omega
 rw[<-hn]at h;have cT:=Hd (Pe h hni nm);have x10:=h.bx.c10;have le:=Hd h.bx.lt;have H:=Hd h;have HI:=Hd hi;have HL:=Hd hl;have HN:=Hd hni;have HM:=Hd hm;have HM2:=Hd hm2;have HX:=Hd (show st.l[i]? =some x from by rw[hl];simp[<-hi]);obtain⟨fb,fo,Su,ib,io,Sv,hfv,q0,q1,q2,q3,q4,q5,q6⟩:=h.tx.ins K P hK hP;have cd:=Hd (λw=>Sp.Mj code[K][P].op code[K][P].a code[K][P].b code[K][P].c P x.rg w);rw[hPC,hRG,hEF,hFT]at cd;have FT:=Hd (λw2 (b:Below w0.heap.size w0 w2)=>(⟨kb b q1 q0,kb b q2 q3,kb b q2 q4,kb b q2 q5,kb b q2 q6⟩:w2.cell? ⟨fb,fo+K,none⟩=some (.slice (some ⟨ib,io,none⟩) code[K].length Sv)/\w2.cell? ⟨ib,io+P*4,none⟩=some (.int .i64 code[K][P].op)/\w2.cell? ⟨ib,io+P*4+1,none⟩=some (.int .i64 code[K][P].a)/\w2.cell? ⟨ib,io+P*4+2,none⟩=some (.int .i64 code[K][P].b)/\w2.cell? ⟨ib,io+P*4+3,none⟩=some (.int .i64 code[K][P].c)));have k0:(0:Int)<=(K:Int):=by omega
 have k1:(K:Int)<(code.length:Int):=by omega
 have p0:(0:Int)<=(P:Int):=by omega
 have p1:(P:Int)<(code[K].length:Int):=by omega
 have HD:=Hd hf;clear q0 q1 q2 q3 q4 q5 q6 hPC hRG hEF hFT hf h hl hm hm2 hni nm hi hn;obtain⟨xk,xn,xp,⟨r0,r1,r2,r3,r4,r5,r6,r7⟩,xt⟩:=x;dsimp only at hfn hpc cd;subst hfn hpc;generalize code[K][P]=cI at*;obtain⟨co,ca,cb,cc⟩:=cI;dsimp only at cd FT;generalize code[K].length=il at*;clear hP;generalize hfl:code.length=fn at*;have hfl:=Hd hfl;clear hK;subst hn1;go_enter func114,ntmps114
 go_upto_region 1 with(go_at_call 187;refine cT.o.q λw1 Sr=> ?_)
 have H1:=Hd (H.o.ai Sr);have y10:=kb Sr le.out x10;have yf:=H1.o.bx.fz 10;clear cT x10 Sr H;go_upto_region 2 with fail;have H2:=Hd (H1.o.tick (wrap64 (st.steps+1)));generalize wrap64 (st.steps+1)=n1 at*;clear y10 yf H1;generalize w1.setCell ⟨e,10,none⟩ ↑n1=W at*;have FS:=Hd (λw2 (b:Below W.heap.size W w2)=>(show w2.cell? ⟨e,1,none⟩=some (.slice (some ⟨fb,fo,none⟩) fn Su)/\w2.cell? ⟨g,i*15+1,none⟩=some (.int .i64 (K:Int))/\w2.cell? ⟨g,i*15+2,none⟩=some (.int .i64 (P:Int))/\w2.cell? ⟨g,i*15+3,none⟩=some ↑r0/\w2.cell? ⟨g,i*15+4,none⟩=some ↑r1/\w2.cell? ⟨g,i*15+5,none⟩=some ↑r2/\w2.cell? ⟨g,i*15+6,none⟩=some ↑r3/\w2.cell? ⟨g,i*15+7,none⟩=some ↑r4/\w2.cell? ⟨g,i*15+8,none⟩=some ↑r5/\w2.cell? ⟨g,i*15+9,none⟩=some ↑r6/\w2.cell? ⟨g,i*15+10,none⟩=some ↑r7/\w2.cell? ⟨fb,fo+K,none⟩=some (.slice (some ⟨ib,io,none⟩) il Sv)/\w2.cell? ⟨ib,io+P*4,none⟩=some ↑co/\w2.cell? ⟨ib,io+P*4+1,none⟩=some ↑ca/\w2.cell? ⟨ib,io+P*4+2,none⟩=some ↑cb/\w2.cell? ⟨ib,io+P*4+3,none⟩=some ↑cc from by
  have h2:=H2.o.ai b;obtain⟨f0,f1,f2,f3,f4⟩:=FT.out w2 h2.B;obtain⟨_,t1,t2,t3,t4,t5,t6,t7,t8,t9,t10,_⟩:=h2.jV i _ HX.o;have t0:=h2.bx.c1;rw[hfv]at t0
  exact⟨t0,t1,t2,t3,t4,t5,t6,t7,t8,t9,t10,f0,f1,f2,f3,f4⟩))
 go_cut [3,4,5,6]from 18 to 48 (λs3 s4 s5 s6 wx=>s3=.int .i64 PC/\s6=.int .i64 0/\∃b6 b7,s4=ptr b6/\s5=ptr b7/\b6≠b7/\W.heap.size<=b6/\W.heap.size<=b7/\af wx b6 #[r0,r1,r2,r3,r4,r5,r6,r7] 174 /\af wx b7 #[EF.kind,EF.at_,EF.value,EF.other,EF.reg] 235 /\Below W.heap.size W wx)
 case first=>
  have HC:mi 0:=rfl;have HS:rV W W none none:=⟨Below.refl _ _,(λb q=>by cases q),(λb q=>by cases q)⟩;refine wp_region_held_drew (S:=(λw'=>w'.cell? ⟨e,1,none⟩=some (.slice (some ⟨fb,fo,none⟩) fn Su)/\w'.cell? ⟨g,i*15+1,none⟩=some (.int .i64 (K:Int))/\w'.cell? ⟨g,i*15+2,none⟩=some (.int .i64 (P:Int))/\w'.cell? ⟨g,i*15+3,none⟩=some ↑r0/\w'.cell? ⟨g,i*15+4,none⟩=some ↑r1/\w'.cell? ⟨g,i*15+5,none⟩=some ↑r2/\w'.cell? ⟨g,i*15+6,none⟩=some ↑r3/\w'.cell? ⟨g,i*15+7,none⟩=some ↑r4/\w'.cell? ⟨g,i*15+8,none⟩=some ↑r5/\w'.cell? ⟨g,i*15+9,none⟩=some ↑r6/\w'.cell? ⟨g,i*15+10,none⟩=some ↑r7/\w'.cell? ⟨fb,fo+K,none⟩=some (.slice (some ⟨ib,io,none⟩) il Sv)/\w'.cell? ⟨ib,io+P*4,none⟩=some ↑co/\w'.cell? ⟨ib,io+P*4+1,none⟩=some ↑ca/\w'.cell? ⟨ib,io+P*4+2,none⟩=some ↑cb/\w'.cell? ⟨ib,io+P*4+3,none⟩=some ↑cc)) U7 ?_ (λhHeld=>?_)
  ·exact FS.o _ (Below.refl _ _).drew
  replace HS:=HS.drew;clear H2 HD FT HX HL HN HM HM2;generalize hwd:W.drew=wd at*;have hwd:=Hd hwd;refine hU 0 ?_;refine hU 1 ?_;refine hU 2 ?_;refine pz ?_;refine hU 3 ?_;refine hU 4 ?_;refine hU 5 ?_;refine pz ?_;refine hU 6 ?_;refine hU 7 ?_;refine hU 8 ?_;refine pz ?_;refine hU 9 ?_;refine hU 10 ?_;refine hU 11 ?_;refine pz ?_;refine hU 12 ?_;refine hU 13 ?_;refine hU 14 ?_;refine pz ?_;refine hU 15 ?_;refine hU 16 ?_;refine hU 17 ?_;refine pz ?_;refine hU 18 ?_;refine hU 19 ?_;refine hU 20 ?_;refine pz ?_;refine hU 21 ?_;refine hU 22 ?_;refine hU 23 ?_;refine pz ?_;refine hU 24 ?_
  iterate 3
   all_goals
    refine pz ?_
    first
    |(have q:rV _ _ none none:=HS;have q2:mi 0:=HC;clear q q2;refine wpAnyH_ready (rs:=[25,31,32]) U7 U8 ?_)
    |(have q:rV _ _ none (some _):=HS;have q2:mi 0:=HC;clear q q2;refine wpAnyH_ready (rs:=[25,31]) U7 U8 ?_)
    |(have q:rV _ _ (some _) none:=HS;have q2:mi 0:=HC;clear q q2;refine wpAnyH_ready (rs:=[25,32]) U7 U8 ?_)
    |(have q:rV _ _ (some _) (some _):=HS;have q2:mi 0:=HC;clear q q2;refine wpAnyH_ready (rs:=[25]) U7 U8 ?_)
    |(have q:rV _ _ none none:=HS;have q2:mi 1:=HC;clear q q2;refine wpAnyH_ready (rs:=[31,32]) U7 U8 ?_)
    |(have q:rV _ _ none (some _):=HS;have q2:mi 1:=HC;clear q q2;refine wpAnyH_ready (rs:=[31]) U7 U8 ?_)
    |(have q:rV _ _ (some _) none:=HS;have q2:mi 1:=HC;clear q q2;refine wpAnyH_ready (rs:=[32]) U7 U8 ?_)
    repeat' (first|exact AllReadyH.nil|refine AllReadyH.cons (o:=_) rfl (λK hK=>?_) ?_)
   all_goals
    (try simp only[List.getElem_toArray,List.getElem_cons_zero,List.getElem_cons_succ])
    go_simp
    first
    |(go_at_call 142;refine(cd.o _).q λw1 Sr=> ?_;replace HS:=HS.call Sr;clear HC;have HC:mi 1:=rfl;refine hK.o _ _ (FS.o _ HS.ai) (λhHeld=>?_);refine pz ?_;refine hT 26 ?_ rfl U7 (λ_ _ _ h=>h) (by rfl) ?_ U6 ?_;rotate_left 1;(·intro w hSw;(try dsimp only at hSw);(try go_split_ands);go_simp<;>with_reducible rfl);refine hT 27 ?_ rfl U7 (λ_ _ _ h=>h) (by rfl) ?_ U6 ?_;rotate_left 1;(·intro w hSw;(try dsimp only at hSw);(try go_split_ands);go_simp<;>with_reducible rfl);refine hT 28 ?_ rfl U7 (λ_ _ _ h=>h) (by rfl) ?_ U6 ?_;rotate_left 1;(·intro w hSw;(try dsimp only at hSw);(try go_split_ands);go_simp<;>with_reducible rfl);refine pz ?_;refine hT 29 ?_ rfl U7 (λ_ _ _ h=>h) (by rfl) ?_ U6 ?_;rotate_left 1;(·intro w hSw;(try dsimp only at hSw);(try go_split_ands);go_simp<;>with_reducible rfl);refine hT 30 ?_ rfl U7 (λ_ _ _ h=>h) (by rfl) ?_ U6 ?_;rotate_left 1;(·intro w hSw;(try dsimp only at hSw);(try go_split_ands);go_simp<;>with_reducible rfl);refine pz ?_)
    |(replace HS:=HS.a6;refine hK.o _ _ (FS.o _ HS.ai) (λhHeld=>?_);(try rw[World.size_alloc]at HS))
    |(replace HS:=HS.a7;refine hK.o _ _ (FS.o _ HS.ai) (λhHeld=>?_);(try rw[World.size_alloc]at HS))
    clear hK K;refine pz ?_
  all_goals
   have HE:=HS.b6 _ rfl;have HE7:=HS.b7 _ rfl;have hne:=HE.2.2 _ rfl;refine hU 33 ?_;refine wpAnyH_ready (rs:=[34]) U7 U8 ?_;refine hA (λK hK=>?_)
   (try simp only[List.getElem_toArray,List.getElem_cons_zero,List.getElem_cons_succ])
   rw[if_pos (by rfl)];refine Mt 174 (.tmp 4) (.tmp 46) rfl _ _ _ _ HE.1 rfl rfl AQ rfl U17 ?_;intro w2 B6 K6;have HB2:Below W.heap.size W w2:=HS.ai.trans (K6.below (λk q=>by have q':=(q:k=_);rw[q'];exact HE.2.1) HS.ai.size);have B7:=K6.blk HE7.1 (λq=>hne (Eq.symm (show _=_ from q)));refine hK.o _ _ (FS.o _ HB2) (λhHeld=>?_);clear hK K;refine pz ?_;refine wpAnyH_ready (rs:=[35]) U7 U8 ?_;refine hA (λK hK=>?_)
   (try simp only[List.getElem_toArray,List.getElem_cons_zero,List.getElem_cons_succ])
   rw[if_pos (by rfl)];refine Mt 235 (.tmp 5) (.tmp 47) rfl _ _ _ _ B7 rfl rfl KV rfl U17 ?_;intro w3 B7' K7;have HB3:Below W.heap.size W w3:=HB2.trans (K7.below (λk q=>by have q':=(q:k=_);rw[q'];exact HE7.2) HB2.size);have B6':=K7.blk B6 (λq=>hne (show _=_ from q));refine hK.o _ _ (FS.o _ HB3) (λhHeld=>?_);clear hK K;refine pz ?_;refine hU 36 ?_;refine pz ?_;refine wpAnyH_done U7 ?_ _;go_wp2_with fail
   go_meet
   exact⟨rfl,rfl,_,_,rfl,rfl,hne,HE.2.1,HE7.2,B6',B7',HB3⟩
 case rest=>
  obtain⟨rfl,rfl,b6,b7,rfl,rfl,hne,hg6,hg7,B6,B7,HB⟩:=hcut;have H3:=Hd (H2.o.ai HB);have B6:=Hd B6;have B7:=Hd B7;clear FS cd FT hfv k0 k1 p0 p1 hne hg6 hg7 HB H2;generalize wc=wa at*;have cE:=Hd (λK a b c d w=>Sp.vN K a b c d w);have cA:=Hd (λK a b c d w=>Sp.pR K a b c d w);have xd:wa.cell? ⟨g,i*15+11,none⟩=some (.bool xt):=by obtain⟨_,_,_,_,_,_,_,_,_,_,_,q,_⟩:=H3.o.jV i _ HX.o;exact q
  have xf:=(H3.o.fr.type (b:=g) rfl).choose_spec.fz
  cases HD.o with
  |fork a v o r fr dp e1 e2=>
   clear HD;have u0:=B7.o.cell 0;have u1:=B7.o.cell 1;have u2:=B7.o.cell 2;have u3:=B7.o.cell 3;have u4:=B7.o.cell 4;simp only[List.getElem?_toArray,List.getElem?_cons_zero,List.getElem?_cons_succ]at u0 u1 u2 u3 u4
   go_upto_region 6 with(first|(go_at_call 144;refine(cE.o _ _ _ _ _ _).q λw2 hb2=> ?_;have B6:=Hd (B6.o.below hb2 B6.o.lt);have B7:=Hd (B7.o.below hb2 B7.o.lt);have H3:=Hd (H3.o.ai hb2);have v0:=B7.o.cell 0;have v1:=B7.o.cell 1;have v2:=B7.o.cell 2;have v3:=B7.o.cell 3;have v4:=B7.o.cell 4;simp only[List.getElem?_toArray,List.getElem?_cons_zero,List.getElem?_cons_succ]at v0 v1 v2 v3 v4)|(go_at_call 147;refine(cA.o _ _ _ _ _ _).q λw3 hb3=> ?_;have B6:=Hd (B6.o.below hb3 B6.o.lt);have B7:=Hd (B7.o.below hb3 B7.o.lt);have H3:=Hd (H3.o.ai hb3);have t0:=B7.o.cell 0;have t1:=B7.o.cell 1;have t2:=B7.o.cell 2;have t3:=B7.o.cell 3;have t4:=B7.o.cell 4;simp only[List.getElem?_toArray,List.getElem?_cons_zero,List.getElem?_cons_succ]at t0 t1 t2 t3 t4))
   clear xd xf u0 u1 u2 u3 u4 v0 v1 v2 v3 v4 t0 t1 t2 t3 t4;have zf:=(H3.o.fr.type (b:=g) rfl).choose_spec.fz;obtain⟨_,_,c2,c3,c4,c5,c6,c7,c8,c9,c10,_⟩:=H3.o.jV i _ HX.o;have z0:=B6.o.cell 0;have z1:=B6.o.cell 1;have z2:=B6.o.cell 2;have z3:=B6.o.cell 3;have z4:=B6.o.cell 4;have z5:=B6.o.cell 5;have z6:=B6.o.cell 6;have z7:=B6.o.cell 7;simp only[List.getElem?_toArray,List.getElem?_cons_zero,List.getElem?_cons_succ]at z0 z1 z2 z3 z4 z5 z6 z7;dsimp only at c2 c3 c4 c5 c6 c7 c8 c9 c10;obtain⟨cg,tg⟩:=H3.o.fr.type (b:=g) rfl;have ngb:¬g=b6:=λz=>(tg.ne B6.o U0) z;have nbg:¬b6=g:=λz=>(tg.ne B6.o U0) z.symm;have nb7:b7≠g:=λz=>(tg.ne B7.o U0) z.symm;have NB7:=Hd nb7;clear tg nb7
   go_region
   all_goals
    have H4:=Hd (show aG w0 ((((((((((w3.setCell ⟨g,i*15+2,none⟩ ↑PC).setCell ⟨g,i*15+3,none⟩ ↑r0).setCell ⟨g,i*15+3+1,none⟩ ↑r1).setCell ⟨g,i*15+3+2,none⟩ ↑r2).setCell ⟨g,i*15+3+3,none⟩ ↑r3).setCell ⟨g,i*15+3+4,none⟩ ↑r4).setCell ⟨g,i*15+3+5,none⟩ ↑r5).setCell ⟨g,i*15+3+6,none⟩ ↑r6).setCell ⟨g,i*15+3+7,none⟩ ↑r7).drew) e s d M fv code (.slice (some ⟨g,0,none⟩) n cap) mv {st with l:=st.l.set i ⟨xk,K,PC,⟨r0,r1,r2,r3,r4,r5,r6,r7⟩,xt⟩,steps:=n1}from(H3.o.nine i xk K P PC r0 r1 r2 r3 r4 r5 r6 r7 xt HX.o).drew);have B8:=Hd (show af ((((((((((w3.setCell ⟨g,i*15+2,none⟩ ↑PC).setCell ⟨g,i*15+3,none⟩ ↑r0).setCell ⟨g,i*15+3+1,none⟩ ↑r1).setCell ⟨g,i*15+3+2,none⟩ ↑r2).setCell ⟨g,i*15+3+3,none⟩ ↑r3).setCell ⟨g,i*15+3+4,none⟩ ↑r4).setCell ⟨g,i*15+3+5,none⟩ ↑r5).setCell ⟨g,i*15+3+6,none⟩ ↑r6).setCell ⟨g,i*15+3+7,none⟩ ↑r7).drew) b7 _ 235 from af.drew (((((((((B7.o.far NB7.out _).far NB7.out _).far NB7.out _).far NB7.out _).far NB7.out _).far NB7.out _).far NB7.out _).far NB7.out _).far NB7.out _));generalize(((((((((w3.setCell ⟨g,i*15+2,none⟩ ↑PC).setCell ⟨g,i*15+3,none⟩ ↑r0).setCell ⟨g,i*15+3+1,none⟩ ↑r1).setCell ⟨g,i*15+3+2,none⟩ ↑r2).setCell ⟨g,i*15+3+3,none⟩ ↑r3).setCell ⟨g,i*15+3+4,none⟩ ↑r4).setCell ⟨g,i*15+3+5,none⟩ ↑r5).setCell ⟨g,i*15+3+6,none⟩ ↑r6).setCell ⟨g,i*15+3+7,none⟩ ↑r7).drew=w4 at*;clear zf c2 c3 c4 c5 c6 c7 c8 c9 c10 z0 z1 z2 z3 z4 z5 z6 z7 ngb nbg H3 B6 B7;have cB:=Hd (Le (x:=⟨xk,K,PC,⟨r0,r1,r2,r3,r4,r5,r6,r7⟩,xt⟩) H4.o (i:=i) (by have:=HX.o;simp[(List.getElem?_eq_some_iff.1 this).1]) (by simpa using nT HM.o U0) (nT HM2.o U0) a v o r fr dp e1 (by simpa using e2))
    have v0:=B8.o.cell 0;have v1:=B8.o.cell 1;have v2:=B8.o.cell 2;have v3:=B8.o.cell 3;have v4:=B8.o.cell 4;simp only[List.getElem?_toArray,List.getElem?_cons_zero,List.getElem?_cons_succ]at v0 v1 v2 v3 v4
    go_wp2_with (go_at_call 193;refine cB.o.mono ?_;rintro ev w5 ⟨rfl,lv5,mv5,h5⟩)
    go_end0
    refine⟨rfl,lv5,mv5,?_⟩;have e5:((st.l.set i ⟨xk,K,PC,⟨r0,r1,r2,r3,r4,r5,r6,r7⟩,xt⟩).set i ⟨xk,K,PC,⟨r0,r1,r2,r3,r4,r5,r6,r7⟩,true⟩)=pre++[⟨xk,K,PC,⟨r0,r1,r2,r3,r4,r5,r6,r7⟩,true⟩]:=by rw[List.set_set,HL.o,mQ HI.o]
    (try dsimp only at h5)
    rw[e5,List.append_assoc]at h5
    exact h5
  |write k v o r hk=>
   clear HD;have u0:=B7.o.cell 0;have u1:=B7.o.cell 1;have u2:=B7.o.cell 2;have u3:=B7.o.cell 3;have u4:=B7.o.cell 4;simp only[List.getElem?_toArray,List.getElem?_cons_zero,List.getElem?_cons_succ]at u0 u1 u2 u3 u4
   go_upto_region 11 with(first|(go_at_call 144;refine(cE.o _ _ _ _ _ _).q λw2 hb2=> ?_;have B6:=Hd (B6.o.below hb2 B6.o.lt);have B7:=Hd (B7.o.below hb2 B7.o.lt);have H3:=Hd (H3.o.ai hb2);have v0:=B7.o.cell 0;have v1:=B7.o.cell 1;have v2:=B7.o.cell 2;have v3:=B7.o.cell 3;have v4:=B7.o.cell 4;simp only[List.getElem?_toArray,List.getElem?_cons_zero,List.getElem?_cons_succ]at v0 v1 v2 v3 v4)|(go_at_call 147;refine(cA.o _ _ _ _ _ _).q λw3 hb3=> ?_;have B6:=Hd (B6.o.below hb3 B6.o.lt);have B7:=Hd (B7.o.below hb3 B7.o.lt);have H3:=Hd (H3.o.ai hb3);have t0:=B7.o.cell 0;have t1:=B7.o.cell 1;have t2:=B7.o.cell 2;have t3:=B7.o.cell 3;have t4:=B7.o.cell 4;simp only[List.getElem?_toArray,List.getElem?_cons_zero,List.getElem?_cons_succ]at t0 t1 t2 t3 t4;have z0:=B6.o.cell 0;have z1:=B6.o.cell 1;have z2:=B6.o.cell 2;have z3:=B6.o.cell 3;have z4:=B6.o.cell 4;have z5:=B6.o.cell 5;have z6:=B6.o.cell 6;have z7:=B6.o.cell 7;simp only[List.getElem?_toArray,List.getElem?_cons_zero,List.getElem?_cons_succ]at z0 z1 z2 z3 z4 z5 z6 z7))
   have cK:=Hd (O9 H3.o HX.o (nT HM2.o U0) k hk PC v o r);clear u0 u1 u2 u3 u4 v0 v1 v2 v3 v4 xd xf
   go_wp2_with (go_at_call 189;refine cK.o.mono ?_;rintro ev w5 ⟨rfl,mv5,h5⟩)
   go_end0
   refine⟨rfl,.slice (some ⟨g,0,none⟩) n cap,mv5,?_⟩
   (try dsimp only at h5)
   rw[HL.o,mQ HI.o]at h5
   exact h5
  |meet a v o r hd=>
   clear HD
   (try dsimp only at hd)
   subst hd;obtain⟨cg,tg⟩:=H3.o.fr.type (b:=g) rfl;have NB6:=Hd (show b6≠g from λz=>(tg.ne B6.o U0) z.symm);have NB7:=Hd (show b7≠g from λz=>(tg.ne B7.o U0) z.symm);clear tg;have u0:=B7.o.cell 0;have u1:=B7.o.cell 1;have u2:=B7.o.cell 2;have u3:=B7.o.cell 3;have u4:=B7.o.cell 4;simp only[List.getElem?_toArray,List.getElem?_cons_zero,List.getElem?_cons_succ]at u0 u1 u2 u3 u4
   go_upto_region 5 with(first|(go_at_call 144;refine(cE.o _ _ _ _ _ _).q λw2 hb2=> ?_;have B6:=Hd (B6.o.below hb2 B6.o.lt);have B7:=Hd (B7.o.below hb2 B7.o.lt);have H3:=Hd (H3.o.ai hb2);have v0:=B7.o.cell 0;have v1:=B7.o.cell 1;have v2:=B7.o.cell 2;have v3:=B7.o.cell 3;have v4:=B7.o.cell 4;simp only[List.getElem?_toArray,List.getElem?_cons_zero,List.getElem?_cons_succ]at v0 v1 v2 v3 v4;have xd2:w2.cell? ⟨g,i*15+11,none⟩=some (.bool true):=U54;have xf2:=(H3.o.fr.type (b:=g) rfl).choose_spec.fz))
   have H4:=Hd (H3.o.oM rfl i 11 (i*15+11) (.bool false) ⟨xk,K,P,⟨r0,r1,r2,r3,r4,r5,r6,r7⟩,false⟩ (List.getElem?_eq_some_iff.1 HX.o).1 U0 U2 U66);have B6:=Hd (B6.o.far (a:=⟨g,i*15+11,none⟩) NB6.out (.bool false));have B7:=Hd (B7.o.far (a:=⟨g,i*15+11,none⟩) NB7.out (.bool false));clear u0 u1 u2 u3 u4 v0 v1 v2 v3 v4 xd xf xd2 xf2 H3;generalize w2.setCell ⟨g,i*15+11,none⟩ (.bool false)=w4 at*;have cM:=Hd (mU H4.o 6 0 (nT HM2.o U0));have HX:=Hd (show(st.l.set i ⟨xk,K,P,⟨r0,r1,r2,r3,r4,r5,r6,r7⟩,false⟩)[i]? =some ⟨xk,K,P,⟨r0,r1,r2,r3,r4,r5,r6,r7⟩,false⟩from by have:=(List.getElem?_eq_some_iff.1 HX.o).1;simp[this])
   go_upto_region 6 with(first|(go_at_call 188;refine cM.o.mono ?_;rintro ev w5 ⟨rfl,mv5,h5,k5⟩;have B6:=Hd (H4.o.xO k5 B6.o U0 U0);have B7:=Hd (H4.o.xO k5 B7.o U0 U0);have H3:=Hd h5;clear h5 k5;have v0:=B7.o.cell 0;have v1:=B7.o.cell 1;have v2:=B7.o.cell 2;have v3:=B7.o.cell 3;have v4:=B7.o.cell 4;simp only[List.getElem?_toArray,List.getElem?_cons_zero,List.getElem?_cons_succ]at v0 v1 v2 v3 v4)|(go_at_call 147;refine(cA.o _ _ _ _ _ _).q λw3 hb3=> ?_;have B6:=Hd (B6.o.below hb3 B6.o.lt);have B7:=Hd (B7.o.below hb3 B7.o.lt);have H3:=Hd (H3.o.ai hb3);have t0:=B7.o.cell 0;have t1:=B7.o.cell 1;have t2:=B7.o.cell 2;have t3:=B7.o.cell 3;have t4:=B7.o.cell 4;simp only[List.getElem?_toArray,List.getElem?_cons_zero,List.getElem?_cons_succ]at t0 t1 t2 t3 t4))
   clear v0 v1 v2 v3 v4 t0 t1 t2 t3 t4;have zf:=(H3.o.fr.type (b:=g) rfl).choose_spec.fz;obtain⟨_,_,c2,c3,c4,c5,c6,c7,c8,c9,c10,_⟩:=H3.o.jV i _ HX.o;have z0:=B6.o.cell 0;have z1:=B6.o.cell 1;have z2:=B6.o.cell 2;have z3:=B6.o.cell 3;have z4:=B6.o.cell 4;have z5:=B6.o.cell 5;have z6:=B6.o.cell 6;have z7:=B6.o.cell 7;simp only[List.getElem?_toArray,List.getElem?_cons_zero,List.getElem?_cons_succ]at z0 z1 z2 z3 z4 z5 z6 z7;dsimp only at c2 c3 c4 c5 c6 c7 c8 c9 c10;obtain⟨cg2,tg⟩:=H3.o.fr.type (b:=g) rfl;have ngb:¬g=b6:=λz=>(tg.ne B6.o U0) z;have nbg:¬b6=g:=λz=>(tg.ne B6.o U0) z.symm;have nb7:b7≠g:=λz=>(tg.ne B7.o U0) z.symm;have NB7:=Hd nb7;clear tg nb7
   go_region
   all_goals
    have H4:=Hd (show aG w0 ((((((((((w3.setCell ⟨g,i*15+2,none⟩ ↑PC).setCell ⟨g,i*15+3,none⟩ ↑r0).setCell ⟨g,i*15+3+1,none⟩ ↑r1).setCell ⟨g,i*15+3+2,none⟩ ↑r2).setCell ⟨g,i*15+3+3,none⟩ ↑r3).setCell ⟨g,i*15+3+4,none⟩ ↑r4).setCell ⟨g,i*15+3+5,none⟩ ↑r5).setCell ⟨g,i*15+3+6,none⟩ ↑r6).setCell ⟨g,i*15+3+7,none⟩ ↑r7).drew) e s d M fv code (.slice (some ⟨g,0,none⟩) n cap) mv5 {st with l:=st.l.set i ⟨xk,K,PC,⟨r0,r1,r2,r3,r4,r5,r6,r7⟩,false⟩,marks:=st.marks++[⟨6,0⟩],steps:=n1}from by have q:=(H3.o.nine i xk K P PC r0 r1 r2 r3 r4 r5 r6 r7 false HX.o).drew;simpa using q);have B8:=Hd (show af ((((((((((w3.setCell ⟨g,i*15+2,none⟩ ↑PC).setCell ⟨g,i*15+3,none⟩ ↑r0).setCell ⟨g,i*15+3+1,none⟩ ↑r1).setCell ⟨g,i*15+3+2,none⟩ ↑r2).setCell ⟨g,i*15+3+3,none⟩ ↑r3).setCell ⟨g,i*15+3+4,none⟩ ↑r4).setCell ⟨g,i*15+3+5,none⟩ ↑r5).setCell ⟨g,i*15+3+6,none⟩ ↑r6).setCell ⟨g,i*15+3+7,none⟩ ↑r7).drew) b7 _ 235 from af.drew (((((((((B7.o.far NB7.out _).far NB7.out _).far NB7.out _).far NB7.out _).far NB7.out _).far NB7.out _).far NB7.out _).far NB7.out _).far NB7.out _));generalize(((((((((w3.setCell ⟨g,i*15+2,none⟩ ↑PC).setCell ⟨g,i*15+3,none⟩ ↑r0).setCell ⟨g,i*15+3+1,none⟩ ↑r1).setCell ⟨g,i*15+3+2,none⟩ ↑r2).setCell ⟨g,i*15+3+3,none⟩ ↑r3).setCell ⟨g,i*15+3+4,none⟩ ↑r4).setCell ⟨g,i*15+3+5,none⟩ ↑r5).setCell ⟨g,i*15+3+6,none⟩ ↑r6).setCell ⟨g,i*15+3+7,none⟩ ↑r7).drew=w4 at*;clear zf c2 c3 c4 c5 c6 c7 c8 c9 c10 z0 z1 z2 z3 z4 z5 z6 z7 ngb nbg H3 B6 B7;have cB:=Hd (Lf H4.o (.pointer (some ⟨g,i*15,none⟩)) 7 a v o r U0)
    have v0:=B8.o.cell 0;have v1:=B8.o.cell 1;have v2:=B8.o.cell 2;have v3:=B8.o.cell 3;have v4:=B8.o.cell 4;simp only[List.getElem?_toArray,List.getElem?_cons_zero,List.getElem?_cons_succ]at v0 v1 v2 v3 v4
    go_wp2_with (go_at_call 193;refine cB.o.q λw6 h6=> ?_)
    go_end0
    refine⟨rfl,.slice (some ⟨g,0,none⟩) n cap,mv5,?_⟩
    (try dsimp only at h6)
    rw[HL.o,mQ HI.o]at h6
    exact h6
  |ends a v o r hd hk hp=>
   clear HD
   (try dsimp only at hd)
   subst hd;obtain⟨cg,tg⟩:=H3.o.fr.type (b:=g) rfl;have NB6:=Hd (show b6≠g from λz=>(tg.ne B6.o U0) z.symm);have NB7:=Hd (show b7≠g from λz=>(tg.ne B7.o U0) z.symm);clear tg;have u0:=B7.o.cell 0;have u1:=B7.o.cell 1;have u2:=B7.o.cell 2;have u3:=B7.o.cell 3;have u4:=B7.o.cell 4;simp only[List.getElem?_toArray,List.getElem?_cons_zero,List.getElem?_cons_succ]at u0 u1 u2 u3 u4
   go_upto_region 5 with(first|(go_at_call 144;refine(cE.o _ _ _ _ _ _).q λw2 hb2=> ?_;have B6:=Hd (B6.o.below hb2 B6.o.lt);have B7:=Hd (B7.o.below hb2 B7.o.lt);have H3:=Hd (H3.o.ai hb2);have v0:=B7.o.cell 0;have v1:=B7.o.cell 1;have v2:=B7.o.cell 2;have v3:=B7.o.cell 3;have v4:=B7.o.cell 4;simp only[List.getElem?_toArray,List.getElem?_cons_zero,List.getElem?_cons_succ]at v0 v1 v2 v3 v4;have xd2:w2.cell? ⟨g,i*15+11,none⟩=some (.bool true):=U54;have xf2:=(H3.o.fr.type (b:=g) rfl).choose_spec.fz))
   have H4:=Hd (H3.o.oM rfl i 11 (i*15+11) (.bool false) ⟨xk,K,P,⟨r0,r1,r2,r3,r4,r5,r6,r7⟩,false⟩ (List.getElem?_eq_some_iff.1 HX.o).1 U0 U2 U66);have B6:=Hd (B6.o.far (a:=⟨g,i*15+11,none⟩) NB6.out (.bool false));have B7:=Hd (B7.o.far (a:=⟨g,i*15+11,none⟩) NB7.out (.bool false));clear u0 u1 u2 u3 u4 v0 v1 v2 v3 v4 xd xf xd2 xf2 H3;generalize w2.setCell ⟨g,i*15+11,none⟩ (.bool false)=w4 at*;have cM:=Hd (mU H4.o 6 0 (nT HM2.o U0));have HX:=Hd (show(st.l.set i ⟨xk,K,P,⟨r0,r1,r2,r3,r4,r5,r6,r7⟩,false⟩)[i]? =some ⟨xk,K,P,⟨r0,r1,r2,r3,r4,r5,r6,r7⟩,false⟩from by have:=(List.getElem?_eq_some_iff.1 HX.o).1;simp[this])
   (try dsimp only at hk)
   subst hk;have HN1:=Hd (show n=1 from by have a1:=HN.o;have a2:=HI.o;rw[hp]at a2;simp at a2;omega);have HP:=Hd hp;clear hp
   go_upto_region 18 with(first|(go_at_call 188;refine cM.o.mono ?_;rintro ev w5 ⟨rfl,mv5,h5,k5⟩;have B6:=Hd (H4.o.xO k5 B6.o U0 U0);have B7:=Hd (H4.o.xO k5 B7.o U0 U0);have H3:=Hd h5;clear h5 k5;have v0:=B7.o.cell 0;have v1:=B7.o.cell 1;have v2:=B7.o.cell 2;have v3:=B7.o.cell 3;have v4:=B7.o.cell 4;simp only[List.getElem?_toArray,List.getElem?_cons_zero,List.getElem?_cons_succ]at v0 v1 v2 v3 v4)|(go_at_call 147;refine(cA.o _ _ _ _ _ _).q λw3 hb3=> ?_;have B6:=Hd (B6.o.below hb3 B6.o.lt);have B7:=Hd (B7.o.below hb3 B7.o.lt);have H3:=Hd (H3.o.ai hb3);have t0:=B7.o.cell 0;have t1:=B7.o.cell 1;have t2:=B7.o.cell 2;have t3:=B7.o.cell 3;have t4:=B7.o.cell 4;simp only[List.getElem?_toArray,List.getElem?_cons_zero,List.getElem?_cons_succ]at t0 t1 t2 t3 t4))
   have cB:=Hd (Hg H3.o HN1.o HX.o rfl);clear v0 v1 v2 v3 v4 t0 t1 t2 t3 t4
   go_wp2_with (go_at_call 192;refine cB.o.q λw6 h6=> ?_)
   go_end0
   refine⟨rfl,.slice (some ⟨g,0,none⟩) n cap,mv5,?_⟩
   (try dsimp only at h6)
   rw[HL.o,mQ HI.o,HP.o]at h6
   exact h6
  |back a v o r hd hk hp=>
   clear HD
   (try dsimp only at hd hk)
   subst hd hk;have u0:=B7.o.cell 0;have u1:=B7.o.cell 1;have u2:=B7.o.cell 2;have u3:=B7.o.cell 3;have u4:=B7.o.cell 4;simp only[List.getElem?_toArray,List.getElem?_cons_zero,List.getElem?_cons_succ]at u0 u1 u2 u3 u4
   go_upto_region 18 with(first|(go_at_call 144;refine(cE.o _ _ _ _ _ _).q λw2 hb2=> ?_;have B6:=Hd (B6.o.below hb2 B6.o.lt);have B7:=Hd (B7.o.below hb2 B7.o.lt);have H3:=Hd (H3.o.ai hb2);have v0:=B7.o.cell 0;have v1:=B7.o.cell 1;have v2:=B7.o.cell 2;have v3:=B7.o.cell 3;have v4:=B7.o.cell 4;simp only[List.getElem?_toArray,List.getElem?_cons_zero,List.getElem?_cons_succ]at v0 v1 v2 v3 v4;have xd2:w2.cell? ⟨g,i*15+11,none⟩=some (.bool false):=U54;have xf2:=(H3.o.fr.type (b:=g) rfl).choose_spec.fz)|(go_at_call 147;refine(cA.o _ _ _ _ _ _).q λw3 hb3=> ?_;have B6:=Hd (B6.o.below hb3 B6.o.lt);have B7:=Hd (B7.o.below hb3 B7.o.lt);have H3:=Hd (H3.o.ai hb3);have t0:=B7.o.cell 0;have t1:=B7.o.cell 1;have t2:=B7.o.cell 2;have t3:=B7.o.cell 3;have t4:=B7.o.cell 4;simp only[List.getElem?_toArray,List.getElem?_cons_zero,List.getElem?_cons_succ]at t0 t1 t2 t3 t4))
   have cB:=Hd (Hl H3.o HL.o HI.o HN.o (by have:=HI.o;cases pre with|nil=>exact absurd rfl hp|cons y l=>simp at this;omega) (by have a1:=HN.o;have a2:=HM.o;have a3:=congrArg List.length HL.o;have a4:=HI.o;rw[List.length_append,List.length_singleton]at a3;omega) (nT HM2.o U0) rfl);clear u0 u1 u2 u3 u4 v0 v1 v2 v3 v4 t0 t1 t2 t3 t4 xd xf xd2 xf2
   go_wp2_with (go_at_call 192;refine cB.o.mono ?_;rintro ev w6 ⟨rfl,mv6,h6⟩)
   go_end0
   exact⟨rfl,_,mv6,h6⟩
end
end
def zK(code:List (List Is))(st st':ES):Prop:=∃(pre:List SF) (x:SF) (K P:Nat) (PC:Int) (EF:Sp.Ef) (hK:K<code.length) (hP:P<code[K].length),st.l=pre++[x]/\st.l.length<=900/\st.marks.length<=900/\x.fn=K/\x.pc=P/\
 Sp.vG code[K][P].op code[K][P].a code[K][P].b code[K][P].c P x.rg=PC/\Sp.lN code[K][P].op code[K][P].a code[K][P].b code[K][P].c x.rg=x.rg/\Sp.lM code[K][P].op code[K][P].a code[K][P].b code[K][P].c x.rg=EF/\Sp.uw code[K][P].op code[K][P].c x.rg=0/\Does {st with steps:=wrap64 (st.steps+1)} pre x PC EF st'
theorem Lg{w0 w:World}{e s d:Nat}{M:Int}{fv:Value}{code:List (List Is)}{lv mv:Value}{st st':ES}(h:aG w0 w e s d M fv code lv mv st)(ok:zK code st st'):Cs 114 #[ptr e] w (.tuple #[]) λw'=>∃lv' mv',aG w0 w' e s d M fv code lv' mv' st':=by
 obtain⟨pre,x,K,P,PC,EF,hK,hP,a1,a2,a3,a4,a5,a6,a7,a8,a9,a10⟩:=ok
 exact Pb h a1 a2 a3 K P a4 a5 hK hP PC _ EF st' a6 a7 a8 a9 rfl a10
def es0(M:Nat):ES:=⟨[],List.replicate M 0,[],0,0,0,0⟩
def es1(M:Nat):ES:=⟨[⟨1,0,0,ax,false⟩],List.replicate M 0,[],0,0,1,1⟩
theorem JP{w w1:World}{s d:Nat}{M:Nat}{fv:Value}{code:List (List Is)}(h:aP w fv code)(b:Below w.heap.size w w1)(sd:aD w1 s d (List.replicate M 0))(ls:w.heap.size<=s)(ld:w.heap.size<=d):
  aG w (w1.alloc (.cells #[M,fv,.slice none 0 0,ptr s,.slice none 0 0,(0:Int),(0:Int),(0:Int),.slice none 0 0,.slice none 0 0,(0:Int),(0:Int),(0:Int)] 162)) w1.heap.size s d M fv code (.slice none 0 0) (.slice none 0 0) (es0 M):=
 ⟨af.new _ _ _ _ rfl,World.ownsRow_nil _ _ _ _,World.ownsRow_nil _ _ _ _,sd.alloc _,h,b.alloc b.size _,b.size,ls,ld,(λb e=>by cases e),(λb e=>by cases e)⟩
def QQ(w:World)(M:Int)(fv:Value)(st:ES)(ev:Ending)(w':World):Prop:=∃e s lv mv A n c,ev=.returned (.tuple #[ptr e,(0:Int)])/\af w' e (NI M fv lv s mv (.slice A n c) st) 162 /\Own w' 211 3 Mk.cells mv st.marks/\Below w.heap.size w w'
theorem Ho(w:World)(M:Nat)(fv:Value)(code:List (List Is))(h:aP w fv code)(hM:M<=1000)(hp:iY M code=0)(n:Nat)(hn:0<n/\n<=99)(S:Nat->ES)(h0:S 0=es1 M)(hs:∀k,k<n->zK code (S k) (S (k+1))/\(S (k+1)).status=if k+1<n then 0 else 1)(hd:(S n).data.length<=1000):
  Calls prog 73 #[.agg #[M,fv],.slice none 0 0,(99:Int)] w (QQ w M fv (S n)):=by
 obtain⟨FA,Su,hfv⟩:=h.form;have B0:Below w.heap.size w (w.alloc (.cells #[M,fv] 24)):=Ba _;have C1:=Hd (λw2 (b:Below w.heap.size w w2)=>oz w2 M fv code (h.ai b));rw[hp]at C1;have CN:=Hd (λw2=>tQ M U2 w2);have BX:=Hd (af.new w #[M,fv] 24 _ rfl);have HB:=Hd B0;have LQ:=Hd B0.size;have H:=Hd h;have HS:=Hd hs;have H0:=Hd h0;have HD:=Hd hd;have m1:¬((M:Int)<0):=by omega
 clear h B0 hp hs h0 hd hM;subst hfv;generalize hfv:(Value.slice FA code.length Su)=fv at*;go_enter func73,ntmps73;go_upto_region 1 with fail;generalize w.alloc (.cells #[M,fv] 24)=W at*;generalize hq:w.heap.size=q at*;have x0:=BX.o.c0;have x1:=BX.o.c1
 go_upto_region 6 with(go_at_call 112;refine(C1.out _ HB.o).q λw1 Sr=> ?_;have BX:=Hd (BX.o.below Sr BX.o.lt);have HB:=Hd (HB.o.trans (Sr.mono LQ.out));have x2:=BX.o.c0;have x3:w1.cell? ⟨q,1,none⟩=some fv:=BX.o.cell 1)
 clear x0 x1 C1 LQ;have CB:=Hd (λw2 s d (b:Below w1.heap.size w1 w2) (sd:aD w2 s d (List.replicate M 0)) (ls:w1.heap.size<=s) (ld:w1.heap.size<=d)=>JP (w:=w) (w1:=w2) H.o (by rw[hq];exact HB.o.trans (b.mono U109)) sd U109 U109)
 go_region_law (first|(go_simp;go_at_call 78;refine(CN.out _).mono ?_;rintro ev w2 ⟨s,d,rfl,sd,ls,ld,hb2⟩;have hb2:=Hd (show Below w1.heap.size w1 w2 from by first|exact hb2|exact(Below.refl _ _).drew.trans hb2);have BX2:=Hd (BX.o.below hb2.out BX.o.lt);have y0:=BX2.o.c0;have y1:w2.cell? ⟨q,1,none⟩=some fv:=BX2.o.cell 1;have EB:=Hd (CB.out w2 s d hb2.out sd ls ld)))
 all_goals
  clear x2 x3 y0 y1 CN CB;generalize w2.alloc (.cells #[M,fv,.slice none 0 0,ptr s,.slice none 0 0,(0:Int),(0:Int),(0:Int),.slice none 0 0,.slice none 0 0,(0:Int),(0:Int),(0:Int)] 162)=w3 at*;generalize w2.heap.size=e at*;have cP:=Hd (AU EB.out ⟨1,0,0,ax,false⟩ (n0 _) 1 1 (by show wrap64 ((0:Int)+1)=1;exact rQ 1 U0) (by simp[es0]));unfold SF.cells ax at cP;dsimp only at cP;go_wp2_with fail
  go_loopw [30] (λi wr=>i=.int .i64 0/\wr=w3) (λi _=>0)
  case atStart=>exact⟨rfl,rfl⟩
  case round=>
   obtain⟨rfl,rfl⟩:=hrel
   go_wp2_with (go_at_call 113;refine cP.o.mono ?_;rintro ev w4 ⟨rfl,lv4,h4⟩)
   have H4:=Hd (show aG w w4 e s d M fv code lv4 (.slice none 0 0) (S 0)from by rw[H0.o];exact h4);clear h4 cP EB
   go_loopw [49] (λi wr=>∃(k:Nat) (lv mv:Value),k<n/\i=.int .i64 k/\aG w wr e s d M fv code lv mv (S k)/\(S k).status=0) (λi _=>n-(intOf i).toNat)
   case atStart=>exact⟨0,_,_,hn.1,rfl,H4.o,by rw[H0.o];rfl⟩
   case round=>
    obtain⟨k,lv,mv,hk,rfl,HE,hst⟩:=hrel;have h99:(k:Int)<99:=by omega
    have hw:wrap64 ((k:Int)+1)=((k+1:Nat):Int):=iN hk U2;obtain⟨ok,hs⟩:=HS.o k hk;have c1:=Hd (Lg HE ok);have M2:=Hd (iM hk);have HN:=Hd hn;have HK:=Hd hk;clear HE ok hn H4 hst
    by_cases hl:k+1<n
    ·rw[if_pos hl]at hs
     have HL:=Hd hl;clear hl hk
     go_wp2_with (go_at_call 114;refine c1.o.mono ?_;rintro ev w5 ⟨rfl,lv5,mv5,h5⟩;have H5:=Hd h5;have y6:w5.cell? ⟨e,6,none⟩=some (.int .i64 0):=(by rw[<-hs];exact h5.bx.cell 6);clear h5)
     go_roundw
     case rel=>exact⟨k+1,lv5,mv5,HL.o,by first|rw[hw]|simp,H5.o,hs⟩
     case measure=>first|exact M2.out|(rw[hw];simpa using M2.out)
    ·rw[if_neg hl]at hs
     have hkn:k+1=n:=by omega
     rw[hkn]at c1 hs;clear hl hk hkn
     go_wp2_with (first|(go_at_call 114;refine c1.o.mono ?_;rintro ev w5 ⟨rfl,lv5,mv5,h5⟩;have H5:=Hd h5;have y6:w5.cell? ⟨e,6,none⟩=some (.int .i64 1):=(by rw[<-hs];exact h5.bx.cell 6);have y3:=h5.bx.c3;have cA:=Hd (AJ w5 s d _ h5.da (nT HD.o U0));have le:=Hd h5.bx.lt;clear h5)|(go_at_call 32;refine cA.o.mono ?_;rintro ev w6 ⟨mem,rfl,ho6,hb6⟩;obtain⟨A6,c6,rfl⟩:=ownsRow_form ho6;have H6:=Hd (H5.o.ai hb6);have y9:=H6.o.bx.cell 9;have yf:=H6.o.bx.fz 9;have YT:=y9))
     refine bodyPost_ret (v:=.tuple #[ptr e,(0:Int)]) (by simp[results,results73,go_sem]) rfl ?_
     exact⟨e,s,lv5,mv5,A6,(S n).data.length,c6,rfl,H6.o.bx.set 9 _,H6.o.qK.kept (Kept.one w6 e 9 _) (λb z1 z2=>H6.o.qK.ne H6.o.bx U0 (z1.trans (congrArg some z2))),H6.o.B.setCell H6.o.le _⟩
theorem uN:(prog.info? 31).map (·.size)=some 7:=by kernel_rfl
def KE(st:ES)(mem:Value):Value:=.agg #[st.status,(0:Int),.slice none 0 0,mem,st.steps,st.frames,st.deepest]
theorem Ld(w:World)(M:Nat)(fv:Value)(st:ES)(hd:∀w2,Below w.heap.size w w2->Calls prog 73 #[.agg #[M,fv],.slice none 0 0,(99:Int)] w2 (QQ w2 M fv st)):Calls prog 53 #[.agg #[M,fv],.slice none 0 0,(99:Int)] w λev w'=>(∃A n c,ev=.returned (.tuple #[KE st (.slice A n c),(0:Int)]))/\Below w.heap.size w w':=by
 have z0:=(af.new w #[M,fv] 24 _ rfl).alloc (.cells #[(0:Int),(0:Int),.slice none 0 0,.slice none 0 0,(0:Int),(0:Int),(0:Int)] 31);have z1:=af.new (w.alloc (.cells #[M,fv] 24)) #[(0:Int),(0:Int),.slice none 0 0,.slice none 0 0,(0:Int),(0:Int),(0:Int)] 31 _ rfl;rw[World.size_alloc]at z1;have BW:Below w.heap.size w ((w.alloc (.cells #[M,fv] 24)).alloc (.cells #[(0:Int),(0:Int),.slice none 0 0,.slice none 0 0,(0:Int),(0:Int),(0:Int)] 31)):=(Ba _).alloc U8 _;have HB:=Hd BW;have LQ:=Hd BW.size;have C1:=Hd (hd _ BW);have Z1:=Hd z1;have Z0:=Hd z0;clear hd BW z0 z1;go_enter func53,ntmps53;go_upto_region 1 with fail;generalize(w.alloc (.cells #[M,fv] 24)).alloc (.cells #[(0:Int),(0:Int),.slice none 0 0,.slice none 0 0,(0:Int),(0:Int),(0:Int)] 31)=W at*;generalize hq:w.heap.size=q at*;have x0:=Z0.out.c0;have x1:=Z0.out.c1
 go_wp2_with (first|(go_at_call 73;refine C1.out.mono ?_;rintro ev w1 ⟨e,s,lv,mv,A,n,c,rfl,h1,h2,Sr⟩;have B1:=Hd (HB.o.trans (Sr.mono LQ.out));have Y1:=Hd (Z1.out.below Sr Z1.out.lt);have y6:=h1.cell 6;have y7:=h1.cell 7;have y8:=h1.cell 8;have y9:=h1.cell 9;have y10:=h1.cell 10;have y11:=h1.cell 11;have y12:=h1.cell 12;unfold NI at y6 y7 y8 y9 y10 y11 y12;simp only[List.getElem?_toArray,List.getElem?_cons_zero,List.getElem?_cons_succ]at y6 y7 y8 y9 y10 y11 y12;clear h1 h2 Sr)|(refine aQ rfl 31 (.tmp 6) (.tmp 24) rfl (q+1) _ _ _ Y1.out rfl rfl uN rfl U17 ?_;intro w4 b4 k4))
 have hl:=run_loadVar_row w4 (q+1) 31 31 _ (0,0) _ b4 underlying31 rfl uN;refine bodyPost_ret (v:=.tuple #[KE st (.slice A n c),(0:Int)]) (by simp[results,results53,Act.put,asAddr,hl,KE]) rfl ⟨⟨A,n,c,rfl⟩,?_⟩;rw[hq]
 exact B1.o.trans (k4.below (λb z=>by have z:b=q+1:=z;omega) (by have:=B1.o.size;omega))
theorem Hm(w:World)(M:Nat)(fv:Value)(st:ES)(hd:∀w2,Below w.heap.size w w2->Calls prog 73 #[.agg #[M,fv],.slice none 0 0,(99:Int)] w2 (QQ w2 M fv st)):Calls prog 55 #[.agg #[M,fv],.slice none 0 0,(99:Int)] w λev w'=>∃mv,ev=.returned mv/\Own w' 211 3 Mk.cells mv st.marks/\Below w.heap.size w w':=by
 have z0:=(af.new w #[M,fv] 24 _ rfl);have BW:Below w.heap.size w (w.alloc (.cells #[M,fv] 24)):=Ba _;have HB:=Hd BW;have LQ:=Hd BW.size;have C1:=Hd (hd _ BW);have Z0:=Hd z0;clear hd BW z0;go_enter func55,ntmps55;go_upto_region 1 with fail;generalize w.alloc (.cells #[M,fv] 24)=W at*;generalize hq:w.heap.size=q at*;have x0:=Z0.out.c0;have x1:=Z0.out.c1
 go_wp2_with (first|(go_at_call 73;refine C1.out.mono ?_;rintro ev w1 ⟨e,s,lv,mv,A,n,c,rfl,h1,h2,Sr⟩;have B1:=Hd (HB.o.trans (Sr.mono LQ.out));have y4:w1.cell? ⟨e,4,none⟩=some mv:=h1.cell 4;have O2:=Hd h2;clear h1 h2 Sr))
 go_ret
 exact⟨mv,rfl,O2.out,by rw[hq];exact B1.o⟩
end Go.Proofs.YteiignfflbmafaaGreat.Tp
