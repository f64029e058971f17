/- TopOne, part 12. -/
import Derived.Test.YteiignfflbmafaaGreatQ11
import Derived.Deep.Upon
set_option linter.unusedVariables false
set_option linter.unusedSimpArgs false
set_option maxRecDepth 100000
set_option maxHeartbeats 8000000
namespace Go.Proofs.YteiignfflbmafaaGreat.Tp
open Go.Proofs.Tryz
open Go.RowKit Go.Proofs.YteiignfflbmafaaGreat.Tok
variable {z:Lay} {l:List WS} {k:Nat} {w:World} {m:Co} {x:WS}
theorem Us25 {p:Prop} (h:p:=by
 (try simp only[Exit.inBlock,Exit.then]);refine bodyPost_ret (results_none rfl _ _ _) rfl ?_
 exact⟨rfl,H3⟩):p:=h
theorem vv{m m1:Co}{i:Nat}(hm:m.begins i=some m1):m1.Sj=m.Sj/\m1.pl=m.pl:=by
 unfold Co.begins at hm
 split at hm
 ·split at hm
  ·cases hm;exact⟨rfl,rfl⟩
  ·cases hm
 ·cases hm;exact⟨rfl,rfl⟩
theorem gD{P:Program}{o:Oper}{a:Act}{w:World}{K:Act->World->Prop}{Q:Exit->Act->World->Prop}(ty:TypeId)(x y:Operand)(ho:o.op=.store ty x y)
  (b:Nat) (c cells:Array Value) (t:TypeId) (hb:af w b c t) (hx:a.eval x=.pointer (some ⟨b,0,none⟩)) (hy:a.eval y=.agg cells)
  (hi:(P.info? ty).map (·.size)=some cells.size) (hold:c.size=cells.size) (h1:cells.all (·.oneCell')=true)
  (h:∀w',af w' b cells t->Kept (One b) w w'->K (a.put o.dst undef) w'):o.wp P a w K Q:=
 wp_store_row ty x y ho b cells hx hy t c hb hi hold h1 (h _ (setRow_heap w b c cells t (0,0) hb) ⟨rfl,rfl,rfl,by simp,λk _ hn=>setRow_other w b k cells hn⟩)
theorem O6:(prog.info? 235).map (·.size)=some 5:=by kernel_rfl
def lC(n:Nat):Prop:=n=n
structure dI(z:Lay)(l:List WS)(k:Nat)(m:Co)(x:WS)(w0 w:World)(o6 o7:Option Nat):Prop where
 hc:A1 z l k w m x
 ai:Below w0.heap.size w0 w
 b6:∀b,o6=some b->af w b #[(0:Int),(0:Int),(0:Int),(0:Int),(0:Int),(0:Int),(0:Int),(0:Int)] 174 /\w0.heap.size<=b/\(∀b',o7=some b'->b≠b')
 b7:∀b,o7=some b->af w b #[(0:Int),(0:Int),(0:Int),(0:Int),(0:Int)] 235 /\w0.heap.size<=b
theorem dI.call{z:Lay}{l:List WS}{k:Nat}{m:Co}{x:WS}{w0 w w':World}{o6 o7:Option Nat}(h:dI z l k m x w0 w o6 o7)(b:Below w.heap.size w w'):dI z l k m x w0 w' o6 o7:=
 ⟨h.hc.ai b,h.ai.trans (b.mono h.ai.size),λq e=>⟨((h.b6 q e).1).below b ((h.b6 q e).1).lt,(h.b6 q e).2⟩,λq e=>⟨((h.b7 q e).1).below b ((h.b7 q e).1).lt,(h.b7 q e).2⟩⟩
theorem dI.drew{z:Lay}{l:List WS}{k:Nat}{m:Co}{x:WS}{w0 w:World}{o6 o7:Option Nat}(h:dI z l k m x w0 w o6 o7):dI z l k m x w0 w.drew o6 o7:=h.call (Below.refl _ _).drew
theorem dI.a6{z:Lay}{l:List WS}{k:Nat}{m:Co}{x:WS}{w0 w:World}{o7:Option Nat}(h:dI z l k m x w0 w none o7):dI z l k m x w0 (w.alloc (.cells #[(0:Int),(0:Int),(0:Int),(0:Int),(0:Int),(0:Int),(0:Int),(0:Int)] 174)) (some w.heap.size) o7:=
 ⟨h.hc.alloc _,h.ai.alloc h.ai.size _,λq e=>by cases e;exact⟨af.new _ _ _ _ rfl,h.ai.size,λb' e'=>by have:=((h.b7 b' e').1).lt;omega⟩,λq e=>⟨((h.b7 q e).1).alloc _,(h.b7 q e).2⟩⟩
theorem dI.a7{z:Lay}{l:List WS}{k:Nat}{m:Co}{x:WS}{w0 w:World}{o6:Option Nat}(h:dI z l k m x w0 w o6 none):dI z l k m x w0 (w.alloc (.cells #[(0:Int),(0:Int),(0:Int),(0:Int),(0:Int)] 235)) o6 (some w.heap.size):=
 ⟨h.hc.alloc _,h.ai.alloc h.ai.size _,λq e=>⟨((h.b6 q e).1).alloc _,(h.b6 q e).2.1,λb' e'=>by cases e';have:=((h.b6 q e).1).lt;omega⟩,λq e=>by cases e;exact⟨af.new _ _ _ _ rfl,h.ai.size⟩⟩
theorem af.typ{w:World}{b:Nat}{cs cs':Array Value}{t t':TypeId}(h:af w b cs t)(h':af w b cs' t'):t=t':=by
 unfold af at h h';rw[h]at h'
 simp at h'
 exact h'.2
theorem A1.Qc(h:A1 z l k w m x)(n:Int)(h1:m.out.length<m.most)(hm:m.most<=1000):Cs 150 #[ptr z.o,n] w (.bool true) λw'=>A1 z l k w' {m with out:=m.out++[n]} x/\(∀b cs,af w b cs 235 ->af w' b cs 235):=by
 obtain⟨bk,ov,gv,g,R,hk,W,Cc⟩:=h.parts;refine(JO w (z.y bk ov gv) m n Cc h1 hm).mono λe w' ⟨e1,v,C',F,K⟩=>⟨e1,A1.fC h.1 R K (λb q=>?_) _ bk v gv C' (λb q=>?_),λb cs hb=>K.blk hb (λq=>?_)⟩
 ·rcases q with q|q
  ·exact U138
  ·exact U141
 ·exact Us7
 ·rcases q with q|q
  ·subst q;exact absurd (hb.typ Cc.sink) U0
  ·obtain⟨cs',q2⟩:=Cc.out.type q;exact absurd (hb.typ q2) U0
theorem A1.Nc(h:A1 z l k w m x)(kd a v o rg:Int)(h1:1<=kd)(h4:kd<=4):Cs 148 #[ptr z.c,.agg #[kd,a,v,o,rg]] w (.tuple #[.int .i64 (m.ask kd a v o).2.1,.bool (m.ask kd a v o).2.2]) λw'=>A1 z l k w' (m.ask kd a v o).1 x/\(∀b cs t,af w b cs t->t≠ 3 ->af w' b cs t):=by
 obtain⟨bk,ov,gv,g,R,hk,W,Cc⟩:=h.parts;have key:∀w',Kept (One z.dd) w w'->(∀b cs t,af w b cs t->t≠ 3 ->af w' b cs t):=λw' K b cs t hb ht=>K.blk hb (λq=>by have q':b=z.dd:=q;rw[q']at hb;exact ht (hb.typ Cc.data.ws));have e:kd=1∨kd=2∨kd=3∨kd=4:=by omega
 rcases e with rfl|rfl|rfl|rfl
 ·exact(DZ w (z.y bk ov gv) m a v o rg Cc).mono λev w' ⟨e,C',K⟩=>⟨e,A1.fC h.1 R K (λb q=>by have q':b=z.dd:=q;subst q';simp[Ly.has,Lay.y]) _ bk ov gv C' (λb q=>Or.inl q),key w' K⟩
 ·exact(D5 w (z.y bk ov gv) m a v o rg Cc).mono λev w' ⟨e,C',K⟩=>⟨e,A1.fC h.1 R K (λb q=>by have q':b=z.dd:=q;subst q';simp[Ly.has,Lay.y]) _ bk ov gv C' (λb q=>Or.inl q),key w' K⟩
 ·exact(D6 w (z.y bk ov gv) m a v o rg Cc).mono λev w' ⟨e,C',K⟩=>⟨e,A1.fC h.1 R K (λb q=>by have q':b=z.dd:=q;subst q';simp[Ly.has,Lay.y]) _ bk ov gv C' (λb q=>Or.inl q),key w' K⟩
 ·exact(D7 w (z.y bk ov gv) m a v o rg Cc).mono λev w' ⟨e,C',K⟩=>⟨e,A1.fC h.1 R K (λb q=>by have q':b=z.dd:=q;subst q';simp[Ly.has,Lay.y]) _ bk ov gv C' (λb q=>Or.inl q),key w' K⟩
theorem A1.QJ(h:A1 z l k w m x)(m':Co)(x':WS)(hf:m.runs x=some (m',x')):Cs 97 #[ptr (z.wq k),ptr z.c] w (.tuple #[]) λw'=>A1 z l k w' m' x':=by
 unfold Co.runs at hf
 split at hf
 rotate_left
 ·cases hf
 rename_i hh;obtain⟨hi,hx'⟩:=hh;have hx:=hx'.symm;clear hx';generalize x.Sa.toNat=i at*
 split at hf
 rotate_left
 ·cases hf
 rename_i m1 hb;have Sr:=vv hb;have hi1:m1.ok i:=by unfold Co.ok;rw[Sr.1];exact hi
 have c0:=Hd (h.aT i hi hx);have HF:=Hd hf;clear hf;have xd:w.cell? ⟨z.fr,19*i+13,none⟩=some (.bool (m.fr i).due):=h.frame i hi 13 U0 _ rfl;go_enter func97,ntmps97
 go_upto_region 1 with(go_at_call 139;refine c0.o.r ?_)
 go_upto_if 17 with fail
 go_cut []from 17 to 41 (λwx=>A1 z l k wx m1 x)
 case first=>
  unfold Co.begins at hb
  cases hd:(m.fr i).due with
  |true=>
   rw[if_pos hd]at hb
   split at hb
   rotate_left
   ·cases hb
   rename_i hp
   cases hb
   clear Sr hi1 HF;obtain⟨hp,hpa',hl⟩:=hp;have hpa:=hpa'.symm;clear hpa';rw[hd]at xd;have hl1:(m.ak i {m.fr i with due:=false}).log.length<100000:=Nat.lt_succ_of_lt hl;have hi0:(m.ak i {m.fr i with due:=false}).ok i:=hi;have fl:=h.iB i hi;have fri:(m.ak i {m.fr i with due:=false}).fr i={m.fr i with due:=false}:=Co.dE hi fl;have hpa0:((m.ak i {m.fr i with due:=false}).fr i).Sg=((m.fr i).Sg.toNat:Int):=by rw[fri];exact hpa
   have hp0:(m.ak i {m.fr i with due:=false}).ok (m.fr i).Sg.toNat:=hp;have H3:=h.aF i hi 13 U0 (.bool false) {m.fr i with due:=false} rfl;have sz:=h.sM;clear h c0 fl fri hpa hp hl hd hi hx;generalize(m.fr i).Sg.toNat=p at*;generalize m.ak i {m.fr i with due:=false}=M0 at*;go_upto_region 3 with fail;clear sz xd;generalize w.setCell ⟨z.fr,19*i+13,none⟩ (.bool false)=W at*;have c1:=Hd (λw (h:A1 z l k w M0 x)=>h.Jp);have c2:=Hd (λw (h:A1 z l k w M0 x)=>h.at_ p hp0);have c3:=Hd (λw (h:A1 z l k w M0 x)=>(h.note ⟨2,(M0.fr p).ae,(M0.fr i).index,(M0.fr i).Sc⟩ hl1).mono (R':=λe w'=>e=.returned (.tuple #[])/\A1 z l k w' (M0.bM i p 2) x) (λ_ _ q=>q));have xa:W.cell? ⟨z.fr,19*i+11,none⟩=some ↑p:=H3.frame i hi0 11 U0 _ (by rw[<-hpa0];rfl);have xb:W.cell? ⟨z.fr,19*i+14,none⟩=some (.int .i64 (M0.fr i).index):=H3.frame i hi0 14 U0 _ rfl;have xc:W.cell? ⟨z.fr,19*i+15,none⟩=some (.int .i64 (M0.fr i).Sc):=H3.frame i hi0 15 U0 _ rfl;have xd:W.cell? ⟨z.fr,19*p+18,none⟩=some (.int .i64 (M0.fr p).ae):=H3.frame p hp0 18 U0 _ rfl;have FF:=Hd (λ(w2:World) (H2:A1 z l k w2 (M0.bM i p 2) x)=>(show w2.cell? ⟨z.fr,19*i+11,none⟩=some ↑p/\w2.cell? ⟨z.fr,19*i+14,none⟩=some (.int .i64 (M0.fr i).index)/\w2.cell? ⟨z.fr,19*i+15,none⟩=some (.int .i64 (M0.fr i).Sc)/\w2.cell? ⟨z.fr,19*p+18,none⟩=some (.int .i64 (M0.fr p).ae)from
    ⟨H2.frame i hi0 11 U0 _ (by rw[<-hpa0];rfl),H2.frame i hi0 14 U0 _ rfl,H2.frame i hi0 15 U0 _ rfl,H2.frame p hp0 18 U0 _ rfl⟩))
   have H0:=Hd H3;dsimp only at c3;generalize M0.bM i p 2=M at*;generalize(M0.fr p).ae=sr at*;generalize(M0.fr i).index=ix at*;generalize(M0.fr i).Sc=sg at*;generalize 19*i=I at*;generalize 19*p=P at*;clear H3 hpa0 hl1 hi0 hp0
   go_region_held3 (λw'=>w'.cell? ⟨z.fr,I+11,none⟩=some ↑p/\w'.cell? ⟨z.fr,I+14,none⟩=some ↑ix/\w'.cell? ⟨z.fr,I+15,none⟩=some ↑sg/\w'.cell? ⟨z.fr,P+18,none⟩=some ↑sr)
    (((try dsimp only);(try go_split_ands);(repeat' apply And.intro)<;>(repeat(first|(with_reducible assumption)|(with_reducible refine kc ?_)|(with_reducible refine kd ?_)|trivial))))
    (first|(go_at_call 38;refine(c1.o _ U4).r ?_)|(go_at_call 141;refine(c2.o _ U4).r ?_)|(go_at_call 140;refine(c3.o _ U4).q λw2 H2=> ?_;have F2:=FF.out w2 H2;obtain⟨f1,f2,f3,f4⟩:=F2))
   all_goals
    go_wp2_with fail
    go_meet
    exact U48
  |false=>
   rw[if_neg (by rw[hd];decide)]at hb
   cases hb
   rw[hd]at xd;go_wp2_with fail
   go_meet
   exact h
 case rest=>
  clear c0 xd hb h Sr;have HC:=hcut;clear hcut;have e1:wc.cell? ⟨z.fr,19*i+1,none⟩=some (.int .i64 (m1.fr i).fn):=HC.frame i hi1 1 U0 _ rfl;have e2:wc.cell? ⟨z.fr,19*i+2,none⟩=some (.int .i64 (m1.fr i).pc):=HC.frame i hi1 2 U0 _ rfl;have g0:wc.cell? ⟨z.fr,19*i+3,none⟩=some (.int .i64 (m1.fr i).rg.r0):=HC.frame i hi1 3 U0 _ rfl;have g1:wc.cell? ⟨z.fr,19*i+4,none⟩=some (.int .i64 (m1.fr i).rg.r1):=HC.frame i hi1 4 U0 _ rfl;have g2:wc.cell? ⟨z.fr,19*i+5,none⟩=some (.int .i64 (m1.fr i).rg.r2):=HC.frame i hi1 5 U0 _ rfl;have g3:wc.cell? ⟨z.fr,19*i+6,none⟩=some (.int .i64 (m1.fr i).rg.r3):=HC.frame i hi1 6 U0 _ rfl;have g4:wc.cell? ⟨z.fr,19*i+7,none⟩=some (.int .i64 (m1.fr i).rg.r4):=HC.frame i hi1 7 U0 _ rfl;have g5:wc.cell? ⟨z.fr,19*i+8,none⟩=some (.int .i64 (m1.fr i).rg.r5):=HC.frame i hi1 8 U0 _ rfl;have g6:wc.cell? ⟨z.fr,19*i+9,none⟩=some (.int .i64 (m1.fr i).rg.r6):=HC.frame i hi1 9 U0 _ rfl;have g7:wc.cell? ⟨z.fr,19*i+10,none⟩=some (.int .i64 (m1.fr i).rg.r7):=HC.frame i hi1 10 U0 _ rfl;have FS:=Hd (λw (h:A1 z l k w m1 x)=>(⟨h.frame i hi1 1 U0 _ rfl,h.frame i hi1 2 U0 _ rfl,h.frame i hi1 3 U0 _ rfl,h.frame i hi1 4 U0 _ rfl,h.frame i hi1 5 U0 _ rfl,h.frame i hi1 6 U0 _ rfl,h.frame i hi1 7 U0 _ rfl,h.frame i hi1 8 U0 _ rfl,h.frame i hi1 9 U0 _ rfl,h.frame i hi1 10 U0 _ rfl⟩:w.cell? ⟨z.fr,19*i+1,none⟩=some (.int .i64 (m1.fr i).fn)/\w.cell? ⟨z.fr,19*i+2,none⟩=some (.int .i64 (m1.fr i).pc)/\w.cell? ⟨z.fr,19*i+3,none⟩=some (.int .i64 (m1.fr i).rg.r0)/\w.cell? ⟨z.fr,19*i+4,none⟩=some (.int .i64 (m1.fr i).rg.r1)/\w.cell? ⟨z.fr,19*i+5,none⟩=some (.int .i64 (m1.fr i).rg.r2)/\w.cell? ⟨z.fr,19*i+6,none⟩=some (.int .i64 (m1.fr i).rg.r3)/\w.cell? ⟨z.fr,19*i+7,none⟩=some (.int .i64 (m1.fr i).rg.r4)/\w.cell? ⟨z.fr,19*i+8,none⟩=some (.int .i64 (m1.fr i).rg.r5)/\w.cell? ⟨z.fr,19*i+9,none⟩=some (.int .i64 (m1.fr i).rg.r6)/\w.cell? ⟨z.fr,19*i+10,none⟩=some (.int .i64 (m1.fr i).rg.r7)))
  have ce:=Hd (λw (h:A1 z l k w m1 x)=>h.P8 (m1.fr i).fn (m1.fr i).pc);unfold Is.v at ce;have cd:=Hd (λw=>Sp.Mj (m1.at_ (m1.fr i).fn (m1.fr i).pc).op (m1.at_ (m1.fr i).fn (m1.fr i).pc).a (m1.at_ (m1.fr i).fn (m1.fr i).pc).b (m1.at_ (m1.fr i).fn (m1.fr i).pc).c (m1.fr i).pc (m1.fr i).rg w);have HF:=HF.o;unfold Co.does at HF;dsimp only at HF;generalize m1.at_ (m1.fr i).fn (m1.fr i).pc=cc at*;generalize Sp.vG cc.op cc.a cc.b cc.c (m1.fr i).pc (m1.fr i).rg=PC at*;generalize Sp.lN cc.op cc.a cc.b cc.c (m1.fr i).rg=RG at*;generalize Sp.lM cc.op cc.a cc.b cc.c (m1.fr i).rg=EF at*;generalize Sp.uw cc.op cc.c (m1.fr i).rg=FT at*;have HF:=Hd HF;have HI:=Hd (rfl:19*i=19*i);generalize hI:19*i=I at e1 e2 g0 g1 g2 g3 g4 g5 g6 g7 FS⊢;have lc:=HC.lt;have lf:z.fr<wc.heap.size:=bL _ _ e1;have H0:=Hd HC;have hI:=Hd hI;generalize(m1.fr i).fn=fn at e1 ce FS;generalize hpc0:(m1.fr i).pc=pc0 at e2 ce cd FS;have HRG0:=Hd (rfl:(m1.fr i).rg=(m1.fr i).rg);generalize hrg:(m1.fr i).rg=R0 at e1 e2 g0 g1 g2 g3 g4 g5 g6 g7 cd FS;clear hrg hpc0;clear HC;go_upto_region 4 with fail
  go_cut [5,6,7,8]from 42 to 65 (λs5 s6 s7 s8 wx=>s5=.int .i64 PC/\s8=.int .i64 FT/\∃b6 b7,s6=ptr b6/\s7=ptr b7/\b6≠b7/\wc.heap.size<=b6/\wc.heap.size<=b7/\af wx b6 RG.arr 174 /\af wx b7 #[EF.kind,EF.at_,EF.value,EF.other,EF.reg] 235 /\Below wc.heap.size wc wx)
  case first=>
   clear HF hI HRG0 HI;have HN:lC 0:=rfl;have HS:dI z l k m1 x wc wc none none:=⟨H0.o,Below.refl _ _,(λb q=>by cases q),(λb q=>by cases q)⟩;refine wp_region_held_drew (S:=(λw'=>w'.cell? ⟨z.fr,I+1,none⟩=some ↑fn/\w'.cell? ⟨z.fr,I+2,none⟩=some ↑pc0/\w'.cell? ⟨z.fr,I+3,none⟩=some ↑R0.r0/\w'.cell? ⟨z.fr,I+4,none⟩=some ↑R0.r1/\w'.cell? ⟨z.fr,I+5,none⟩=some ↑R0.r2/\w'.cell? ⟨z.fr,I+6,none⟩=some ↑R0.r3/\w'.cell? ⟨z.fr,I+7,none⟩=some ↑R0.r4/\w'.cell? ⟨z.fr,I+8,none⟩=some ↑R0.r5/\w'.cell? ⟨z.fr,I+9,none⟩=some ↑R0.r6/\w'.cell? ⟨z.fr,I+10,none⟩=some ↑R0.r7)) U7 ?_ (λhHeld=>?_)
   ·exact FS.o _ H0.o.drew
   replace HS:=HS.drew;generalize wc.drew=wd at*;refine hU 0 ?_;refine pz ?_;refine hU 1 ?_;refine hU 2 ?_;refine hU 3 ?_;refine pz ?_;refine hU 4 ?_;refine hU 5 ?_;refine hU 6 ?_;refine pz ?_;refine hU 7 ?_;refine hU 8 ?_;refine hU 10 ?_;refine pz ?_;refine hU 11 ?_;refine hU 12 ?_;refine hU 13 ?_;refine pz ?_;refine hU 14 ?_;refine hU 15 ?_;refine hU 16 ?_;refine pz ?_;refine hU 17 ?_
   iterate 4
    all_goals
     refine pz ?_
     first
     |(have q:dI _ _ _ _ _ _ _ none none:=HS;have q2:lC 0:=HN;clear q q2;refine wpAnyH_ready (rs:=[9,24,25]) U7 U8 ?_)
     |(have q:dI _ _ _ _ _ _ _ none (some _):=HS;have q2:lC 0:=HN;clear q q2;refine wpAnyH_ready (rs:=[9,24]) U7 U8 ?_)
     |(have q:dI _ _ _ _ _ _ _ (some _) none:=HS;have q2:lC 0:=HN;clear q q2;refine wpAnyH_ready (rs:=[9,25]) U7 U8 ?_)
     |(have q:dI _ _ _ _ _ _ _ (some _) (some _):=HS;have q2:lC 0:=HN;clear q q2;refine wpAnyH_ready (rs:=[9]) U7 U8 ?_)
     |(have q:dI _ _ _ _ _ _ _ none none:=HS;have q2:lC 1:=HN;clear q q2;refine wpAnyH_ready (rs:=[18,24,25]) U7 U8 ?_)
     |(have q:dI _ _ _ _ _ _ _ none (some _):=HS;have q2:lC 1:=HN;clear q q2;refine wpAnyH_ready (rs:=[18,24]) U7 U8 ?_)
     |(have q:dI _ _ _ _ _ _ _ (some _) none:=HS;have q2:lC 1:=HN;clear q q2;refine wpAnyH_ready (rs:=[18,25]) U7 U8 ?_)
     |(have q:dI _ _ _ _ _ _ _ (some _) (some _):=HS;have q2:lC 1:=HN;clear q q2;refine wpAnyH_ready (rs:=[18]) U7 U8 ?_)
     |(have q:dI _ _ _ _ _ _ _ none none:=HS;have q2:lC 2:=HN;clear q q2;refine wpAnyH_ready (rs:=[24,25]) U7 U8 ?_)
     |(have q:dI _ _ _ _ _ _ _ none (some _):=HS;have q2:lC 2:=HN;clear q q2;refine wpAnyH_ready (rs:=[24]) U7 U8 ?_)
     |(have q:dI _ _ _ _ _ _ _ (some _) none:=HS;have q2:lC 2:=HN;clear q q2;refine wpAnyH_ready (rs:=[25]) U7 U8 ?_)
     repeat' (first|exact AllReadyH.nil|refine AllReadyH.cons (o:=_) rfl (λK hK=>?_) ?_)
    all_goals
     (try simp only[List.getElem_toArray,List.getElem_cons_zero,List.getElem_cons_succ])
     go_simp
     first
     |(go_at_call 143;refine(ce.o _ HS.hc).q λw1 Sr=> ?_;replace HS:=HS.call Sr;clear HN;have HN:lC 1:=rfl;refine hK.o _ _ (FS.o _ HS.hc) (λhHeld=>?_))
     |(go_at_call 142;refine(cd.o _).q λw1 Sr=> ?_;replace HS:=HS.call Sr;clear HN;have HN:lC 2:=rfl;refine hK.o _ _ (FS.o _ HS.hc) (λhHeld=>?_);refine pz ?_;refine hT 19 ?_ rfl U7 (λ_ _ _ h=>h) (by rfl) ?_ U6 ?_;rotate_left 1;(·intro w hSw;(try dsimp only at hSw);(try go_split_ands);go_simp<;>with_reducible rfl);refine hT 20 ?_ rfl U7 (λ_ _ _ h=>h) (by rfl) ?_ U6 ?_;rotate_left 1;(·intro w hSw;(try dsimp only at hSw);(try go_split_ands);go_simp<;>with_reducible rfl);refine pz ?_;refine hT 21 ?_ rfl U7 (λ_ _ _ h=>h) (by rfl) ?_ U6 ?_;rotate_left 1;(·intro w hSw;(try dsimp only at hSw);(try go_split_ands);go_simp<;>with_reducible rfl);refine hT 22 ?_ rfl U7 (λ_ _ _ h=>h) (by rfl) ?_ U6 ?_;rotate_left 1;(·intro w hSw;(try dsimp only at hSw);(try go_split_ands);go_simp<;>with_reducible rfl);refine hT 23 ?_ rfl U7 (λ_ _ _ h=>h) (by rfl) ?_ U6 ?_;rotate_left 1;(·intro w hSw;(try dsimp only at hSw);(try go_split_ands);go_simp<;>with_reducible rfl);refine pz ?_)
     |(replace HS:=HS.a6;refine hK.o _ _ (FS.o _ HS.hc) (λhHeld=>?_);(try rw[World.size_alloc]at HS))
     |(replace HS:=HS.a7;refine hK.o _ _ (FS.o _ HS.hc) (λhHeld=>?_);(try rw[World.size_alloc]at HS))
     clear hK K;refine pz ?_
   all_goals
    have HE:=HS.b6 _ rfl;have HE7:=HS.b7 _ rfl;have hne:=HE.2.2 _ rfl;refine hU 26 ?_;refine wpAnyH_ready (rs:=[27]) U7 U8 ?_;refine hA (λK hK=>?_)
    (try simp only[List.getElem_toArray,List.getElem_cons_zero,List.getElem_cons_succ])
    rw[if_pos (by rfl)];refine gD 174 (.tmp 6) (.tmp 63) rfl _ _ _ _ HE.1 rfl rfl ky rfl U17 ?_;intro w2 B6 K6;have HB2:Below wc.heap.size wc w2:=HS.ai.trans (K6.below (λk q=>by have q':=(q:k=_);rw[q'];exact HE.2.1) HS.ai.size);have B7:=K6.blk HE7.1 (λq=>hne (Eq.symm (show _=_ from q)));refine hK.o _ _ (FS.o _ (H0.o.ai HB2)) (λhHeld=>?_);clear hK K;refine pz ?_;refine wpAnyH_ready (rs:=[28]) U7 U8 ?_;refine hA (λK hK=>?_)
    (try simp only[List.getElem_toArray,List.getElem_cons_zero,List.getElem_cons_succ])
    rw[if_pos (by rfl)];refine gD 235 (.tmp 7) (.tmp 64) rfl _ _ _ _ B7 rfl rfl O6 rfl U17 ?_;intro w3 B7' K7;have HB3:Below wc.heap.size wc w3:=HB2.trans (K7.below (λk q=>by have q':=(q:k=_);rw[q'];exact HE7.2) HB2.size);have B6':=K7.blk B6 (λq=>hne (show _=_ from q));refine hK.o _ _ (FS.o _ (H0.o.ai HB3)) (λhHeld=>?_);clear hK K;refine pz ?_;refine hU 29 ?_;refine pz ?_;refine wpAnyH_done U7 ?_ _;go_wp2_with fail
    go_meet
    exact⟨rfl,rfl,_,_,rfl,rfl,hne,HE.2.1,HE7.2,B6',B7',HB3⟩
  case rest=>
   clear e1 e2 g0 g1 g2 g3 g4 g5 g6 g7 ce cd FS lf;obtain⟨rfl,rfl,b6,b7,rfl,rfl,hne,hg6,hg7,B6,B7,HB⟩:=hcut;have HC:A1 z l k wc m1 x:=H0.o.ai HB;have lff:b6≠z.fr:=by have q:=bL _ _ (H0.o.frame i hi1 1 U0 _ rfl);intro e;rw[<-e]at q;exact absurd (show b6<_ from q) U2
   have lfg:b7≠z.fr:=by have q:=bL _ _ (H0.o.frame i hi1 1 U0 _ rfl);intro e;rw[<-e]at q;exact absurd (show b7<_ from q) U2
   clear HB hg6 hg7 H0 lc;generalize wc=wa at*;have hf:=HF.o;clear HF;go_upto_region 6 with fail
   go_cut [72]from 73 to 80 (λs72 wx=>s72=.bool (Decidable.decide (7<=EF.kind/\EF.kind<=12)&&(m1.fr i).az)/\Below wa.heap.size wa wx)
   case first=>
    have F12:wa.cell? ⟨z.fr,19*i+12,none⟩=some (.bool (m1.fr i).az):=HC.frame i hi1 12 U0 _ rfl;have lf:z.fr<wa.heap.size:=bL _ _ F12;have c1:=Hd (λw=>Sp.vN EF.kind EF.at_ EF.value EF.other EF.reg w);have k0:wa.cell? ⟨b7,0,none⟩=_:=B7.cell 0;have k1:wa.cell? ⟨b7,1,none⟩=_:=B7.cell 1;have k2:wa.cell? ⟨b7,2,none⟩=_:=B7.cell 2;have k3:wa.cell? ⟨b7,3,none⟩=_:=B7.cell 3;have k4:wa.cell? ⟨b7,4,none⟩=_:=B7.cell 4;have hI:=hI.out;rw[hI]at F12;clear hf B6 B7 HC;generalize(m1.fr i).az=dd at*;generalize Decidable.decide (7<=EF.kind/\EF.kind<=12)=ee at*
    cases ee<;>cases dd
    all_goals
     go_wp2_with (go_at_call 144;refine(c1.o _).q λw1 Sr=> ?_;have y12:=kb Sr lf F12)
     go_meet
     exact⟨rfl,Sr⟩
   case rest=>
    obtain⟨rfl,HB2⟩:=hcut;replace HC:=HC.ai HB2;replace B6:=B6.below HB2 B6.lt;replace B7:=B7.below HB2 B7.lt;clear HB2;generalize wc=W at*;have k0:W.cell? ⟨b7,0,none⟩=_:=B7.cell 0;have k1:W.cell? ⟨b7,1,none⟩=_:=B7.cell 1;have k2:W.cell? ⟨b7,2,none⟩=_:=B7.cell 2;have k3:W.cell? ⟨b7,3,none⟩=_:=B7.cell 3;have k4:W.cell? ⟨b7,4,none⟩=_:=B7.cell 4;have s0:=B6.c0;have s1:=B6.c1;have s2:=B6.c2;have s3:=B6.c3;have s4:=B6.c4;have s5:=B6.c5;have s6:=B6.c6;have s7:=B6.c7;have hI:=hI.out
    split at hf
    ·rename_i hE
     have ht:(Decidable.decide (7<=EF.kind/\EF.kind<=12)&&(m1.fr i).az)=true:=by rw[hE.2.2,decide_eq_true ⟨hE.1,hE.2.1⟩];rfl
     rw[ht];clear ht hE k0 k1 k2 k3 k4 s0 s1 s2 s3 s4 s5 s6 s7 B6 B7;generalize W=w at*;have h:=HC;clear HC;have c1:=Hd (λw (h:A1 z l k w m1 x)=>h.fP);have c2:=Hd (λw=>bX m1.pl h.bQ (i:Int) w);have c3:=Hd (λw hS=>eG w z.ws z.wd m1.RY (m1.pl.fN (i:Int)) (jC _ h.bQ (i:Int) m1.RY h.bU) hS);have c4:=Hd (λw (h:A1 z l k w m1 x)=>h.aN);have H0:=Hd h;have l0:=h.lt;have xc:w.cell? ⟨z.wq k,2,none⟩=some (.int .i64 (i:Int)):=h.cell 2 _ U21;have HLS:=Hd (show m1.last (i:Int)=(m1.RY.getD (m1.pl.fN (i:Int)) 0==1)from rfl);rw[<-HLS.o]at c3
     cases hlast:m1.last (i:Int)
     all_goals
      rw[hlast]at hf c3;clear hlast HLS;simp only[if_true,if_false,Bool.false_eq_true,reduceIte,Option.some.injEq,Prod.mk.injEq]at hf;obtain⟨rfl,rfl⟩:=hf;clear h;go_upto_region 7 with fail
      go_region_held3 (λw'=>w'.cell? ⟨z.wq k,2,none⟩=some (.int .i64 (i:Int)))
       (exact U159)
       (first|(go_at_call 93;refine(c4.o _ U16).r ?_)|(go_at_call 91;refine(c1.o _ U4).q λw1 Sr=> ?_;have l1:=nL l0 Sr.size)|(go_at_call 129;refine(c2.o _).q λw2 hb2=> ?_;have l2:=nL l1 hb2.size;have B1:=(by first|exact Sr|exact(Below.refl _ w).drew.trans Sr|exact(Below.refl _ w).drew.drew.trans Sr:Below w.heap.size w w1);have B2:=(by first|exact B1.trans (hb2.mono B1.size)|exact B1.drew.trans (hb2.mono B1.size):Below w.heap.size w w2))|(go_at_call 145;refine(c3.o _ U29).mono ?_;rintro ev w3 ⟨rfl,s3,k3⟩;have nwq:=(λz1=>(H0.o.sep).1 z1:¬One z.wd (z.wq k));have l3:=nL l2 k3.size))
     ·all_goals
       have K3:Kept (One z.wd) w w3:=by first|exact(Kept.ob B2).trans k3|exact(Kept.ob B2).drew.trans k3
       have H3:A1 z l k w3 (m1.leave (i:Int)) x:=H0.o.aC _ s3 U8 K3;have c5:=Hd (λw (h:A1 z l k w (m1.leave (i:Int)) x)=>h.q9)
       go_wp2_with (go_at_call 146;refine(c5.o _ U30).q λw4 H4=> ?_)
       go_end0
       exact⟨rfl,H4⟩
     ·all_goals
       have K3:Kept (One z.wd) w w3:=by first|exact(Kept.ob B2).trans k3|exact(Kept.ob B2).drew.trans k3
       have H3:A1 z l k w3 (m1.leave (i:Int)) x:=H0.o.aC _ s3 U8 K3;have z3:=H3.fz;have y1:=H3.cell 1 _ rfl;have H4:=H3.set 1 (.int .i64 5) {x with R8:=5} ⟨rfl,rfl,rfl,rfl,rfl⟩ (λ_ _ _ _ _ _=>rfl);go_wp2_with fail
       (try simp only[Exit.inBlock,Exit.then]);refine bodyPost_ret (results_none rfl _ _ _) rfl ?_
       exact⟨rfl,by first|exact H4|exact H4.drew⟩
    rename_i hE;have ht:(Decidable.decide (7<=EF.kind/\EF.kind<=12)&&(m1.fr i).az)=false:=by
     cases hd:(m1.fr i).az
     ·simp
     ·have q:¬(7<=EF.kind/\EF.kind<=12):=λq=>hE ⟨q.1,q.2,hd⟩
      rw[decide_eq_false q];rfl
    rw[ht];clear ht
    split at hf
    ·rename_i hF
     simp only[oe]at hf;obtain⟨rfl,rfl⟩:=hf;have c1:=Hd (HC.jR 4 FT);have d1:¬(FT=0):=hF;clear hE k0 k1 k2 k3 k4 s0 s1 s2 s3 s4 s5 s6 s7 B6 B7 HC
     go_wp2_with (go_at_call 138;refine c1.o.q λw3 H3=> ?_)
     go_end0
     exact⟨rfl,H3⟩
    rename_i hF;obtain rfl:FT=0:=Decidable.not_not.1 hF;clear hF
    split at hf
    ·rename_i hA
     have hA2:∀w,Cs 147 #[.agg #[EF.kind,EF.at_,EF.value,EF.other,EF.reg]] w (.bool true) λw'=>Below w.heap.size w w':=λw=>by
      have q:=Sp.pR EF.kind EF.at_ EF.value EF.other EF.reg w;rw[decide_eq_true hA]at q
      exact q
     have c1:=Hd hA2;clear hA2 hE
     go_upto_region 13 with(go_at_call 147;refine(c1.o _).q λw1 Sr=> ?_)
     replace HC:=HC.ai Sr;replace B6:=B6.below Sr B6.lt;replace B7:=B7.below Sr B7.lt;clear k0 k1 k2 k3 k4 s0 s1 s2 s3 s4 s5 s6 s7 c1;clear Sr;have k0:w1.cell? ⟨b7,0,none⟩=_:=B7.cell 0;have k1:w1.cell? ⟨b7,1,none⟩=_:=B7.cell 1;have k2:w1.cell? ⟨b7,2,none⟩=_:=B7.cell 2;have k3:w1.cell? ⟨b7,3,none⟩=_:=B7.cell 3;have k4:w1.cell? ⟨b7,4,none⟩=_:=B7.cell 4;have hok:(m1.ask EF.kind EF.at_ EF.value EF.other).1.Sj=m1.Sj:=by unfold Co.ask;split<;>(try split)<;>(try split)<;>rfl
     have hfr:(m1.ask EF.kind EF.at_ EF.value EF.other).1.aJ=m1.aJ:=by unfold Co.ask;split<;>(try split)<;>(try split)<;>rfl
     have c2:=Hd (HC.Nc EF.kind EF.at_ EF.value EF.other EF.reg hA.1 hA.2);have hi2:(m1.ask EF.kind EF.at_ EF.value EF.other).1.ok i:=by unfold Co.ok;rw[hok];exact hi1
     have fri2:(m1.ask EF.kind EF.at_ EF.value EF.other).1.fr i=m1.fr i:=by unfold Co.fr;rw[hfr]
     clear hok hfr hA HC;generalize(m1.ask EF.kind EF.at_ EF.value EF.other).1=M2 at*;generalize(m1.ask EF.kind EF.at_ EF.value EF.other).2.1=Sl at*;generalize(m1.ask EF.kind EF.at_ EF.value EF.other).2.2=ok at*
     go_upto_region 14 with(go_at_call 148;refine c2.o.mono ?_;rintro ev w2 ⟨rfl,H2,HBK⟩)
     replace B6:=HBK _ _ _ B6 U0;replace B7:=HBK _ _ _ B7 U0;clear HBK k0 k1 k2 k3 k4 c2;have k0:w2.cell? ⟨b7,0,none⟩=_:=B7.cell 0;have k1:w2.cell? ⟨b7,1,none⟩=_:=B7.cell 1;have k2:w2.cell? ⟨b7,2,none⟩=_:=B7.cell 2;have k3:w2.cell? ⟨b7,3,none⟩=_:=B7.cell 3;have k4:w2.cell? ⟨b7,4,none⟩=_:=B7.cell 4;have s0:=B6.c0;have s1:=B6.c1;have s2:=B6.c2;have s3:=B6.c3;have s4:=B6.c4;have s5:=B6.c5;have s6:=B6.c6;have s7:=B6.c7
     split at hf
     ·rename_i hO
      subst hO;have c3:=Hd (λw=>Sp.wT RG EF.kind EF.at_ EF.value EF.other EF.reg Sl w);generalize Sp.iZ RG EF.kind EF.value EF.reg Sl=T at*;simp only[oe]at hf;obtain⟨rfl,rfl⟩:=hf;have fl:=H2.iB i hi2;have e4:∀f,(M2.ak i f).fr i=f:=λf=>Co.dE hi2 fl;have FE:=Hd (λw (h:A1 z l k w M2 x)=>(⟨h.frame i hi2 2 U0 _ rfl,h.sM,h.aF i hi2 2 U0 ↑PC {M2.fr i with pc:=PC} rfl⟩:w.cell? ⟨z.fr,19*i+2,none⟩=some (.int .i64 (M2.fr i).pc)/\(∀j,w.frozen? ⟨z.fr,j,none⟩=false)/\A1 z l k (w.setCell ⟨z.fr,19*i+2,none⟩ ↑PC) (M2.ak i {M2.fr i with pc:=PC}) x));have FG:=Hd (λw (h:A1 z l k w (M2.ak i {M2.fr i with pc:=PC}) x)=>(by
       have q:=h.jw i hi2 T;rw[Co.dH,e4,fri2]at q
       exact⟨h.jA i hi2,q⟩:w.there z.fr (19*i+3) 8/\A1 z l k (w.setCells z.fr (19*i+3) (jE T)) (M2.ak i {m1.fr i with pc:=PC,rg:=T}) x))
      have HON:=Hd (jv T);clear e4 fl fri2 hi2;have H2':=Hd H2;clear H2;rw[hI]at FE FG;go_upto_region 16 with fail
      go_wp2_with (first|(go_at_call 149;refine(c3.o _).q λw3 hb3=> ?_;have H3:=H2'.out.ai hb3;obtain⟨y2,z3,H4⟩:=FE.out _ H3;obtain⟨tt,H5⟩:=FG.out _ H4)|(refine wpList_store_mid rfl 174 (.tmp 126) (.tmp 122) rfl z.fr (I+3) (jE T).toArray rfl rfl tt ky (all_oneCell_toArray HON.o) ?_))
      go_end0
      exact⟨rfl,H5⟩
     ·rename_i hO
      have hO:ok=false:=by simpa using hO
      subst hO;simp only[oe]at hf;obtain⟨rfl,rfl⟩:=hf;have c3:=Hd (H2.jR 4 2);clear H2 B6 B7 k0 k1 k2 k3 k4 s0 s1 s2 s3 s4 s5 s6 s7
      go_wp2_with (go_at_call 138;refine c3.o.q λw3 H3=> ?_)
      exact Us25
    rename_i hA;have hA2:∀w,Cs 147 #[.agg #[EF.kind,EF.at_,EF.value,EF.other,EF.reg]] w (.bool false) λw'=>Below w.heap.size w w':=λw=>by
     have q:=Sp.pR EF.kind EF.at_ EF.value EF.other EF.reg w;rw[decide_eq_false hA]at q
     exact q
    have c1:=Hd hA2;clear hA2
    go_upto_region 17 with(go_at_call 147;refine(c1.o _).q λw1 Sr=> ?_)
    replace HC:=HC.ai Sr;replace B6:=B6.below Sr B6.lt;replace B7:=B7.below Sr B7.lt;clear k0 k1 k2 k3 k4 s0 s1 s2 s3 s4 s5 s6 s7 c1;clear Sr;have k0:w1.cell? ⟨b7,0,none⟩=_:=B7.cell 0;have k1:w1.cell? ⟨b7,1,none⟩=_:=B7.cell 1;have k2:w1.cell? ⟨b7,2,none⟩=_:=B7.cell 2;have k3:w1.cell? ⟨b7,3,none⟩=_:=B7.cell 3;have k4:w1.cell? ⟨b7,4,none⟩=_:=B7.cell 4;have s0:=B6.c0;have s1:=B6.c1;have s2:=B6.c2;have s3:=B6.c3;have s4:=B6.c4;have s5:=B6.c5;have s6:=B6.c6;have s7:=B6.c7;have fl:=HC.iB i hi1;have FE:=Hd (λw (h:A1 z l k w m1 x)=>(⟨h.frame i hi1 2 U0 _ rfl,h.sM,h.aF i hi1 2 U0 ↑PC {m1.fr i with pc:=PC} rfl⟩:w.cell? ⟨z.fr,19*i+2,none⟩=some (.int .i64 (m1.fr i).pc)/\(∀j,w.frozen? ⟨z.fr,j,none⟩=false)/\A1 z l k (w.setCell ⟨z.fr,19*i+2,none⟩ ↑PC) (m1.ak i {m1.fr i with pc:=PC}) x));rw[hI]at FE
    split at hf
    ·rename_i hT
     have hT:EF.kind=5:=hT;rw[hT]at k0
     split at hf
     ·rename_i hM
      simp only[oe]at hf;obtain⟨rfl,rfl⟩:=hf;have c1:=Hd (λw (h:A1 z l k w m1 x)=>h.cOut);have c2:=Hd (λw (h:A1 z l k w m1 x)=>h.Qc EF.value hM.1 hM.2);have H0:=Hd HC;have FB:=Hd (λw (h:A1 z l k w ({m1 with out:=m1.out++[EF.value]}:Co) x)=>(⟨h.frame i hi1 2 U0 _ rfl,h.sM,h.aF i hi1 2 U0 ↑PC {m1.fr i with pc:=PC} rfl⟩:w.cell? ⟨z.fr,19*i+2,none⟩=some (.int .i64 (m1.fr i).pc)/\(∀j,w.frozen? ⟨z.fr,j,none⟩=false)/\A1 z l k (w.setCell ⟨z.fr,19*i+2,none⟩ ↑PC) (({m1 with out:=m1.out++[EF.value]}:Co).ak i {m1.fr i with pc:=PC}) x));rw[hI]at FB;clear hE hA hT hM HC FE fl B6 s0 s1 s2 s3 s4 s5 s6 s7;go_upto_region 18 with fail
      go_region_held3 (λw'=>w'.cell? ⟨b7,2,none⟩=some ↑EF.value)
       (first|exact k2|exact kd k2|exact B7'.cell 2)
       (first|(go_at_call 29;refine(c1.o _ U53).r ?_)|(go_at_call 150;refine(c2.o _ U53).mono ?_;rintro ev w2 ⟨rfl,H2,HBK⟩;have B7':=(by first|exact HBK _ _ B7|exact HBK _ _ B7.drew:af w2 b7 _ _)))
      all_goals
       obtain⟨y2,z2,H3⟩:=FB.out _ H2;go_wp2_with fail
       go_end0
       exact⟨rfl,by first|exact H3|exact H3.drew⟩
     ·rename_i hM
      split at hf
      ·rename_i hM2
       simp only[oe]at hf;obtain⟨rfl,rfl⟩:=hf;have c1:=Hd (λw (h:A1 z l k w m1 x)=>h.cOut);have c2:=Hd (λw (h:A1 z l k w m1 x)=>h.Et EF.value hM2);have c3:=Hd (λw (h:A1 z l k w m1 x)=>h.jR 5 3);have H0:=Hd HC;have l7:=B7.lt;clear hE hA hT hM hM2 HC FE fl B6 s0 s1 s2 s3 s4 s5 s6 s7;go_upto_region 18 with fail
       go_region_held3 (λw'=>w'.cell? ⟨b7,2,none⟩=some ↑EF.value)
        (first|exact k2|exact kd k2|exact kb U6 l7 k2|exact kb U6 l7 (kd k2))
        (first|(go_at_call 29;refine(c1.o _ U53).r ?_)|(go_at_call 150;refine(c2.o _ U53).q λw2 hb2=> ?_))
       all_goals
        have H2:=(by first|exact H0.o.ai hb2|exact H0.o.drew.ai hb2:A1 z l k _ m1 x)
        go_wp2_with (go_at_call 138;refine(c3.o _ H2).q λw4 H4=> ?_)
        (try simp only[Exit.inBlock,Exit.then]);refine bodyPost_ret (results_none rfl _ _ _) rfl ?_
        exact⟨rfl,H4⟩
      ·cases hf
    rename_i hT;have hT0:(EF.kind==5)=false:=beq_false_of_ne hT
    split at hf
    ·rename_i hN
     simp only[oe]at hf;obtain⟨rfl,rfl⟩:=hf;have FG:=Hd (λw (h:A1 z l k w (m1.ak i {m1.fr i with pc:=PC}) x)=>(by
      have q:=h.jw i hi1 RG;rw[Co.dH,Co.dE hi1 fl]at q
      exact⟨h.jA i hi1,q⟩:w.there z.fr (19*i+3) (jE RG).toArray.size/\A1 z l k (w.setCells z.fr (19*i+3) (jE RG)) (m1.ak i {m1.fr i with pc:=PC,rg:=RG}) x))
     rw[hI]at FG;have HON:=Hd (jv RG);have nfz:=Hd lff;have FS:=Hd (λw (B:af w b6 RG.arr 174)=>(⟨B.cell 0,B.cell 1,B.cell 2,B.cell 3,B.cell 4,B.cell 5,B.cell 6,B.cell 7⟩:w.cell? ⟨b6,0,none⟩=some ↑RG.r0/\w.cell? ⟨b6,1,none⟩=some ↑RG.r1/\w.cell? ⟨b6,2,none⟩=some ↑RG.r2/\w.cell? ⟨b6,3,none⟩=some ↑RG.r3/\w.cell? ⟨b6,4,none⟩=some ↑RG.r4/\w.cell? ⟨b6,5,none⟩=some ↑RG.r5/\w.cell? ⟨b6,6,none⟩=some ↑RG.r6/\w.cell? ⟨b6,7,none⟩=some ↑RG.r7))
     rcases hN with hN|hN
     all_goals
      rw[hN]at k0;clear hE hA hT hN fl;go_upto_region 23 with fail;refine wp_region_held_drew (S:=(λw=>w.cell? ⟨b6,0,none⟩=some ↑RG.r0/\w.cell? ⟨b6,1,none⟩=some ↑RG.r1/\w.cell? ⟨b6,2,none⟩=some ↑RG.r2/\w.cell? ⟨b6,3,none⟩=some ↑RG.r3/\w.cell? ⟨b6,4,none⟩=some ↑RG.r4/\w.cell? ⟨b6,5,none⟩=some ↑RG.r5/\w.cell? ⟨b6,6,none⟩=some ↑RG.r6/\w.cell? ⟨b6,7,none⟩=some ↑RG.r7)) U7 ?_ (λhHeld=>?_)
      ·exact FS.o _ B6.drew
      have HD:=HC.drew;have B6d:=B6.drew;clear k0 k1 k2 k3 k4 s0 s1 s2 s3 s4 s5 s6 s7;generalize w1.drew=wd at*;obtain⟨y2,z2,H3⟩:=FE.out _ HD;obtain⟨tt,H5⟩:=FG.out _ H3;refine hU 0 ?_;refine hU 1 ?_;refine hU 2 ?_;refine pz ?_;refine hU 3 ?_;refine hU 4 ?_;refine hU 5 ?_;refine pz ?_;refine wpAnyH_ready (rs:=[6]) U7 U8 ?_;refine hA (λK hK=>?_)
      (try simp only[List.getElem_toArray,List.getElem_cons_zero,List.getElem_cons_succ])
      go_simp
      have B6e:=B6d.far (a:=⟨z.fr,I+2,none⟩) nfz.out ↑PC;refine hK.o _ _ (FS.o _ B6e) (λhHeld=>?_);clear hK K;refine pz ?_;refine hU 7 ?_;refine hU 8 ?_;refine wpAnyH_ready (rs:=[9]) U7 U8 ?_;refine hA (λK hK=>?_)
      (try simp only[List.getElem_toArray,List.getElem_cons_zero,List.getElem_cons_succ])
      rw[if_pos (by rfl)];refine wp_store_mid 174 (.tmp 157) (.tmp 153) rfl z.fr (I+3) (jE RG).toArray rfl rfl tt ky (all_oneCell_toArray HON.o) ?_;have B6f:af ((wd.setCell ⟨z.fr,I+2,none⟩ ↑PC).setCells z.fr (I+3) (jE RG)) b6 RG.arr 174 :=(World.heap_setCells_other _ _ _ _ B6e.lt nfz.out).trans B6e;refine hK.o _ _ (FS.o _ B6f) (λhHeld=>?_);clear hK K;refine pz ?_;refine wpAnyH_done U7 ?_ _;go_wp2_with fail
      go_end0
      exact⟨rfl,by first|exact H5|exact H5.drew⟩
    ·rename_i hN
     have n0:(EF.kind==0)=false:=beq_false_of_ne (λe=>hN (Or.inl e));have n7:(EF.kind==7)=false:=beq_false_of_ne (λe=>hN (Or.inr e));have c1:=Hd (HC.Pv i PC EF.kind EF.at_ EF.value EF.other EF.reg hi1 hx m' x' hf);rw[hI]at c1;clear hE hA hT hN hf HC FE fl B6 s0 s1 s2 s3 s4 s5 s6 s7 B7
     go_wp2_with (go_at_call 151;refine c1.o.q λw4 H4=> ?_)
     go_end0
     exact⟨rfl,H4⟩
end Go.Proofs.YteiignfflbmafaaGreat.Tp
