/- TopOne, part 19. -/
import Derived.Test.YteiignfflbmafaaGreatQ14
import Derived.Deep.OwnRows
import Derived.Deep.AppendLies
set_option linter.unusedVariables false
set_option linter.unusedSimpArgs false
set_option maxRecDepth 100000
set_option maxHeartbeats 8000000
namespace Go.Proofs.YteiignfflbmafaaGreat.Tp
open Go.Proofs.Tryz
open Go.RowKit Go.Proofs.YteiignfflbmafaaGreat.Tok
theorem Us72 {p:Prop} (h:p:=by
 go_wp2_with fail
 go_ret
 exact⟨_,rfl,af.new _ _ _ _ rfl,Nat.le_refl _,Ba _⟩):p:=h
theorem FV(n:Nat):madeCells #[(0:Int)] n=ints (List.replicate n 0):=by
 apply Array.ext'
 simp[madeCells,ints,List.map_replicate]
 apply List.ext_getElem
 ·simp
 ·intro j h1 h2
  simp[Nat.mod_one]
theorem tQ(n:Nat)(hn:n<=1048576)(w:World):Calls prog 78 #[n] w λev w'=>∃s d,ev=.returned (ptr s)/\aD w' s d (List.replicate n 0)/\w.heap.size<=s/\w.heap.size<=d/\Below w.heap.size w w':=by
 obtain⟨i0,hi,hz0,hz1,hz2⟩:=info_parts fH;have m1:¬((n:Int)<0):=by omega
 have m2:¬((1048576:Int)<n):=by omega
 have m3:(n:Int)<=1048576:=by omega
 have m4:min (n:Int) 1048576=n:=by omega
 have m5:max (n:Int) 0=n:=by omega
 go_enter func78,ntmps78
 go_wp2_with (at_make;refine wpList_make_row _ rfl _ _ 25 rfl 3 i0 (.int .i64 0) underlying25 hi hz0 hz1 rfl _ _ n rfl rfl U102 U2 ?_)
 go_ret
 refine⟨_,rfl,w.heap.size,⟨⟨n,?_⟩,?_,by omega⟩,by omega,Nat.le_refl _,(Ba _).alloc U8 _⟩
 ·have q:=af.new (w.alloc (.cells (madeCells #[(0:Int)] n) 3)) #[.slice (some ⟨w.heap.size,0,none⟩) n n,.nilFunc] 141 _ rfl
  rw[World.size_alloc]at q;rw[List.length_replicate]
  exact q
 ·rw[<-FV]
  exact(af.new w _ _ _ rfl).alloc _
theorem GJ(n:Nat)(hn:n<=1000)(w:World):Calls prog 81 #[n] w λev w'=>∃s,ev=.returned (ptr s)/\af w' s #[.slice none 0 0,n] 138 /\w.heap.size<=s/\Below w.heap.size w w':=by
 have m1:¬((n:Int)<0):=by omega
 have m2:¬((1000:Int)<n):=by omega
 have m3:(n:Int)<=1000:=by omega
 go_enter func81,ntmps81
 exact Us72
theorem Kn(w:World):Calls prog 82 #[] w λev w'=>∃s,ev=.returned (ptr s)/\af w' s #[.slice none 0 0] 186 /\w.heap.size<=s/\Below w.heap.size w w':=by
 go_enter func82,ntmps82
 exact Us72
theorem zI(i:Int)(w:World):Calls prog 58 #[i] w λev w'=>∃s,ev=.returned (ptr s)/\af w' s ((⟨i,0,0,0,0,none,none,0,0,false,false,0,false,false,0,false,none,none,none⟩:WS).arr (.pointer none) .nilFunc (.pointer none) (.pointer none) (.pointer none) (.pointer none)) 131 /\w.heap.size<=s/\Below w.heap.size w w':=by
 go_enter func58,ntmps58
 exact Us72
theorem EO:(prog.info? 4).map (λi=>(i.zero,i.size,i.bytes))=some (some (.bool false),1,1):=by kernel_rfl
theorem Ci(n:Nat):madeCells #[.bool false] n=bools (List.replicate n false):=by
 apply Array.ext'
 simp[madeCells,bools,List.map_replicate]
 apply List.ext_getElem
 ·simp
 ·intro j h1 h2
  simp[Nat.mod_one]
theorem Bj(n:Nat)(hn:n<=1000)(w:World):Calls prog 126 #[n] w λev w'=>∃s d,ev=.returned (ptr s)/\af w' s #[.slice (some ⟨d,0,none⟩) (n+1:Nat) (n+1:Nat),.slice none 0 0,(0:Int),(0:Int)] 184 /\af w' d (bools (List.replicate (n+1) false)) 4 /\s≠d/\w.heap.size<=s/\w.heap.size<=d/\Below w.heap.size w w':=by
 obtain⟨i0,hi,hz0,hz1,hz2⟩:=info_parts EO;have m1:¬((n:Int)<0):=by omega
 have m2:¬((1000:Int)<n):=by omega
 have m3:(n:Int)<=1000:=by omega
 have m4:wrap64 ((n:Int)+1)=((n+1:Nat):Int):=by unfold wrap64;omega
 go_enter func126,ntmps126
 go_wp2_with (at_make;refine wpList_make_row _ rfl _ _ 182 rfl 4 i0 (.bool false) underlying182 hi hz0 hz1 rfl _ _ (n+1) rfl rfl U102 U2 ?_)
 go_ret
 refine⟨w.heap.size+1,rfl,w.heap.size,?_,?_,by omega,by omega,Nat.le_refl _,(Ba _).alloc U8 _⟩
 ·have q:=af.new (w.alloc (.cells (madeCells #[.bool false] (n+1)) 4)) #[.slice (some ⟨w.heap.size,0,none⟩) (n+1) (n+1),.slice none 0 0,(0:Int),(0:Int)] 184 _ rfl
  rw[World.size_alloc]at q
  exact q
 ·rw[<-Ci]
  exact(af.new w _ _ _ rfl).alloc _
theorem Gs(w:World):Calls prog 87 #[] w λev w'=>ev=.returned ({aM with kind:=1}:Fr).v/\Below w.heap.size w w':=by
 have B0:=af.new w #[(0:Int),(0:Int),(0:Int),(0:Int),(0:Int),(0:Int),(0:Int),(0:Int),(0:Int),(0:Int),(0:Int),(0:Int),.bool false,.bool false,(0:Int),(0:Int),(0:Int),(0:Int),(0:Int)] 176 _ rfl;go_enter func87,ntmps87
 go_wp2_with (first|(refine aQ rfl 176 (.tmp 0) (.tmp 1) rfl w.heap.size #[(0:Int),(0:Int),(0:Int),(0:Int),(0:Int),(0:Int),(0:Int),(0:Int),(0:Int),(0:Int),(0:Int),(0:Int),.bool false,.bool false,(0:Int),(0:Int),(0:Int),(0:Int),(0:Int)] #[(1:Int),(0:Int),(0:Int),(0:Int),(0:Int),(0:Int),(0:Int),(0:Int),(0:Int),(0:Int),(0:Int),(0:Int),.bool false,.bool false,(0:Int),(0:Int),(0:Int),(0:Int),(0:Int)] 176 B0 rfl rfl dm rfl U17 ?_;intro w2 b2 k2))
 have hl:=run_loadVar_row w2 w.heap.size 176 176 _ (0,0) _ b2 underlying176 rfl dm;refine bodyPost_ret (v:=.agg #[(1:Int),(0:Int),(0:Int),(0:Int),(0:Int),(0:Int),(0:Int),(0:Int),(0:Int),(0:Int),(0:Int),(0:Int),.bool false,.bool false,(0:Int),(0:Int),(0:Int),(0:Int),(0:Int)]) (by simp[results,results87,Act.put,asAddr,hl]) rfl ⟨rfl,(Ba _).trans (k2.below (λk z=>by unfold One at z;omega) U8)⟩
theorem N7:(prog.info? 176).map (λi=>(i.zero,i.size,i.bytes))=some (some (.agg aM.cells.toArray),19,144):=by kernel_rfl
theorem FW(n:Nat):madeCells aM.cells.toArray (n*19)=rows Fr.cells (List.replicate n aM):=by
 apply Array.ext'
 apply List.ext_getElem?
 intro j;have hl:((List.replicate n aM).flatMap Fr.cells).length=19*n:=by rw[gQ Fr.cells 19 (λ_=>rfl)];simp
 by_cases hj:j<n*19
 ·have h1:j/19<(List.replicate n aM).length:=by rw[List.length_replicate];omega
  have h2:j%19<19:=Nat.mod_lt _ U0;have q:=flat_get Fr.cells 19 (λ_=>rfl) (List.replicate n aM) (j/19) (j%19) h1 h2;rw[Nat.div_add_mod]at q;unfold rows;rw[q];simp only[List.getElem_replicate];unfold madeCells;rw[show aM.cells.toArray.size=19 from rfl];simp only[Array.toList_map,Array.toList_range,List.getElem?_map,List.getElem?_range hj,Option.map_some];generalize j%19=r at*;have e:r=0∨r=1∨r=2∨r=3∨r=4∨r=5∨r=6∨r=7∨r=8∨r=9∨r=10∨r=11∨r=12∨r=13∨r=14∨r=15∨r=16∨r=17∨r=18:=by omega
  rcases e with rfl|rfl|rfl|rfl|rfl|rfl|rfl|rfl|rfl|rfl|rfl|rfl|rfl|rfl|rfl|rfl|rfl|rfl|rfl<;>rfl
 ·unfold rows
  rw[List.getElem?_eq_none (by simp[madeCells];omega),List.getElem?_eq_none (by rw[hl];omega)]
structure Dy(w:World)(p:Pl)(n s t a hl fr:Nat):Prop where
 tb:af w t #[p.wk,p.fr,p.th,p.dq,ptr s,ptr a,.slice (some ⟨fr,0,none⟩) (n+1:Nat) (n+1:Nat)] 145
 ar:af w a #[.slice (some ⟨hl,0,none⟩) (n+1:Nat) (n+1:Nat),.slice none 0 0,(0:Int),(0:Int)] 184
 he:af w hl (bools (List.replicate (n+1) false)) 4
 rw:af w fr (rows Fr.cells (List.replicate (n+1) aM)) 176
theorem yx(p:Pl)(hp:p.ok)(n:Nat)(hn:p.fr=n)(s:Nat)(w:World):Calls prog 85 #[.agg #[p.wk,p.fr,p.th,p.dq],ptr s] w λev w'=>∃t a hl fr,ev=.returned (ptr t)/\Dy w' p n s t a hl fr/\(w.heap.size<=t/\w.heap.size<=a/\w.heap.size<=hl/\w.heap.size<=fr)/\Below w.heap.size w w':=by
 obtain⟨i0,hi,hz0,hz1,hz2⟩:=info_parts N7;have hn1:n<=256:=by have:=hp.2.1.2;omega
 have c1:=Hd (λw=>tu p hp w);have c2:=Hd (λw=>Bj n U2 w);have hmk:∀w,(Instr.makeSlice 143 (.int .i64 ((n:Int)+1)) (.int .i64 ((n:Int)+1))).run prog w=.ok (.slice (some ⟨w.heap.size,0,none⟩) (n+1:Nat) (n+1:Nat)) (w.alloc (.cells (rows Fr.cells (List.replicate (n+1) aM)) 176)):=λw=>by
  have q:=run_makeSlice (P:= prog) (w:=w) 143 176 i0 _ underlying143 hi hz0 .i64 .i64 ((n:Int)+1) ((n:Int)+1) U2 (Int.le_refl _) (by rw[hz1];omega) U102 U2;rw[q,hz1,show((n:Int)+1).toNat=n+1 by omega,show(Value.agg aM.cells.toArray).cells=aM.cells.toArray from rfl,FW]
 have e1:IntKind.i64.wrap ((n:Int)+1)=(n:Int)+1:=by rw[IntKind.wrap_i64];omega
 have bg:=af.new w #[p.wk,p.fr,p.th,p.dq] 89 _ rfl;have B0:Below w.heap.size w (w.alloc (.cells #[p.wk,p.fr,p.th,p.dq] 89)):=Ba _;rw[hn]at bg c1 B0⊢;go_enter func85,ntmps85;go_upto_region 1 with fail;generalize w.alloc (.cells #[p.wk,n,p.th,p.dq] 89)=W at*;generalize hg:w.heap.size=g at*;have u0:=bg.c0;have u1:=bg.c1;have u2:=bg.c2;have u3:=bg.c3
 go_upto_region 4 with(go_at_call 43;refine(c1.o _).q λw1 Sr=> ?_)
 have lg:=nL bg.lt Sr.size;replace u0:=kb Sr bg.lt u0;replace u1:=kb Sr bg.lt u1;replace u2:=kb Sr bg.lt u2;replace u3:=kb Sr bg.lt u3;have B1:=B0.trans (Sr.mono (Nat.le_of_lt bg.lt))
 go_region_held3 (λw'=>w'.cell? ⟨g,0,none⟩=some ↑p.wk/\w'.cell? ⟨g,1,none⟩=some ↑n/\w'.cell? ⟨g,2,none⟩=some ↑p.th/\w'.cell? ⟨g,3,none⟩=some ↑p.dq)
  (((try dsimp only);(try go_split_ands);(repeat' apply And.intro)<;>(repeat(first|(with_reducible assumption)|(with_reducible refine kc ?_)|(with_reducible refine kd ?_)|(refine kb U3 (by first|assumption|(simp;omega)) ?_)))))
  (first|(go_at_call 126;refine(c2.o _).mono ?_;rintro ev w3 ⟨a,hl,rfl,bA,bH,nAH,gA,gH,hb3⟩))
 ·go_wp2_with fail
  go_ret
  have HB:=B1.trans (((Below.refl g w1).drew).trans (hb3.mono (by show g<=w1.heap.size;omega)));have lw3:w1.heap.size<=w3.heap.size:=hb3.size;have gA':w1.heap.size<=a:=gA;have gH':w1.heap.size<=hl:=gH;have q:=af.new (w3.alloc (.cells (rows Fr.cells (List.replicate (n+1) aM)) 176)) #[p.wk,n,p.th,p.dq,ptr s,ptr a,.slice (some ⟨w3.heap.size,0,none⟩) (n+1:Nat) (n+1:Nat)] 145 _ rfl;rw[World.size_alloc]at q;subst hg
  exact⟨w3.heap.size+1,a,hl,w3.heap.size,rfl,⟨by rw[hn];exact q,(bA.alloc _).alloc _,(bH.alloc _).alloc _,(af.new w3 _ _ _ rfl).alloc _⟩,⟨by omega,by omega,by omega,by omega⟩,(HB.alloc U2 _).alloc U41 _⟩
 ·go_wp2_with fail
  go_ret
  have lz:w1.heap.size+1<=w3.heap.size:=by have q:=hb3.size;simpa using q
  have gA':w1.heap.size+1<=a:=by simpa using gA
  have gH':w1.heap.size+1<=hl:=by simpa using gH
  have r:=((af.new w1 (rows Fr.cells (List.replicate (n+1) aM)) 176 _ rfl).drew).below hb3 U8;have HB:=B1.trans ((((Below.refl g w1).alloc U2 (.cells (rows Fr.cells (List.replicate (n+1) aM)) 176)).drew).trans (hb3.mono U41));have q:=af.new w3 #[p.wk,n,p.th,p.dq,ptr s,ptr a,.slice (some ⟨w1.heap.size,0,none⟩) (n+1:Nat) (n+1:Nat)] 145 _ rfl;subst hg
  exact⟨w3.heap.size,a,hl,w1.heap.size,rfl,⟨by rw[hn];exact q,bA.alloc _,bH.alloc _,r.alloc _⟩,⟨by omega,by omega,by omega,by omega⟩,HB.alloc U2 _⟩
theorem Us43 {p:Prop} (h:p:=by
 go_ret
 rw[Nat.zero_add,List.nil_append]at hown'
 exact⟨v',rfl,hown',(Ba _).trans ((Kept.grown hgrow).below (λk q=>by cases q;exact Nat.le_refl _) U8)⟩):p:=h
theorem JB(w:World)(ad:Addr)(n c:Nat)(news:List Value)(hl:news.length=n*4)(hnews:∀j u,news[j]? =some u->w.cell? (ad.add j)=some u)(h1:∀u∈news,u.oneCell'=true)(hn:n<=1000000):Calls prog 65 #[.slice (some ad) n c] w λev w'=>∃v,ev=.returned v/\w'.ownsRow w.heap.size 52 4 v n news/\Below w.heap.size w w':=by
 obtain⟨i0,hi,hz0,hz1,hz2⟩:=info_parts EP;have hrun:Sem.run prog (binOp BinOp.eql 48 (.slice (some ad) n c) (.slice none 0 0)) w=.ok (.bool false) w:=by kernel_rfl
 have hown:(w.alloc (.cells #[] 52)).ownsRow w.heap.size 52 4 (.slice (some ⟨w.heap.size,0,none⟩) 0 0) 0 []:=⟨by simp,.inr ⟨w.heap.size,0,#[],rfl,Nat.le_refl _,af.new w _ _ _ rfl,Nat.le_refl _,by decide,by simp,by simp⟩⟩;have hnews':∀j u,news[j]? =some u->(w.alloc (.cells #[] 52)).cell? (ad.add j)=some u:=λj u q=>kc (hnews j u q);go_enter func65,ntmps65
 go_wp2_with (at_builtin;refine wpList_append_own _ rfl _ _ 48 rfl w.heap.size 52 i0 _ 4 32 underlying48 hi hz0 hz1 hz2 rfl U0 _ 0 [] rfl hown ad n c news rfl hl hnews' h1 U71 U2 U8 ?_;intro v' w2 hown' hgrow hnil)
 exact Us43
theorem yD:(prog.info? 109).map (λi=>(i.zero,i.size,i.bytes))=some (some (.agg #[(0:Int),(0:Int),(0:Int),(0:Int)]),4,32):=by kernel_rfl
theorem JC(w:World)(ad:Addr)(n c:Nat)(news:List Value)(hl:news.length=n*4)(hnews:∀j u,news[j]? =some u->w.cell? (ad.add j)=some u)(h1:∀u∈news,u.oneCell'=true)(hn:n<=1000000):Calls prog 83 #[.slice (some ad) n c] w λev w'=>∃v,ev=.returned v/\w'.ownsRow w.heap.size 109 4 v n news/\Below w.heap.size w w':=by
 obtain⟨i0,hi,hz0,hz1,hz2⟩:=info_parts yD;have hrun:Sem.run prog (binOp BinOp.eql 107 (.slice (some ad) n c) (.slice none 0 0)) w=.ok (.bool false) w:=by kernel_rfl
 have hown:(w.alloc (.cells #[] 109)).ownsRow w.heap.size 109 4 (.slice (some ⟨w.heap.size,0,none⟩) 0 0) 0 []:=⟨by simp,.inr ⟨w.heap.size,0,#[],rfl,Nat.le_refl _,af.new w _ _ _ rfl,Nat.le_refl _,by decide,by simp,by simp⟩⟩;have hnews':∀j u,news[j]? =some u->(w.alloc (.cells #[] 109)).cell? (ad.add j)=some u:=λj u q=>kc (hnews j u q);go_enter func83,ntmps83
 go_wp2_with (at_builtin;refine wpList_append_own _ rfl _ _ 107 rfl w.heap.size 109 i0 _ 4 32 underlying107 hi hz0 hz1 hz2 rfl U0 _ 0 [] rfl hown ad n c news rfl hl hnews' h1 U71 U2 U8 ?_;intro v' w2 hown' hgrow hnil)
 exact Us43
theorem D9(w:World):Cs 65 #[.slice none 0 0] w (.slice none 0 0) λw'=>w=w':=by
 have hrun:Sem.run prog (binOp BinOp.eql 48 (.slice none 0 0) (.slice none 0 0)) w=.ok (.bool true) w:=by kernel_rfl
 go_enter func65,ntmps65;go_wp2_with fail
 go_ret
 exact⟨rfl,rfl⟩
theorem nR{w:World}{base:Nat}{e:TypeId}{size:Nat}{g n cap:Nat}{xs:List Value}(h:w.ownsRow base e size (.slice (some ⟨g,0,none⟩) n cap) n xs)(j:Nat)(u:Value)(hj:xs[j]? =some u):w.cell? (Addr.add ⟨g,0,none⟩ j)=some u:=by
 obtain⟨h1,⟨h2,_⟩|⟨g',cap',cur,e1,_,hb,_,_,_,hx⟩⟩:=h
 ·cases h2
 ·cases e1
  have q:=cell_of_row w g j cur e (0,0) hb;rw[show(Addr.add ⟨g,0,none⟩ j)=⟨g,j,none⟩from by rw[Addr.add_lit,Nat.zero_add],q];rw[<-hx]at hj;rw[List.getElem?_take]at hj
  split at hj
  ·rw[<-hj];simp
  ·cases hj
theorem Qd(l:List Ev):∀u∈l.flatMap Ev.cells,u.oneCell'=true:=by
 intro u hu;obtain⟨e,_,he⟩:=List.mem_flatMap.1 hu;simp only[Ev.cells,List.mem_cons,List.not_mem_nil,or_false]at he
 rcases he with rfl|rfl|rfl|rfl<;>rfl
theorem Ki(w:World)(g:Nat)(gv:Value)(l:List Ev)(hb:af w g #[gv] 186)(ho:Own w 52 4 Ev.cells gv l)(hn:l.length<=1000000):Calls prog 39 #[ptr g] w λev w'=>∃v,ev=.returned v/\w'.ownsRow w.heap.size 52 4 v l.length (l.flatMap Ev.cells)/\Below w.heap.size w w':=by
 have x0:=hb.c0;have ca:Hid (Cs 66 #[ptr g] w gv λw'=>w=w'):=Hd (by
  clear ho;go_enter func66,ntmps66;go_wp2_with fail
  go_ret
  exact⟨rfl,rfl⟩)
 have hO:=ho;obtain⟨h1,⟨h2,h3⟩|⟨q,cap,cur,e1,_,hq,_⟩⟩:=ho
 ·subst h2
  have l0:l=[]:=List.length_eq_zero_iff.1 h3;have cc:=Hd (D9 w);clear hb x0 h1;go_enter func39,ntmps39
  go_wp2_with (first|(go_at_call 66;refine ca.o.r ?_)|(go_at_call 65;refine cc.o.r ?_))
  go_ret
  subst l0
  exact⟨_,rfl,World.ownsRow_nil _ _ _ _,Below.refl _ _⟩
 ·subst e1
  have cc:=Hd (JB w ⟨q,0,none⟩ l.length cap (l.flatMap Ev.cells) h1 (λj u hj=>nR hO j u hj) (Qd l) hn);clear hb x0 h1 hq;go_enter func39,ntmps39
  go_wp2_with (first|(go_at_call 66;refine ca.o.r ?_)|(go_at_call 65;refine cc.o.mono ?_;rintro ev w1 ⟨v,rfl,ho2,hb2⟩))
  go_ret
  exact⟨v,rfl,ho2,hb2⟩
theorem qJ{z:Lay}{w:World}{M:MS}(R:fM z w M)(mq lb cap:Nat)(cs:Array Value)(B:gK z mq lb M.ws.length cap cs)(hn:M.co.log.length<=1000000):Calls prog 13 #[ptr mq] w λev w'=>∃v,ev=.returned v/\w'.ownsRow w.heap.size 52 4 v M.co.log.length (M.co.log.flatMap Ev.cells)/\Below w.heap.size w w':=by
 have x0:=(R.X B.mX).c0;have c1:=Hd (R.a1 0 B.pos).Jp;obtain⟨bk,ov,gv,g,R⟩:=R;have c2:=Hd (Ki w z.g gv M.co.log R.co.log R.co.evs hn);clear R B;go_enter func13,ntmps13
 go_wp2_with (first|(go_at_call 38;refine c1.o.r ?_)|(go_at_call 39;refine c2.o.mono ?_;rintro ev w1 ⟨v,rfl,ho2,hb2⟩))
 go_ret
 exact⟨v,rfl,ho2,hb2⟩
theorem Us95 {p:Prop} (h:p:=by
 match j,hj with
 |0,_=>exact⟨_,rfl⟩
 |1,_=>exact⟨_,rfl⟩
 |2,_=>exact⟨_,rfl⟩
 |3,_=>exact⟨_,rfl⟩):p:=h
theorem Us65 {p:Prop} (h:p:=by
 generalize code.length=n at*;go_wp2_with fail
 go_ret
 subst hg
 exact⟨by rw[E.out];rfl,B1⟩):p:=h
def dX(w:World)(v:Value)(l:List Is):Prop:=∃A cap,v=.slice A l.length cap/\l.length<=cap/\(cap<=maxLen/\(A=none->cap=0))/\(0<l.length->∃b o,A=some ⟨b,o,none⟩/\∀pc (hp:pc<l.length),∀j,j<4->w.cell? ⟨b,o+pc*4+j,none⟩=l[pc].cells[j]?)
def aP(w:World)(v:Value)(code:List (List Is)):Prop:=∃A cap,v=.slice A code.length cap/\code.length<=cap/\cap<=maxLen/\(0<code.length->∃b o,A=some ⟨b,o,none⟩/\∀i (hi:i<code.length),∃v',w.cell? ⟨b,o+i,none⟩=some v'/\dX w v' code[i])
theorem dX.ai{w w':World}{v:Value}{l:List Is}(h:dX w v l)(k:Below w.heap.size w w'):dX w' v l:=by
 obtain⟨A,cap,e,h1,h2,h⟩:=h;refine⟨A,cap,e,h1,h2,λhp=>?_⟩;obtain⟨b,o,e2,hc⟩:=h hp;refine⟨b,o,e2,λpc hp j hj=>?_⟩;have q:=hc pc hp j hj
 have:∃u,l[pc].cells[j]? =some u:=by
  exact Us95
 obtain⟨u,hu⟩:=this;rw[hu]at q⊢
 exact kb k (bL w _ q) q
theorem aP.ai{w w':World}{v:Value}{code:List (List Is)}(h:aP w v code)(k:Below w.heap.size w w'):aP w' v code:=by
 obtain⟨A,cap,e,h1,h2,h⟩:=h;refine⟨A,cap,e,h1,h2,λhp=>?_⟩;obtain⟨b,o,e2,hc⟩:=h hp;refine⟨b,o,e2,λi hi=>?_⟩;obtain⟨v',c1,c2⟩:=hc i hi
 exact⟨v',kb k (bL w _ c1) c1,c2.ai k⟩
def iJ(code:List (List Is)):Bool:=decide (40<code.length)||code.any (λl=>decide (300<l.length))
theorem Ka(w:World)(M:Int)(fv:Value)(code:List (List Is))(h:aP w fv code):Cs 21 #[.agg #[M,fv]] w (.bool (iJ code)) λw'=>Below w.heap.size w w':=by
 obtain⟨A,cap,rfl,h1,h2,hc⟩:=h;have b1:=af.new w #[M,.slice A code.length cap] 24 _ rfl;have B1:Below w.heap.size w (w.alloc (.cells #[M,.slice A code.length cap] 24)):=Ba _;go_enter func21,ntmps21;go_upto_region 1 with fail;have hc1:0<code.length->∃b o,A=some ⟨b,o,none⟩/\∀i (hi:i<code.length),∃v',(w.alloc (.cells #[M,.slice A code.length cap] 24)).cell? ⟨b,o+i,none⟩=some v'/\∃A' c',v'=.slice A' code[i].length c':=λhp=>by
  obtain⟨b,o,e,q⟩:=hc hp;refine⟨b,o,e,λi hi=>?_⟩;obtain⟨v',q1,A',c',q2,_⟩:=q i hi
  exact⟨v',kc q1,A',c',q2⟩
 generalize w.alloc (.cells #[M,.slice A code.length cap] 24)=W at*;have x1:W.cell? ⟨w.heap.size,1,none⟩=some (.slice A code.length cap):=b1.cell 1;generalize hg:w.heap.size=g at*;clear hc b1;have hu:iJ code=(decide (40<code.length)||code.any (λl=>decide (300<l.length))):=rfl
 by_cases d:40<code.length
 ·have e:iJ code=true:=by rw[hu];simp[d]
  have E:=Hd e;have d1:decide ((40:Int)<(code.length:Int))=true:=by simp;omega
  clear hu e hc1
  exact Us65
 ·have d1:decide ((40:Int)<(code.length:Int))=false:=by simp;omega
  go_wp2_with fail
  go_loopw [3] (λi wr=>∃k:Nat,k<=code.length/\i=.int .i64 k/\wr=W/\∀l∈code.take k,l.length<=300) (λi _=>code.length-(intOf i).toNat)
  case atStart=>exact⟨0,n0 _,rfl,rfl,λl hl=>by simp at hl⟩
  case round=>
   obtain⟨k,hk,rfl,rfl,hl⟩:=hrel
   by_cases hlt:k<code.length
   ·have hw:wrap64 ((k:Int)+1)=((k+1:Nat):Int):=(xG _ U2).trans U8
    have hlt':(k:Int)<(code.length:Int):=by omega
    obtain⟨b,o,rfl,q⟩:=hc1 U2;obtain⟨v',q1,A',c',rfl⟩:=q k hlt
    by_cases d3:300<code[k].length
    ·have e:iJ code=true:=by
      rw[hu];simp only[Bool.or_eq_true,List.any_eq_true,decide_eq_true_eq]
      exact Or.inr ⟨_,List.getElem_mem hlt,d3⟩
     have E:=Hd e;have d4:decide ((300:Int)<(code[k].length:Int))=true:=by simp;omega
     clear hu e hc1 q hl;generalize code[k].length=n2 at*
     exact Us65
    ·have d4:decide ((300:Int)<(code[k].length:Int))=false:=by simp;omega
     have hl2:∀l∈code.take (k+1),l.length<=300:=λl h=>by
      rw[List.take_add_one]at h
      rcases List.mem_append.1 h with h|h
      ·exact hl l h
      ·rw[List.getElem?_eq_getElem hlt]at h;simp at h;subst h;omega
     clear hu hc1 q hl;have H2:=Hd hl2;clear hl2;generalize code[k].length=n2 at*;go_wp2_with fail
     go_roundw
     case rel=>exact⟨k+1,by omega,by simp,trivial,H2.o⟩
     case measure=>simp[intOf];omega
   ·obtain rfl:k=code.length:=by omega
    have e:iJ code=false:=by
     rw[hu];simp only[Bool.or_eq_false_iff,List.any_eq_false,decide_eq_true_eq,decide_eq_false_iff_not]
     exact⟨d,λl hl3=>by have:=hl l (by rw[List.take_length];exact hl3);omega⟩
    have E:=Hd e;clear hu e hc1 hl
    exact Us65
section
def Src(w:World)(x:Value)(m size:Nat)(news:List Value):Prop:=∃A c,x=.slice A m c/\news.length=m*size/\((A=none/\m=0/\c=0)∨∃ad,A=some ad/\∀j u,news[j]? =some u->w.cell? (ad.add j)=some u)
section
variable {P:Program} (w:World)
theorem qM(t ty:TypeId)(base:Nat)(e:TypeId)(i:TypeInfo)(z:Value)(size bytes:Nat)(ht:P.underlying t=some (.slice e))(hi:P.info? e=some i)(hz:i.zero=some z)
  (hsize:i.size=size) (hby:i.bytes=bytes) (hzs:z.cells.size=size) (hsz:0<size)
  (v:Value) (n:Nat) (xs:List Value) (hown:w.ownsRow base e size v n xs)
  (x:Value) (m:Nat) (news:List Value) (hx:Src w x m size news) (h1:∀u∈news,u.oneCell'=true)
  (h63:n+m<=maxLen) (hbytes:(n+m)*bytes<=140737488355328) (hbase:base<=w.heap.size):
  ∃v' w',(Builtin.append_ #[t,t] ty #[v,x]).run P w=.ok v' w'/\w'.ownsRow base e size v' (n+m) (xs++news)/\w.grownBy w' v.ownBlock/\(v'.ownBlock=v.ownBlock∨v'.ownBlock=some w.heap.size):=by
 obtain⟨A,c,rfl,hl,⟨rfl,rfl,rfl⟩|⟨ad,rfl,hn⟩⟩:=hx
 ·have hn:news=[]:=List.eq_nil_of_length_eq_zero (by simpa using hl)
  subst hn;rw[List.append_nil,Nat.add_zero];have hO:=hown
  rcases hown.2 with⟨rfl,rfl⟩|⟨g,cap,cur,rfl,hbg,hg,hnc,hcm,hcs,htake⟩
  ·refine⟨.slice none 0 0,w,?_,hO,⟨rfl,rfl,rfl,Nat.le_refl _,λ_ _ _=>rfl⟩,Or.inl rfl⟩
   simp[Builtin.append_,run_underlying ht,sizeOf,typeInfo,hi,Builtin.lenOf,Builtin.firstCells]
  ·refine⟨.slice (some ⟨g,0,none⟩) n cap,w,?_,hO,⟨rfl,rfl,rfl,Nat.le_refl _,λ_ _ _=>rfl⟩,Or.inl rfl⟩
   simp[Builtin.append_,run_underlying ht,sizeOf,typeInfo,hi,Builtin.lenOf,Builtin.firstCells,hnc,storeCells]
 ·obtain⟨v',w',r1,r2,r3,_,r5⟩:=run_append_own_at (P:=P) w base t ty e i z size bytes ht hi hz hsize hby hzs hsz v n xs hown ad m c news hl hn h1 h63 hbytes hbase
  exact⟨v',w',r1,r2,r3,r5⟩
theorem lu{o:Oper}{a:Act}{K:Act->World->Prop}{Q:Exit->Act->World->Prop}(s y:Operand)(t:TypeId)
  (ho:o.op=.call {callee:=.builtin .append,args:= #[s,y],argTypes:= #[t,t]})
  (base:Nat) (e:TypeId) (i:TypeInfo) (z:Value) (size bytes:Nat) (ht:P.underlying t=some (.slice e)) (hi:P.info? e=some i) (hz:i.zero=some z)
  (hsize:i.size=size) (hby:i.bytes=bytes) (hzs:z.cells.size=size) (hsz:0<size)
  (v:Value) (n:Nat) (xs:List Value) (hs:a.eval s=v) (hown:w.ownsRow base e size v n xs)
  (x:Value) (m:Nat) (news:List Value) (hy:a.eval y=x) (hx:Src w x m size news) (h1:∀u∈news,u.oneCell'=true)
  (h63:n+m<=maxLen) (hbytes:(n+m)*bytes<=140737488355328) (hbase:base<=w.heap.size)
  (h:∀v' w',w'.ownsRow base e size v' (n+m) (xs++news)->w.grownBy w' v.ownBlock->(v'.ownBlock=v.ownBlock∨v'.ownBlock=some w.heap.size)->K (a.put o.dst v') w'):o.wp P a w K Q:=by
 obtain⟨v',w',hr,h2,h3,h4⟩:=qM (P:=P) w t o.type base e i z size bytes ht hi hz hsize hby hzs hsz v n xs hown x m news hx h1 h63 hbytes hbase;unfold Oper.wp execOp;simp only[ho,resolve,invoke,builtin,Sem.run_bind,Sem.run_pure,Result.andThen_ok,List.map_toArray,List.map_cons,List.map_nil,hs,hy,hr]
 exact h v' w' h2 h3 h4
theorem ay{ops:Array Oper}{o:Oper}{a:Act}{K:Act->World->Prop}{Q:Exit->Act->World->Prop}{E:Prop}(hgd:o.guard=none)(s y:Operand)(t:TypeId)
  (ho:o.op=.call {callee:=.builtin .append,args:= #[s,y],argTypes:= #[t,t]})
  (base:Nat) (e:TypeId) (i:TypeInfo) (z:Value) (size bytes:Nat) (ht:P.underlying t=some (.slice e)) (hi:P.info? e=some i) (hz:i.zero=some z)
  (hsize:i.size=size) (hby:i.bytes=bytes) (hzs:z.cells.size=size) (hsz:0<size)
  (v:Value) (n:Nat) (xs:List Value) (hs:a.eval s=v) (hown:w.ownsRow base e size v n xs)
  (x:Value) (m:Nat) (news:List Value) (hy:a.eval y=x) (hx:Src w x m size news) (h1:∀u∈news,u.oneCell'=true)
  (h63:n+m<=maxLen) (hbytes:(n+m)*bytes<=140737488355328) (hbase:base<=w.heap.size)
  (h:∀v' w',w'.ownsRow base e size v' (n+m) (xs++news)->w.grownBy w' v.ownBlock->(v'.ownBlock=v.ownBlock∨v'.ownBlock=some w.heap.size)->K (a.put o.dst v') w'):
  if Region.wanted o (yielded ops a.tmps)=true then Oper.wp P o a w K Q else E:=by
 have hw:Region.wanted o (yielded ops a.tmps)=true:=by simp[Region.wanted,hgd]
 rw[if_pos hw]
 exact lu w s y t ho base e i z size bytes ht hi hz hsize hby hzs hsz v n xs hs hown x m news hy hx h1 h63 hbytes hbase h
end
end
theorem Us92 {p:Prop} (h:p:=by
 rw[cell_of_row w g j cur e (0,0) hg];rw[<-hx,List.getElem?_take]at hj
 split at hj
 ·rw[<-hj];simp
 ·cases hj):p:=h
theorem EZ(l:List Is):∀u∈l.flatMap Is.cells,u.oneCell'=true:=by
 intro u hu;obtain⟨e,_,he⟩:=List.mem_flatMap.1 hu;simp only[Is.cells,List.mem_cons,List.not_mem_nil,or_false]at he
 rcases he with rfl|rfl|rfl|rfl<;>rfl
theorem dX.src{w:World}{v:Value}{l:List Is}(h:dX w v l):Src w v l.length 4 (l.flatMap Is.cells):=by
 obtain⟨A,cap,rfl,h1,h2,hc⟩:=h;have hl:(l.flatMap Is.cells).length=l.length*4:=by rw[gQ Is.cells 4 (λ_=>rfl),Nat.mul_comm]
 cases A with
 |none=>
  have l0:l.length=0:=by
   rcases Nat.eq_zero_or_pos l.length with q|q
   ·exact q
   ·obtain⟨b,o,e,_⟩:=hc q;cases e
  have e:l=[]:=List.eq_nil_of_length_eq_zero l0;subst e
  have:=h2.2 rfl
  subst this
  exact⟨none,0,rfl,by simp,Or.inl ⟨rfl,rfl,rfl⟩⟩
 |some ad=>
  refine⟨some ad,cap,rfl,hl,Or.inr ⟨ad,rfl,λj u hj=>?_⟩⟩;have hj2:j<l.length*4:=by rw[<-hl];exact(List.getElem?_eq_some_iff.1 hj).1
  obtain⟨b,o,e,q⟩:=hc U2
  cases e
  have:=q (j/4) U2 (j%4) U2
  rw[Addr.add_lit,show o+j=o+j/4*4+j%4 by omega,this,<-hj];have f:=flat_get Is.cells 4 (λ_=>rfl) l (j/4) (j%4) U2 U2;rw[<-f,Nat.div_add_mod]
def Text(w:World)(v:Value)(code:List (List Is)):Prop:=∃vs:List Value,vs.length=code.length/\w.ownsRow 0 107 1 v code.length vs/\∀(i:Nat)(v':Value)(l:List Is),vs[i]? =some v'->code[i]? =some l->Own w 109 4 Is.cells v' l
theorem Text.kept{S:Nat->Prop}{w w':World}{v:Value}{code:List (List Is)}(h:Text w v code)(k:Kept S w w')(hs:∀b cs t,af w b cs t->(t= 107 ∨t= 109)->¬S b):Text w' v code:=by
 obtain⟨vs,h1,h2,h3⟩:=h;have O:Own w 107 1 (λx:Value=>[x]) v vs:=by unfold Own;rw[h1];simpa using h2
 refine⟨vs,h1,?_,λi v' l a b=>?_⟩
 ·have:=O.kept k (λb e=>by obtain⟨cs,q⟩:=O.type e;exact hs b cs _ q (Or.inl rfl))
  unfold Own at this;rw[h1]at this
  simpa using this
 ·have q:=h3 i v' l a b
  exact q.kept k (λb e=>by obtain⟨cs,z⟩:=q.type e;exact hs b cs _ z (Or.inr rfl))
theorem CO{w1 w2:World}{v vi v':Value}{code:List (List Is)}{l:List Is}{vs:List Value}(h1:vs.length=code.length)(h3:∀(i:Nat)(u:Value)(x:List Is),vs[i]? =some u->code[i]? =some x->Own w1 109 4 Is.cells u x)
  (hi:Own w1 109 4 Is.cells vi l) (h2:w1.ownsRow 0 107 1 v code.length vs) (ho:w2.ownsRow 0 107 1 v' (code.length+1) (vs++[vi])) (hg:w1.grownBy w2 v.ownBlock):∀(i:Nat)(u:Value)(x:List Is),(vs++[vi])[i]? =some u->(code++[l])[i]? =some x->Own w2 109 4 Is.cells u x:=by
 have K:=Kept.grown hg;have O:Own w1 107 1 (λx:Value=>[x]) v vs:=by unfold Own;rw[h1];simpa using h2
 have far:∀{u:Value} {x:List Is},Own w1 109 4 Is.cells u x->Own w2 109 4 Is.cells u x:=λq=>q.kept K (λb e z=>by
  obtain⟨cs,t1⟩:=q.type e;obtain⟨cs',t2⟩:=O.type z;have t1:w1.heap[b]? =some (.cells cs 109 (0,0)):=t1;rw[show w1.heap[b]? =some (.cells cs' 107 (0,0))from t2]at t1
  simp at t1)
 intro i u x a b
 by_cases e:i<code.length
 ·rw[List.getElem?_append_left U2]at a b
  exact far (h3 i u x a b)
 ·rw[List.getElem?_append_right U2]at a b
  have:i-vs.length=0:=by
   have:=(List.getElem?_eq_some_iff.1 a).1
   simp at this
   omega
  rw[show i-code.length=0 by omega]at b;rw[this]at a
  simp at a b
  subst a b
  exact far hi
theorem Src.alloc{w:World}{x:Value}{m size:Nat}{news:List Value}(h:Src w x m size news)(o:Obj):Src (w.alloc o) x m size news:=by
 obtain⟨A,c,e,hl,h|⟨ad,e2,h⟩⟩:=h
 ·exact⟨A,c,e,hl,Or.inl h⟩
 ·exact⟨A,c,e,hl,Or.inr ⟨ad,e2,λj u q=>kc (h j u q)⟩⟩
theorem Src.drew{w:World}{x:Value}{m size:Nat}{news:List Value}(h:Src w x m size news):Src w.drew x m size news:=h
theorem Cw(w:World):(w.alloc (.cells #[] 109)).ownsRow 0 109 4 (.slice (some ⟨w.heap.size,0,none⟩) 0 0) 0 []:=⟨by simp,.inr ⟨w.heap.size,0,#[],rfl,n0 _,af.new w _ _ _ rfl,Nat.le_refl _,by decide,by simp,by simp⟩⟩
theorem pE(w:World)(v:Value)(t:TypeId):Src (w.alloc (.cells #[v] t)) (.slice (some ⟨w.heap.size,0,none⟩) 1 1) 1 1 [v]:=⟨_,_,rfl,rfl,Or.inr ⟨_,rfl,World.news_of_block (cs:= #[v]) (t:=t) (fr:=(0,0)) (heap_alloc_new w _)⟩⟩
theorem ownsRow_form{w:World}{base:Nat}{e:TypeId}{size:Nat}{v:Value}{n:Nat}{xs:List Value}(h:w.ownsRow base e size v n xs):∃A c,v=.slice A n c:=by
 obtain⟨_,⟨rfl,rfl⟩|⟨g,cap,cur,rfl,_⟩⟩:=h
 ·exact⟨_,_,rfl⟩
 ·exact⟨_,_,rfl⟩
theorem Rw{n:Nat}(h:n<=300):0+n<=maxLen:=by unfold maxLen;omega
theorem Rv{n:Nat}(h:n<=300):(0+n)*32<=140737488355328:=by omega
theorem QI{k n:Nat}(h:k<n)(hn:n<=40):k+1<=maxLen:=by unfold maxLen;omega
theorem QH{k n:Nat}(h:k<n)(hn:n<=40):(k+1)*24<=140737488355328:=by omega
theorem jJ{k n:Nat}(h:k<n):(k:Int)<(n:Int):=by omega
theorem iN{k n:Nat}(h:k<n)(hn:n<=1000000):wrap64 ((k:Int)+1)=((k+1:Nat):Int):=(xG _ U2).trans U8
theorem Pt{α:Type}{l:List α}{k:Nat}(h:k<=l.length):(l.take k).length=k:=by rw[List.length_take];omega
theorem iM{k n:Nat}(h:k<n):n-(intOf (.int .i64 ((k:Int)+1))).toNat<n-(intOf (.int .i64 (k:Int))).toNat:=by simp[intOf];omega
theorem tX{k n:Nat}(h:k<n):0<n:=by omega
theorem Af:(prog.info? 107).map (λi=>(i.zero,i.size,i.bytes))=some (some (.slice none 0 0),1,24):=by kernel_rfl
structure mh(w wr:World)(g:Nat)(M:Int)(fv v:Value)(vs:List Value)(code:List (List Is)):Prop where
 cp:af wr g #[M,fv] 24
 cr:af wr (g+1) #[(0:Int),.slice none 0 0] 24
 cq:af wr (g+1+1) #[M,v] 24
 t1:vs.length=code.length
 t2:wr.ownsRow 0 107 1 v code.length vs
 t3:∀(i:Nat)(v':Value)(x:List Is),vs[i]? =some v'->code[i]? =some x->Own wr 109 4 Is.cells v' x
 B:Below g w wr
 vb:∀b,v.ownBlock=some b->g<=b
theorem mh.kept{w wr w2:World}{g:Nat}{M:Int}{fv v:Value}{vs:List Value}{code:List (List Is)}(h:mh w wr g M fv v vs code)(k:Below wr.heap.size wr w2):mh w w2 g M fv v vs code:=by
 have K:=Kept.ob (S:=None) k;have O:Own wr 107 1 (λx:Value=>[x]) v vs:=by unfold Own;rw[h.t1];simpa using h.t2
 have O2:=O.kept K (λ_ _ z=>z);refine⟨K.blk h.cp (λz=>z),K.blk h.cr (λz=>z),K.blk h.cq (λz=>z),h.t1,?_,λi v' x a b=>(h.t3 i v' x a b).kept K (λ_ _ z=>z),h.B.trans (k.mono (Nat.le_of_lt h.cp.lt)),h.vb⟩;unfold Own at O2;rw[h.t1]at O2
 simpa using O2
theorem KL{w wr w2:World}{g:Nat}{M:Int}{fv v v1:Value}{vs:List Value}{code:List (List Is)}{l:List Is}(C:mh w wr g M fv v vs code)
  (ho:w2.ownsRow 0 109 4 v1 (0+l.length) ([]++l.flatMap Is.cells)) (hg:(wr.alloc (.cells #[] 109)).drew.grownBy w2 (Value.slice (some ⟨wr.heap.size,0,none⟩) 0 0).ownBlock):
  mh w w2 g M fv v vs code/\Own w2 109 4 Is.cells v1 l/\Below wr.heap.size wr w2/\∃A c,v1=.slice A l.length c:=by
 have ho:Own w2 109 4 Is.cells v1 l:=by
  unfold Own;rw[Nat.zero_add,List.nil_append]at ho
  exact ho
 have B:Below wr.heap.size wr w2:=(Ba _).drew.trans ((Kept.grown hg).below (λk q=>by cases q;exact Nat.le_refl _) U8)
 exact⟨C.kept B,ho,B,ho.len⟩
theorem KI{w w2 w3:World}{g:Nat}{M:Int}{fv v v2 vi:Value}{vs:List Value}{code:List (List Is)}{l:List Is}(C:mh w w2 g M fv v vs code)(hi:Own w2 109 4 Is.cells vi l)
  (ho:w3.ownsRow 0 107 1 v2 (code.length+1) (vs++[vi])) (hg:(w2.alloc (.cells #[vi] 107)).grownBy w3 v.ownBlock) (ha:v2.ownBlock=v.ownBlock∨v2.ownBlock=some (w2.alloc (.cells #[vi] 107)).heap.size):
  af w3 (g+1+1) #[M,v] 24 /\mh w (w3.setCell ⟨g+1+1,1,none⟩ v2) g M fv v2 (vs++[vi]) (code++[l]):=by
 have B1:Below w2.heap.size w2 (w2.alloc (.cells #[vi] 107)):=Ba _;have C1:=C.kept B1;have hi1:=hi.kept (Kept.ob (S:=None) B1) (λ_ _ z=>z);have K:=Kept.grown hg;have O:Own (w2.alloc (.cells #[vi] 107)) 107 1 (λx:Value=>[x]) v vs:=by unfold Own;rw[C1.t1];simpa using C1.t2
 have ne:∀{b:Nat} {cs:Array Value},af (w2.alloc (.cells #[vi] 107)) b cs 24 ->¬v.ownBlock=some b:=λq z=>O.ne q U0 z;have p:=K.blk C1.cp (ne C1.cp);have r:=K.blk C1.cr (ne C1.cr);have q:=K.blk C1.cq (ne C1.cq);have u3:=CO (v':=v2) C1.t1 C1.t3 hi1 C1.t2 ho hg;have K1:=Kept.one w3 (g+1+1) 1 v2;have O3:Own w3 107 1 (λx:Value=>[x]) v2 (vs++[vi]):=by
  unfold Own;rw[List.length_append,C.t1]
  simpa using ho
 have O4:=O3.kept K1 (λb e z=>O3.ne q U0 (z▸e));refine⟨q,⟨K1.blk p (λz=>?_),K1.blk r (λz=>?_),q.set 1 v2,by simp[C.t1],?_,λi u x a b=>?_,?_,λb e=>?_⟩⟩
 ·have z:g=g+1+1:=z;omega
 ·have z:g+1=g+1+1:=z;omega
 ·unfold Own at O4
  rw[List.length_append,C.t1]at O4;rw[List.length_append]
  simpa using O4
 ·have y:=u3 i u x a b
  exact y.kept K1 (λb e z=>y.ne q U0 (z▸e))
 ·have lg:g<=w2.heap.size:=Nat.le_of_lt C.cp.lt
  exact((C.B.trans (B1.mono lg)).trans (K.below (λk z=>C.vb k z) (nT lg B1.size))).setCell (by show g<=g+1+1;omega) _
 ·rcases ha with z|z
  ·exact C.vb b (z▸e)
  ·rw[z]at e
   cases e
   exact nT (Nat.le_of_lt C.cp.lt) B1.size
theorem KJ{w wr:World}{g:Nat}{M:Int}{fv v a b:Value}{vs:List Value}{code:List (List Is)}(C:mh w wr g M fv v vs code):af ((wr.setCell ⟨g+1,0,none⟩ a).setCell ⟨g+1,1,none⟩ b) (g+1) #[a,b] 24 /\Text ((wr.setCell ⟨g+1,0,none⟩ a).setCell ⟨g+1,1,none⟩ b) v code/\Below g w ((wr.setCell ⟨g+1,0,none⟩ a).setCell ⟨g+1,1,none⟩ b):=by
 have K:=(Kept.one wr (g+1) 0 a).trans (Kept.one _ (g+1) 1 b);refine⟨(C.cr.set 0 a).set 1 b,Text.kept ⟨vs,C.t1,C.t2,C.t3⟩ K (λq cs t hb ht z=>?_),(C.B.setCell (by show g<=g+1;omega) _).setCell (by show g<=g+1;omega) _⟩;have z:q=g+1:=z;subst z;have e:wr.heap[g+1]? =some (.cells cs t (0,0)):=hb;rw[show wr.heap[g+1]? =some (.cells _ 24 (0,0))from C.cr]at e
 simp at e
 obtain⟨_,e⟩:=e;subst e
 rcases ht with h|h<;>exact absurd h U0
theorem Mo(w:World)(M:Int)(fv:Value)(code:List (List Is))(h:aP w fv code)(hc:code.length<=40)(hr:∀l∈code,l.length<=300):Calls prog 23 #[.agg #[M,fv]] w λev w'=>∃v,ev=.returned (.agg #[M,v])/\Text w' v code/\Below w.heap.size w w':=by
 obtain⟨i1,hj,hy0,hy1,hy2⟩:=info_parts Af;obtain⟨i0,hi,hz0,hz1,hz2⟩:=info_parts yD;obtain⟨A,cap,rfl,h1,h2,hF⟩:=h;have bp:=af.new w #[M,.slice A code.length cap] 24 _ rfl;go_enter func23,ntmps23;go_wp2_with fail;have B3:Below w.heap.size w (((w.alloc (.cells #[M,.slice A code.length cap] 24)).alloc (.cells #[(0:Int),.slice none 0 0] 24)).alloc (.cells #[M,.slice none 0 0] 24)):=((Ba _).alloc U8 _).alloc U41 _;have bp3:=(bp.alloc (.cells #[(0:Int),.slice none 0 0] 24)).alloc (.cells #[M,.slice none 0 0] 24);have br:=(af.new (w.alloc (.cells #[M,.slice A code.length cap] 24)) #[(0:Int),.slice none 0 0] 24 _ rfl).alloc (.cells #[M,.slice none 0 0] 24);have bq:=af.new ((w.alloc (.cells #[M,.slice A code.length cap] 24)).alloc (.cells #[(0:Int),.slice none 0 0] 24)) #[M,.slice none 0 0] 24 _ rfl;simp only[World.size_alloc]at br bq;have hF0:0<code.length->∃b o,A=some ⟨b,o,none⟩/\b<w.heap.size/\∀i (hi:i<code.length),∃v',w.cell? ⟨b,o+i,none⟩=some v'/\dX w v' code[i]:=λh=>by
  obtain⟨b,o,e,q⟩:=hF h;obtain⟨v',q1,_⟩:=q 0 h
  exact⟨b,o,e,bL w _ q1,q⟩
 generalize(((w.alloc (.cells #[M,.slice A code.length cap] 24)).alloc (.cells #[(0:Int),.slice none 0 0] 24)).alloc (.cells #[M,.slice none 0 0] 24))=W at*;generalize hg:w.heap.size=g at*;clear bp hF
 go_loopw [4] (λi wr=>∃(k:Nat) (v:Value) (vs:List Value),k<=code.length/\i=.int .i64 k/\mh w wr g M (.slice A code.length cap) v vs (code.take k)) (λi _=>code.length-(intOf i).toNat)
 case atStart=>exact⟨0,.slice none 0 0,[],n0 _,rfl,bp3,br,bq,rfl,World.ownsRow_nil _ _ _ _,λi v' l a=>by simp at a,B3,λb z=>by cases z⟩
 case round=>
  obtain⟨k,v,vs,hk,rfl,C⟩:=hrel;have x1:=C.cp.c1
  by_cases hlt:k<code.length
  ·have hw:wrap64 ((k:Int)+1)=((k+1:Nat):Int):=iN hlt (nT hc U0)
   have hlt':(k:Int)<(code.length:Int):=jJ hlt;have xq:wr.cell? ⟨g+1+1,1,none⟩=some v:=C.cq.cell 1;obtain⟨b,o,rfl,hb,q⟩:=hF0 (tX hlt);obtain⟨rv,q1,q2⟩:=q k hlt;have q1:wr.cell? ⟨b,o+k,none⟩=some rv:=kb C.B hb q1;have sr:=(q2.ai (by rw[hg];exact C.B)).src;have hr1:=hr _ (List.getElem_mem hlt);have one:=EZ code[k];have lk:(code.take k).length=k:=Pt hk;have tk:code.take (k+1)=code.take k++[code[k]]:=by rw[List.take_add_one,List.getElem?_eq_getElem hlt];rfl
   have TK:=Hd tk;have E0:=Hd (Cw wr);have S0:=Hd sr;have C0:=Hd C;have LK:=Hd lk;have x1a:(wr.alloc (.cells #[] 109)).cell? ⟨g,1,none⟩=some (.slice (some ⟨b,o,none⟩) code.length cap):=kc x1;have xqa:(wr.alloc (.cells #[] 109)).cell? ⟨g+1+1,1,none⟩=some v:=kc xq;have q1a:(wr.alloc (.cells #[] 109)).cell? ⟨b,o+k,none⟩=some rv:=kc q1;have x1b:(wr.alloc (.cells #[] 109)).drew.cell? ⟨g,1,none⟩=some (.slice (some ⟨b,o,none⟩) code.length cap):=kc x1;have xqb:(wr.alloc (.cells #[] 109)).drew.cell? ⟨g+1+1,1,none⟩=some v:=kc xq;have q1b:(wr.alloc (.cells #[] 109)).drew.cell? ⟨b,o+k,none⟩=some rv:=kc q1;clear q hF0 q2 h1 h2 C sr lk tk;go_upto_region 5 with fail
   go_region_law (first|(refine ay _ (by rfl) _ _ 107 (by rfl) 0 109 i0 _ 4 32 underlying107 hi hz0 hz1 hz2 rfl U0 (.slice (some ⟨wr.heap.size,0,none⟩) 0 0) 0 [] (by rfl) (by first|exact E0.out|exact E0.out.drew) rv code[k].length (code[k].flatMap Is.cells) (by rfl) (by first|exact S0.out.alloc _|exact(S0.out.alloc _).drew) one (Rw hr1) (Rv hr1) (n0 _) ?_;intro v1 w2 hown1 hgrow1 hat1;obtain⟨y1,y2,y3,A1,c1,rfl⟩:=KL C0.out hown1 hgrow1;have Y1:=Hd y1;have Y2:=Hd y2;have xq2:w2.cell? ⟨g+1+1,1,none⟩=some v:=y1.cq.cell 1;have xq3:(w2.alloc (.cells #[.slice A1 code[k].length c1] 107)).cell? ⟨g+1+1,1,none⟩=some v:=kc xq2;clear hat1 hown1 hgrow1 y1 y2 y3)|(refine ay _ (by rfl) _ _ 22 (by rfl) 0 107 i1 _ 1 24 underlying22 hj hy0 hy1 hy2 rfl U0 v k vs (by rfl) (by have z:=Y1.out.t2;rw[LK.out]at z;exact z.alloc _) (.slice (some ⟨w2.heap.size,0,none⟩) 1 1) 1 [.slice A1 code[k].length c1] (by rfl) (pE w2 _ _) U17 (QI hlt hc) (QH hlt hc) (n0 _) ?_;intro v2 w3 hown2 hgrow2 hat2;obtain⟨A2,c2,rfl⟩:=ownsRow_form hown2;obtain⟨z1,z2⟩:=KI Y1.out Y2.out U97 hgrow2 hat2;have z3:=z1.fz;have z4:w3.cell? ⟨g+1+1,1,none⟩=some v:=z1.cell 1;have Z2:=Hd z2;clear hown2 hgrow2 hat2 z1 z2))
   all_goals go_wp2_with fail
   all_goals go_roundw
   all_goals first|exact iM hlt|exact⟨k+1,_,_,hlt,by simp,by rw[TK.out];exact Z2.out⟩
  ·obtain rfl:k=code.length:=Nat.le_antisymm hk (Nat.le_of_not_lt hlt)
   have hge:¬((code.length:Int)<(code.length:Int)):=Int.lt_irrefl _;have u0:wr.cell? ⟨g+1+1,0,none⟩=some ↑M:=C.cq.cell 0;have u1:wr.cell? ⟨g+1+1,1,none⟩=some v:=C.cq.cell 1;have r0:wr.cell? ⟨g+1,0,none⟩=some (.int .i64 0):=C.cr.cell 0;have r1:wr.cell? ⟨g+1,1,none⟩=some (.slice none 0 0):=C.cr.cell 1;have rz:=C.cr.fz;have C0:=Hd C;obtain⟨Av,cv,rfl⟩:=ownsRow_form C.t2;clear C hF0 h1 h2;go_wp2_with fail;have C1:=C0.out;rw[List.take_length]at C1;obtain⟨kb0,T,BB⟩:=KJ (a:=.int .i64 M) (b:=.slice Av code.length cv) C1;have k0:=kb0.cell 0;have k1:=kb0.cell 1;simp only[List.getElem?_toArray,List.getElem?_cons_zero,List.getElem?_cons_succ]at k0 k1
   exact bodyPost_ret (v:=.agg #[M,.slice Av code.length cv]) (by simp[results,results23,go_sem,k0,k1]) rfl ⟨_,rfl,T,BB⟩
end Go.Proofs.YteiignfflbmafaaGreat.Tp
