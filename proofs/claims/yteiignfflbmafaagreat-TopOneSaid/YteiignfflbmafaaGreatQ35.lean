/- TopOne: with a throttle of 1, whatever program runs and whatever steps are picked, the iterations of each loop run strictly one behind the other. No condition. -/
import Derived.Test.YteiignfflbmafaaGreatQ26
import Derived.Test.YteiignfflbmafaaGreatQ27
import Derived.Test.YteiignfflbmafaaGreatQ34
set_option linter.unusedVariables false
set_option linter.unusedSimpArgs false
set_option maxRecDepth 100000
set_option maxHeartbeats 8000000
namespace Go.Proofs.YteiignfflbmafaaGreat.Tp
open Go.Proofs.Tryz
open Go.RowKit Go.Proofs.YteiignfflbmafaaGreat.Tok
theorem Ja(c27:∀w,Cs 19 #[] w (.bool true) λw'=>Below w.heap.size w w')(w:World):Cs 6 #[] w (.bool true) λw'=>Below w.heap.size w w':=by
 have c27:=Hd c27;obtain⟨q,hq⟩:∃q,w.heap.size=q:=⟨_,rfl⟩;have BB:Below w.heap.size w ((w.alloc (.cells #[(1:Int)] 3)).alloc (.cells #[(1:Int),(0:Int),.slice (some ⟨q,0,none⟩) 1 1,.slice none 0 0,(0:Int),(0:Int),(0:Int)] 31)):=(Ba _).alloc U8 _;have HK:=Hd ((af.new w #[(1:Int)] 3 q hq.symm).alloc (.cells #[(1:Int),(0:Int),.slice (some ⟨q,0,none⟩) 1 1,.slice none 0 0,(0:Int),(0:Int),(0:Int)] 31));have OB:=Hd (af.new (w.alloc (.cells #[(1:Int)] 3)) #[(1:Int),(0:Int),.slice (some ⟨q,0,none⟩) 1 1,.slice none 0 0,(0:Int),(0:Int),(0:Int)] 31 (q+1) (by rw[World.size_alloc,hq]));have BB:=Hd BB;go_enter func6,ntmps6;go_upto_region 2 with fail;clear hq;generalize(w.alloc (.cells #[(1:Int)] 3)).alloc (.cells #[(1:Int),(0:Int),.slice (some ⟨q,0,none⟩) 1 1,.slice none 0 0,(0:Int),(0:Int),(0:Int)] 31)=W at*
 go_wp2_with (first|(go_at_call 19;refine(c27.o _).q λw1 Sr=> ?_;have BB:=Hd (BB.o.trans (Sr.mono BB.o.size));have OB:=Hd (OB.out.below Sr OB.out.lt);have HK:=Hd (HK.o.below Sr HK.o.lt);clear Sr)|(go_at_call 20;refine(Mg _).q λw2 hb2=> ?_;have BB:=BB.o.trans (hb2.mono BB.o.size);have BB:=Hd (BB.alloc BB.size (.cells #[(1:Int)] 3));have OB:=Hd ((OB.out.below hb2 OB.out.lt).alloc (.cells #[(1:Int)] 3));have HK:=Hd ((HK.o.below hb2 HK.o.lt).alloc (.cells #[(1:Int)] 3));have y0:(w2.alloc (.cells #[(1:Int)] 3)).cell? ⟨q+1,0,none⟩=some (.int .i64 1):=(OB.out).cell 0;have y1:(w2.alloc (.cells #[(1:Int)] 3)).cell? ⟨q+1,1,none⟩=some (.int .i64 0):=(OB.out).cell 1;have y2:(w2.alloc (.cells #[(1:Int)] 3)).cell? ⟨q+1,2,none⟩=some (.slice (some ⟨q,0,none⟩) 1 1):=(OB.out).cell 2;have y3:(w2.alloc (.cells #[(1:Int)] 3)).cell? ⟨q+1,3,none⟩=some (.slice none 0 0):=(OB.out).cell 3;have y4:(w2.alloc (.cells #[(1:Int)] 3)).cell? ⟨q+1,4,none⟩=some (.int .i64 0):=(OB.out).cell 4;have y5:(w2.alloc (.cells #[(1:Int)] 3)).cell? ⟨q+1,5,none⟩=some (.int .i64 0):=(OB.out).cell 5;have y6:(w2.alloc (.cells #[(1:Int)] 3)).cell? ⟨q+1,6,none⟩=some (.int .i64 0):=(OB.out).cell 6;have cA:=Hd (xL (w2.alloc (.cells #[(1:Int)] 3)) w2.heap.size q (af.new _ _ _ _ rfl) HK.o);unfold CF Cv at cA;clear hb2)|(go_at_call 12;refine cA.o.q λw4 hb4=> ?_;clear cA;have BB:=Hd (BB.o.trans (hb4.mono BB.o.size));have OB:=Hd (OB.out.below hb4 OB.out.lt);have v0:w4.cell? ⟨q+1,0,none⟩=some (.int .i64 1):=(OB.out).cell 0;have v1:w4.cell? ⟨q+1,1,none⟩=some (.int .i64 0):=(OB.out).cell 1;have v2:w4.cell? ⟨q+1,2,none⟩=some (.slice (some ⟨q,0,none⟩) 1 1):=(OB.out).cell 2;have v3:w4.cell? ⟨q+1,3,none⟩=some (.slice none 0 0):=(OB.out).cell 3;have v4:w4.cell? ⟨q+1,4,none⟩=some (.int .i64 0):=(OB.out).cell 4;have v5:w4.cell? ⟨q+1,5,none⟩=some (.int .i64 0):=(OB.out).cell 5;have v6:w4.cell? ⟨q+1,6,none⟩=some (.int .i64 0):=(OB.out).cell 6;have cB:=Hd (Bi w4 q);unfold CF Cv at cB;clear hb4)|(go_at_call 12;refine cB.o.q λw5 hb5=> ?_;clear cB;have BB:=BB.o.trans (hb5.mono BB.o.size);have BB:=BB.alloc BB.size (.cells #[(1:Int)] 3);have BB:=Hd (BB.alloc BB.size (.cells #[(1:Int),(2:Int)] 3));have cC:=Hd (xN ((w5.alloc (.cells #[(1:Int)] 3)).alloc (.cells #[(1:Int),(2:Int)] 3)) w5.heap.size (w5.heap.size+1) ((af.new _ _ _ _ rfl).alloc _) (af.new _ _ _ _ U8));clear hb5)|(go_at_call 11;refine cC.o.q λw7 hb7=> ?_;clear cC;have BB:=BB.o.trans (hb7.mono BB.o.size);have BB:=BB.alloc BB.size (.cells #[(2:Int)] 3);have BB:=Hd (BB.alloc BB.size (.cells #[(1:Int),(2:Int)] 3));have cD:=Hd (Bl ((w7.alloc (.cells #[(2:Int)] 3)).alloc (.cells #[(1:Int),(2:Int)] 3)) w7.heap.size (w7.heap.size+1) ((af.new _ _ _ _ rfl).alloc _) (af.new _ _ _ _ U8));clear hb7)|(go_at_call 11;refine cD.o.q λw8 hb8=> ?_;clear cD;have BB:=Hd (BB.o.trans (hb8.mono BB.o.size));clear hb8)|(go_at_call 18;refine(Bn _).r ?_))
 go_ret
 exact⟨rfl,BB.o⟩
section
variable {z:Lay} {l:List WS} {k:Nat} {w w' w0:World} {m:Co} {x:WS}
theorem A1.Qz(h:A1 z l k w m x)(ho:m.out.length<=1048576):Calls prog 30 #[ptr z.o] w λev w'=>∃v,ev=.returned v/\w'.ownsRow w.heap.size 3 1 v m.out.length (m.out.map (Value.int .i64))/\Below w.heap.size w w':=by
 obtain⟨bk,ov,gv,g,R,hk,W,C⟩:=h.parts
 exact GU w z.o ov _ m.out C.sink C.out ho
theorem A1.Ru(h:A1 z l k w m x)(hd:m.data.length<=1048576):Calls prog 32 #[ptr z.ds] w λev w'=>∃v,ev=.returned v/\w'.ownsRow w.heap.size 3 1 v m.data.length (m.data.map (Value.int .i64))/\Below w.heap.size w w':=by
 obtain⟨bk,ov,gv,g,R,hk,W,C⟩:=h.parts
 exact AJ w z.ds z.dd m.data C.data hd
theorem A1.QE(h:A1 z l k w m x):Cs 35 #[ptr z.t] w ↑m.bY λw'=>w=w':=by
 obtain⟨bk,ov,gv,g,R,hk,W,C⟩:=h.parts
 exact Ia w (z.y bk ov gv) m C
theorem AO:(prog.info? 42).map (·.size)=some 11:=by kernel_rfl
theorem KM{base:Nat}{v:Value}{l:List Int}(h:w.ownsRow base 3 1 v l.length (l.map (Value.int .i64))):Own w 3 1 dB v l:=by
 unfold Own;rw[eD];obtain⟨h1,h2⟩:=h
 exact⟨h1,h2.imp (λz=>z) (λ⟨g,cap,cur,e,hb,r⟩=>⟨g,cap,cur,e,n0 _,r⟩)⟩
theorem Own.ints{v:Value}{l:List Int}(h:Own w 3 1 dB v l):aV w v l:=by
 unfold Own at h;rw[eD]at h
 exact gV h
structure dz(z:Lay)(l:List WS)(m:Co)(x:WS)(mq:Nat)(cm:Array Value)(w0 w:World)(ov:Option Value)(o:Option Nat):Prop where
 hc:A1 z l 0 w m x
 bx:af w mq cm 69
 c0:cm[0]? =some (ptr z.c)
 ai:Below w0.heap.size w0 w
 iv:∀v,ov=some v->Own w 3 1 dB v m.out
 nb:∀b,o=some b->af w b #[(0:Int),(0:Int),.slice none 0 0,.slice none 0 0,(0:Int),(0:Int),(0:Int),(0:Int),(0:Int),(0:Int),(0:Int)] 42 /\w0.heap.size<=b
variable {mq:Nat} {cm:Array Value} {ov:Option Value} {o:Option Nat}
theorem dz.call(h:dz z l m x mq cm w0 w ov o)(b:Below w.heap.size w w'):dz z l m x mq cm w0 w' ov o:=
 ⟨h.hc.ai b,h.bx.below b h.bx.lt,h.c0,h.ai.trans (b.mono h.ai.size),λv e=>(h.iv v e).kept (S:=None) (Kept.ob b) (λ_ _ z=>z),λq e=>⟨((h.nb q e).1).below b ((h.nb q e).1).lt,(h.nb q e).2⟩⟩
theorem dz.drew(h:dz z l m x mq cm w0 w ov o):dz z l m x mq cm w0 w.drew ov o:=h.call (Below.refl _ _).drew
theorem dz.row{v:Value}(h:dz z l m x mq cm w0 w none o)(hv:Own w 3 1 dB v m.out):dz z l m x mq cm w0 w (some v) o:=⟨h.hc,h.bx,h.c0,h.ai,λv e=>by cases e;exact hv,h.nb⟩
theorem dz.al(h:dz z l m x mq cm w0 w ov none):dz z l m x mq cm w0 (w.alloc (.cells #[(0:Int),(0:Int),.slice none 0 0,.slice none 0 0,(0:Int),(0:Int),(0:Int),(0:Int),(0:Int),(0:Int),(0:Int)] 42)) ov (some w.heap.size):=
 ⟨h.hc.alloc _,h.bx.alloc _,h.c0,h.ai.alloc h.ai.size _,λv e=>(h.iv v e).alloc _,λq e=>by cases e;exact⟨af.new _ _ _ _ rfl,h.ai.size⟩⟩
theorem tJ(h:A1 z l 0 w m x)(b:af w mq cm 69)(c0:cm[0]? =some (ptr z.c)):w.cell? ⟨mq,0,none⟩=some (ptr z.c)/\w.cell? ⟨z.c,13,none⟩=some ↑m.st.steps/\w.cell? ⟨z.c,14,none⟩=some ↑m.st.probes/\w.cell? ⟨z.c,15,none⟩=some ↑m.st.bD/\w.cell? ⟨z.c,16,none⟩=some ↑m.st.lh/\w.cell? ⟨z.c,17,none⟩=some ↑m.st.dx/\w.cell? ⟨z.c,18,none⟩=some ↑m.st.folds/\w.cell? ⟨z.c,19,none⟩=some ↑m.st.bY:=
 ⟨(b.cell 0).trans c0,h.iA 13 _ rfl,h.iA 14 _ rfl,h.iA 15 _ rfl,h.iA 16 _ rfl,h.iA 17 _ rfl,h.iA 18 _ rfl,h.iA 19 _ rfl⟩
def Ji(z:Lay)(l:List WS)(m:Co)(x:WS)(mq:Nat)(cm:Array Value)(w0 w:World)(s:Value):Prop:=∃b A c A2 c2,s=.pointer (some ⟨b,0,none⟩)/\w0.heap.size<=b/\af w b #[(1:Int),m.why,.slice A m.out.length c,.slice A2 m.data.length c2,m.st.steps,m.st.probes,m.st.bD,m.st.lh,m.st.dx,m.st.folds,m.st.bY] 42 /\Own w 3 1 dB (.slice A m.out.length c) m.out/\A1 z l 0 w m x/\af w mq cm 69 /\Below w0.heap.size w0 w
theorem yF{M:MS}(R:fM z w M)(mq lb cap:Nat)(cs:Array Value)(B:gK z mq lb M.ws.length cap cs)(hs:M.co.status=1)(ho:M.co.out.length<=1048576)(hd:M.co.data.length<=1048576):Calls prog 10 #[ptr mq] w λev w'=>(∃A c A2 c2,ev=.returned (.agg #[(1:Int),M.co.why,.slice A M.co.out.length c,.slice A2 M.co.data.length c2,M.co.st.steps,M.co.st.probes,M.co.st.bD,M.co.st.lh,M.co.st.dx,M.co.st.folds,M.co.bY])/\aV w' (.slice A M.co.out.length c) M.co.out)/\Below w.heap.size w w':=by
 obtain⟨l,x,H⟩:∃l x,A1 z l 0 w M.co x:=⟨_,_,R.a1 0 B.pos⟩;have BX:=Hd ((R.X B.mX).alloc (.cells #[(0:Int),(0:Int),.slice none 0 0,.slice none 0 0,(0:Int),(0:Int),(0:Int),(0:Int),(0:Int),(0:Int),(0:Int)] 42));have QX:=Hd (af.new w #[(0:Int),(0:Int),.slice none 0 0,.slice none 0 0,(0:Int),(0:Int),(0:Int),(0:Int),(0:Int),(0:Int),(0:Int)] 42 _ rfl);have BB:=(Below.refl w.heap.size w).alloc nr (.cells #[(0:Int),(0:Int),.slice none 0 0,.slice none 0 0,(0:Int),(0:Int),(0:Int),(0:Int),(0:Int),(0:Int),(0:Int)] 42);have HH:=Hd (H.ai BB);have BB:=Hd BB;have cS:=Hd HH.o.um;rw[hs]at cS;have HO:=Hd ho;have HD:=Hd hd;have n1:¬((1:Int)=0):=by decide
 have C0:=Hd (show(#[ptr z.c,.slice (some ⟨lb,0,none⟩) M.ws.length cap]:Array Value)[0]? =some (ptr z.c)from rfl);clear R B H hs ho hd;generalize(#[ptr z.c,.slice (some ⟨lb,0,none⟩) M.ws.length cap]:Array Value)=cm at*;go_enter func10,ntmps10;go_upto_region 3 with fail;generalize w.alloc (.cells #[(0:Int),(0:Int),.slice none 0 0,.slice none 0 0,(0:Int),(0:Int),(0:Int),(0:Int),(0:Int),(0:Int),(0:Int)] 42)=W at*;generalize hq:w.heap.size=q at*;have hq:=Hd hq;have x0:W.cell? ⟨mq,0,none⟩=some (ptr z.c):=(BX.o.cell 0).trans C0.out
 go_upto_region 6 with(go_at_call 28;refine cS.o.q λw1 Sr=> ?_;have HH:=Hd (HH.o.ai Sr);have BX:=Hd (BX.o.below Sr BX.o.lt);have QX:=Hd (QX.out.below Sr QX.out.lt);have BB:=Hd (BB.o.trans (Sr.mono (by have z:=BB.o.size;rw[hq.out]at z;exact z)));clear Sr)
 clear cS x0 n1;have LQ:=Hd (show q<w1.heap.size from QX.out.lt)
 go_cut [5]from 23 to 44 (λs5 wx=>Ji z l M.co x mq cm w1 wx s5)
 case first=>
  have HS:dz z l M.co x mq cm w1 w1.drew none none:=dz.drew ⟨HH.o,BX.o,C0.out,Below.refl _ _,(λv e=>by cases e),(λb e=>by cases e)⟩;have HS:=Hd HS;have FS:=Hd (λw' ov o (h:dz z l M.co x mq cm w1 w' ov o)=>tJ h.hc h.bx h.c0);have FA:=Hd (λw' (h:Below w1.heap.size w1 w')=>tJ (HH.o.ai h) (BX.o.below h BX.o.lt) C0.out);have MK:=Hd (λ(w':World)(h:Below w1.heap.size w1 w')=>(⟨HH.o.ai h,BX.o.below h BX.o.lt,h⟩:A1 z l 0 w' M.co x/\af w' mq cm 69 /\Below w1.heap.size w1 w'));clear QX BB LQ BX HH C0;refine wp_region_held_drew (S:=(λw'=>w'.cell? ⟨mq,0,none⟩=some (ptr z.c)/\w'.cell? ⟨z.c,13,none⟩=some ↑M.co.st.steps/\w'.cell? ⟨z.c,14,none⟩=some ↑M.co.st.probes/\w'.cell? ⟨z.c,15,none⟩=some ↑M.co.st.bD/\w'.cell? ⟨z.c,16,none⟩=some ↑M.co.st.lh/\w'.cell? ⟨z.c,17,none⟩=some ↑M.co.st.dx/\w'.cell? ⟨z.c,18,none⟩=some ↑M.co.st.folds/\w'.cell? ⟨z.c,19,none⟩=some ↑M.co.st.bY)) U7 ?_ (λhHeld=>?_)
  ·exact FS.o _ _ _ HS.o
  replace HS:=HS.o;generalize w1.drew=wd at*;have HN:lC 0:=rfl;refine hU 0 ?_;refine pz ?_;refine hU 1 ?_;refine pz ?_;refine hU 2 ?_;refine pz ?_;refine hU 3 ?_;refine pz ?_;refine hU 4 ?_;refine pz ?_;refine hU 5 ?_;refine pz ?_;refine hU 8 ?_;refine pz ?_;refine hU 9 ?_;refine pz ?_;refine hU 10 ?_;refine pz ?_;refine hU 11 ?_;refine pz ?_;refine hU 14 ?_;refine pz ?_;refine hU 15 ?_;refine pz ?_;refine hU 16 ?_;refine pz ?_;refine hU 17 ?_;refine pz ?_
  iterate 6
   all_goals
    refine pz ?_
    first
    |(have q2:lC 0:=HN;have q:dz _ _ _ _ _ _ _ _ _ none:=HS;clear q q2;refine wpAnyH_ready (rs:=[6,22]) U7 U8 ?_)
    |(have q2:lC 0:=HN;have q:dz _ _ _ _ _ _ _ _ _ (some _):=HS;clear q q2;refine wpAnyH_ready (rs:=[6]) U7 U8 ?_)
    |(have q2:lC 1:=HN;have q:dz _ _ _ _ _ _ _ _ _ none:=HS;clear q q2;refine wpAnyH_ready (rs:=[7,22]) U7 U8 ?_)
    |(have q2:lC 1:=HN;have q:dz _ _ _ _ _ _ _ _ _ (some _):=HS;clear q q2;refine wpAnyH_ready (rs:=[7]) U7 U8 ?_)
    |(have q2:lC 2:=HN;have q:dz _ _ _ _ _ _ _ _ _ none:=HS;clear q q2;refine wpAnyH_ready (rs:=[12,22]) U7 U8 ?_)
    |(have q2:lC 2:=HN;have q:dz _ _ _ _ _ _ _ _ _ (some _):=HS;clear q q2;refine wpAnyH_ready (rs:=[12]) U7 U8 ?_)
    |(have q2:lC 3:=HN;have q:dz _ _ _ _ _ _ _ _ _ none:=HS;clear q q2;refine wpAnyH_ready (rs:=[13,22]) U7 U8 ?_)
    |(have q2:lC 3:=HN;have q:dz _ _ _ _ _ _ _ _ _ (some _):=HS;clear q q2;refine wpAnyH_ready (rs:=[13]) U7 U8 ?_)
    |(have q2:lC 4:=HN;have q:dz _ _ _ _ _ _ _ _ _ none:=HS;clear q q2;refine wpAnyH_ready (rs:=[18,22]) U7 U8 ?_)
    |(have q2:lC 4:=HN;have q:dz _ _ _ _ _ _ _ _ _ (some _):=HS;clear q q2;refine wpAnyH_ready (rs:=[18]) U7 U8 ?_)
    |(have q2:lC 5:=HN;have q:dz _ _ _ _ _ _ _ _ _ none:=HS;clear q q2;refine wpAnyH_ready (rs:=[22]) U7 U8 ?_)
    repeat' (first|exact AllReadyH.nil|refine AllReadyH.cons (o:=_) rfl (λK hK=>?_) ?_)
   all_goals
    (try simp only[List.getElem_toArray,List.getElem_cons_zero,List.getElem_cons_succ])
    go_simp
    first
    |(go_at_call 29;refine HS.hc.cOut.r ?_;clear HN;have HN:lC 1:=rfl;refine hK.o _ _ (FS.o _ _ _ HS) (λhHeld=>?_))
    |(go_at_call 30;refine(HS.hc.Qz HO.o).mono ?_;rintro ev w2 ⟨v,rfl,hv,hb2⟩;obtain⟨A,c,rfl⟩:=ownsRow_form hv;replace HS:=(HS.call hb2).row (KM hv);clear hv hb2;clear HN;have HN:lC 2:=rfl;refine hK.o _ _ (FS.o _ _ _ HS) (λhHeld=>?_))
    |(go_at_call 31;refine HS.hc.P9.r ?_;clear HN;have HN:lC 3:=rfl;refine hK.o _ _ (FS.o _ _ _ HS) (λhHeld=>?_))
    |(go_at_call 32;refine(HS.hc.Ru HD.o).mono ?_;rintro ev w2 ⟨v,rfl,hv,hb2⟩;obtain⟨A2,c2,rfl⟩:=ownsRow_form hv;replace HS:=HS.call hb2;clear hv hb2;clear HN;have HN:lC 4:=rfl;refine hK.o _ _ (FS.o _ _ _ HS) (λhHeld=>?_))
    |(go_at_call 33;refine HS.hc.jQ.r ?_;clear HN;have HN:lC 5:=rfl;refine hK.o _ _ (FS.o _ _ _ HS) (λhHeld=>?_);refine pz ?_;(refine hT 19 ?_ rfl U7 (λ_ _ _ h=>h) (by rfl) ?_ U6 ?_;rotate_left 1;(·intro w hSw;(try dsimp only at hSw);(try go_split_ands);go_simp<;>with_reducible rfl);refine pz ?_);(refine hT 20 ?_ rfl U7 (λ_ _ _ h=>h) (by rfl) ?_ U6 ?_;rotate_left 1;(·intro w hSw;(try dsimp only at hSw);(try go_split_ands);go_simp<;>with_reducible rfl);refine pz ?_);(refine hT 21 ?_ rfl U7 (λ_ _ _ h=>h) (by rfl) ?_ U6 ?_;rotate_left 1;(·intro w hSw;(try dsimp only at hSw);(try go_split_ands);go_simp<;>with_reducible rfl);refine pz ?_))
    |(replace HS:=HS.al;refine hK.o _ _ (FS.o _ _ _ HS) (λhHeld=>?_))
    clear hK K;refine pz ?_
  all_goals
   have HE:=HS.nb _ rfl;have HV:=HS.iv _ rfl;have HB:=HS.ai;refine wpAnyH_ready (rs:=[23]) U7 U8 ?_;refine hA (λK hK=>?_)
   (try simp only[List.getElem_toArray,List.getElem_cons_zero,List.getElem_cons_succ])
   rw[if_pos (by rfl)];refine gD 42 (.tmp 5) (.tmp 44) rfl _ _ _ _ HE.1 rfl rfl AO rfl U17 ?_;intro w3 B6 K6;have HB3:Below w1.heap.size w1 w3:=HB.trans (K6.below (λk q=>by have q':=(q:k=_);rw[q'];exact HE.2) HB.size);have HV3:=HV.kept K6 (λb e z=>HV.ne HE.1 U0 (e.trans (congrArg some z)));refine hK.o _ _ (FA.out _ HB3) (λhHeld=>?_);clear hK K;refine pz ?_;refine wpAnyH_done U7 ?_ _;go_wp2_with fail
   go_meet
   exact⟨_,_,_,_,_,rfl,HE.2,B6,HV3,(MK.out _ HB3).1,(MK.out _ HB3).2.1,HB3⟩
 case rest=>
  obtain⟨b,A,c,A2,c2,rfl,hb,HB,HV,HA,HM,HL⟩:=hcut;have QC:=QX.out.below HL LQ.out;have BC:=BB.o.trans (HL.mono (Nat.le_of_lt LQ.out));have nqb:q≠b:=by have:=LQ.out;omega
  have x0:wc.cell? ⟨mq,0,none⟩=some (ptr z.c):=(HM.cell 0).trans C0.out;have cF:=Hd HA.dZ;have cP:=Hd HA.QE;have x10:=HB.c10;have f10:=HB.fz 10;have HV:=Hd (HV.kept (Kept.one wc b 10 ↑M.co.bY) (λk e z=>HV.ne HB U0 (e.trans (congrArg some z))));have HB:=Hd (HB.set 10 ↑M.co.bY);have QC:=Hd (QC.far (a:=⟨b,10,none⟩) nqb ↑M.co.bY);have BC:=Hd (BC.setCell (p:=⟨b,10,none⟩) (by show q<=b;have:=LQ.out;omega) ↑M.co.bY);have NQ:=Hd nqb;clear HL QX BB HH BX HA HM hb HO HD nqb
  go_upto_region 8 with(first|(go_at_call 34;refine cF.o.r ?_)|(go_at_call 35;refine cP.o.r ?_))
  clear x0 x10 f10 cF cP;generalize wc.setCell ⟨b,10,none⟩ ↑M.co.bY=W6 at*;have nbq:¬b=q:=λz=>NQ.out z.symm;have nqb:¬q=b:=NQ.out;have o0:=HB.o.cell 0;have o1:=HB.o.cell 1;have o2:=HB.o.cell 2;have o3:=HB.o.cell 3;have o4:=HB.o.cell 4;have o5:=HB.o.cell 5;have o6:=HB.o.cell 6;have o7:=HB.o.cell 7;have o8:=HB.o.cell 8;have o9:=HB.o.cell 9;have o10:=HB.o.cell 10;have p0:=QC.out.cell 0;have p1:=QC.out.cell 1;have p2:=QC.out.cell 2;have p3:=QC.out.cell 3;have p4:=QC.out.cell 4;have p5:=QC.out.cell 5;have p6:=QC.out.cell 6;have p7:=QC.out.cell 7;have p8:=QC.out.cell 8;have p9:=QC.out.cell 9;have p10:=QC.out.cell 10;have pf:=QC.out.fz;simp only[List.getElem?_toArray,List.getElem?_cons_zero,List.getElem?_cons_succ,List.setIfInBounds_toArray,List.set_cons_zero,List.set_cons_succ]at o0 o1 o2 o3 o4 o5 o6 o7 o8 o9 o10 p0 p1 p2 p3 p4 p5 p6 p7 p8 p9 p10;have Z:=(((((((((((QC.out.set 0 (.int .i64 1)).set 1 ↑M.co.why).set 2 (.slice A M.co.out.length c)).set 3 (.slice A2 M.co.data.length c2)).set 4 ↑M.co.st.steps).set 5 ↑M.co.st.probes).set 6 ↑M.co.st.bD).set 7 ↑M.co.st.lh).set 8 ↑M.co.st.dx).set 9 ↑M.co.st.folds).set 10 ↑M.co.bY);simp only[List.setIfInBounds_toArray,List.set_cons_zero,List.set_cons_succ]at Z;have BZ:=(((((((((((BC.o.setCell (p:=⟨q,0,none⟩) nr (.int .i64 1)).setCell (p:=⟨q,1,none⟩) nr ↑M.co.why).setCell (p:=⟨q,2,none⟩) nr (.slice A M.co.out.length c)).setCell (p:=⟨q,3,none⟩) nr (.slice A2 M.co.data.length c2)).setCell (p:=⟨q,4,none⟩) nr ↑M.co.st.steps).setCell (p:=⟨q,5,none⟩) nr ↑M.co.st.probes).setCell (p:=⟨q,6,none⟩) nr ↑M.co.st.bD).setCell (p:=⟨q,7,none⟩) nr ↑M.co.st.lh).setCell (p:=⟨q,8,none⟩) nr ↑M.co.st.dx).setCell (p:=⟨q,9,none⟩) nr ↑M.co.st.folds).setCell (p:=⟨q,10,none⟩) nr ↑M.co.bY)
  have HI:=(HV.o.kept (((((((((((Kept.one W6 q 0 (.int .i64 1)).set (p:=⟨q,1,none⟩) (Or.inl rfl) ↑M.co.why).set (p:=⟨q,2,none⟩) (Or.inl rfl) (.slice A M.co.out.length c)).set (p:=⟨q,3,none⟩) (Or.inl rfl) (.slice A2 M.co.data.length c2)).set (p:=⟨q,4,none⟩) (Or.inl rfl) ↑M.co.st.steps).set (p:=⟨q,5,none⟩) (Or.inl rfl) ↑M.co.st.probes).set (p:=⟨q,6,none⟩) (Or.inl rfl) ↑M.co.st.bD).set (p:=⟨q,7,none⟩) (Or.inl rfl) ↑M.co.st.lh).set (p:=⟨q,8,none⟩) (Or.inl rfl) ↑M.co.st.dx).set (p:=⟨q,9,none⟩) (Or.inl rfl) ↑M.co.st.folds).set (p:=⟨q,10,none⟩) (Or.inl rfl) ↑M.co.bY) (λk e z=>HV.o.ne QC.out U0 (e.trans (congrArg some z)))).ints;have hl:=run_loadVar_row _ q 42 42 _ (0,0) _ Z underlying42 rfl AO;have HI:=Hd HI;have BZ:=Hd BZ;clear Z;go_wp2_with fail
  exact bodyPost_ret (v:=.agg #[(1:Int),M.co.why,.slice A M.co.out.length c,.slice A2 M.co.data.length c2,M.co.st.steps,M.co.st.probes,M.co.st.bD,M.co.st.lh,M.co.st.dx,M.co.st.folds,M.co.bY]) (by simp[results,results10,Act.put,asAddr,hl]) rfl ⟨⟨A,c,A2,c2,rfl,HI.o⟩,by rw[hq.out];exact BZ.o⟩
end
theorem EU{w:World}{g:Nat}{l:List Int}(h:af w g (l.map (Value.int .i64)).toArray 3):aV w (.slice (some ⟨g,0,none⟩) l.length l.length) l:=⟨_,_,rfl,λ_=>⟨g,0,rfl,h.lt,λj hj=>by rw[Nat.zero_add,h.cell];simp[hj]⟩⟩
theorem Pk(M:MS)(h1:M.co.status=1)(h2:M.co.out=[1,2,3])(h3:used M.co.Sj=1)(h4:M.ws.length=1)(h5:M.co.over=true)(h6:3<=M.co.bY)(h7:M.co.log.length<=1000)(h8:∀e∈M.co.log,0<=e.loop/\e.loop<=1000000)(h9:1<=fV M.co.log M.co.log.length)(h10:M.co.data.length<=1000)
  (cA:∀(w:World)(g:Nat),aP w (.slice (some ⟨g,0,none⟩) 2 2) three->Calls prog 46 #[.agg #[(0:Int),.slice (some ⟨g,0,none⟩) 2 2],.slice none 0 0,.agg #[(0:Int),(2:Int),(8:Int),(8:Int),(9:Int),.bool false,.bool false],(400:Int)] w λev w'=>∃mq z lb cap cs,ev=.returned (ptr mq)/\fM z w' M/\gK z mq lb 1 cap cs/\Below w.heap.size w z.w0/\w.heap.size<=z.B) (w:World):
  Cs 19 #[] w (.bool true) λw'=>Below w.heap.size w w':=by
 have cA:=Hd cA;obtain⟨pk,hpk⟩:∃p,M.co.bY=p:=⟨_,rfl⟩;have cR:=Hd (λ(w:World) z mq lb cap cs (R:fM z w M) (B:gK z mq lb M.ws.length cap cs)=>yF R mq lb cap cs B h1 (by rw[h2];decide) U2);have cE:=Hd (λ(w:World) z mq lb cap cs (R:fM z w M) (B:gK z mq lb M.ws.length cap cs)=>kU R mq lb cap cs B);have cF:=Hd (λ(w:World) z mq lb cap cs (R:fM z w M) (B:gK z mq lb M.ws.length cap cs)=>yE R mq lb cap cs B);have cW:=Hd (λ(w:World) z mq lb cap cs (R:fM z w M) (B:gK z mq lb M.ws.length cap cs)=>wC R h4 mq lb cap cs B);have cV:=Hd (λ(w:World) z mq lb cap cs (R:fM z w M) (B:gK z mq lb M.ws.length cap cs)=>qJ R mq lb cap cs B U2);have cM:=Hd (λw v h=>Am w v M.co.log h U2 h8);obtain⟨mx,hmx⟩:∃x,fV M.co.log M.co.log.length=x:=⟨_,rfl⟩;rw[h5]at cE;rw[h3]at cF;rw[hmx]at cM h9;rw[hpk]at h6;have hpk:=Hd hpk;have g1:decide (1<=mx)=true:=by simp[h9]
 have g2:decide (3<=pk)=true:=by simp[h6]
 have H2:=Hd h2;have H4:=Hd h4;clear h1 h2 h3 h4 h5 h6 h7 h8 h9 h10 hmx;go_enter func19,ntmps19
 go_upto_region 2 with(first|(go_at_call 47;refine(Hy _).mono ?_;rintro ev w1 ⟨g,rfl,HF,Sr⟩;have HF:=Hd HF;have H1:=Hd Sr;clear Sr)|(go_at_call 46;refine(cA.o _ _ HF.o).mono ?_;rintro ev w2 ⟨mq,z,lb,cap,cs,rfl,R,MB,E1,E2⟩;have BT:=Hd (H1.o.trans ((E1.trans (R.Jm.mono E2)).mono H1.o.size));have R:=Hd R;have MB:=Hd (show gK z mq lb M.ws.length cap cs from by rw[H4.o];exact MB);clear E1 E2))
 clear HF H1 cA;go_upto_region 4 with fail
 go_upto_region 5 with(go_at_call 10;refine(cR.o _ _ _ _ _ _ R.out MB.out).mono ?_;rintro ev w3 ⟨⟨A,c,A2,c2,rfl,HI⟩,hb3⟩;have HI:=Hd HI;have R:=Hd (R.out.mE hb3);have BT:=Hd (BT.o.trans (hb3.mono BT.o.size));clear hb3)
 have HI0:aV w3 (.slice A 3 c) [1,2,3]:=by have q:=HI.o;rw[H2.o]at q;exact q
 have e3:M.co.out.length=3:=by rw[H2.o];rfl
 rw[e3];generalize M.co.data.length=n2;generalize M.co.why=why;generalize M.co.st.steps=t0;generalize M.co.st.probes=t1;generalize M.co.st.bD=t2;generalize M.co.st.lh=t3;generalize M.co.st.dx=t4;generalize M.co.st.folds=t5;clear HI e3;have RB:=Hd (af.new w3 #[(1:Int),why,.slice A 3 c,.slice A2 n2 c2,t0,t1,t2,t3,t4,t5,pk] 42 _ rfl);have BA:=(Below.refl w3.heap.size w3).alloc nr (.cells #[(1:Int),why,.slice A 3 c,.slice A2 n2 c2,t0,t1,t2,t3,t4,t5,pk] 42);have R:=Hd (R.out.mE BA);have HI:=Hd (HI0.ai BA nr);have BT:=Hd (BT.o.trans (BA.mono BT.o.size));clear BA HI0;generalize w3.alloc (.cells #[(1:Int),why,.slice A 3 c,.slice A2 n2 c2,t0,t1,t2,t3,t4,t5,pk] 42)=W at*;generalize w3.heap.size=r at*
 go_wp2_with (first
  |(go_at_call 26;refine(cE.o _ _ _ _ _ _ R.out MB.out).q λw4 hb4=> ?_;have HI:=Hd (HI.o.ai hb4 nr);have R:=Hd (R.out.mE hb4);have BT:=Hd (BT.o.trans (hb4.mono BT.o.size));have RB:=Hd (RB.out.below hb4 RB.out.lt);have y0a:=RB.out.c0;have y2a:=RB.out.c2;have y10a:=RB.out.c10;clear hb4)
  |(go_at_call 48;have BA:=(Below.refl w4.heap.size w4).alloc nr (.cells #[(1:Int),(2:Int),(3:Int)] 3);refine(EX _ _ _ [1,2,3] (HI.o.ai BA nr) (EU (l:=[1,2,3]) (af.new w4 _ _ _ rfl)) U0).q λw5 hb5=> ?_;have hb5:=BA.trans (hb5.mono U8);clear BA;have R:=Hd (R.out.mE hb5);have BT:=Hd (BT.o.trans (hb5.mono BT.o.size));have RB:=Hd (RB.out.below hb5 RB.out.lt);have y0b:=RB.out.c0;have y2b:=RB.out.c2;have y10b:=RB.out.c10;clear hb5)
  |(go_at_call 49;refine(cF.o _ _ _ _ _ _ R.out MB.out).q λw6 hb6=> ?_;have R:=Hd (R.out.mE hb6);have BT:=Hd (BT.o.trans (hb6.mono BT.o.size));have RB:=Hd (RB.out.below hb6 RB.out.lt);have y0c:=RB.out.c0;have y2c:=RB.out.c2;have y10c:=RB.out.c10;clear hb6)
  |(go_at_call 50;refine(cW.o _ _ _ _ _ _ R.out MB.out).mono ?_;rintro ev w7 ⟨⟨A7,c7,rfl⟩,hb7⟩;have R:=Hd (R.out.mE hb7);have BT:=Hd (BT.o.trans (hb7.mono BT.o.size));have RB:=Hd (RB.out.below hb7 RB.out.lt);have y0d:=RB.out.c0;have y2d:=RB.out.c2;have y10d:=RB.out.c10;clear hb7)
  |(go_at_call 13;refine(cV.o _ _ _ _ _ _ R.out MB.out).mono ?_;rintro ev w8 ⟨v,rfl,ho8,hb8⟩;have EA:=Hd (AB ho8);have R:=Hd (R.out.mE hb8);have BT:=Hd (BT.o.trans (hb8.mono BT.o.size));have RB:=Hd (RB.out.below hb8 RB.out.lt);have y0e:=RB.out.c0;have y2e:=RB.out.c2;have y10e:=RB.out.c10;clear hb8 ho8)
  |(go_at_call 14;refine(cM.o _ _ EA.out).q λw9 hb9=> ?_;have R:=Hd (R.out.mE hb9);have BT:=Hd (BT.o.trans (hb9.mono BT.o.size));have RB:=Hd (RB.out.below hb9 RB.out.lt);have y0f:=RB.out.c0;have y2f:=RB.out.c2;have y10f:=RB.out.c10;clear hb9))
 go_ret
 exact⟨rfl,BT.o⟩
theorem Pj(w:World):Cs 19 #[] w (.bool true) λw'=>Below w.heap.size w w':=by
 obtain⟨h1,h2,h3,h4,h5,h6,h7,h8,h9,h10,_⟩:=Rh
 exact Pk ME h1 h2 h3 h4 h5 h6 h7 h8 h9 h10 (λw g h=>DD w _ 2 h none 0 [] rfl ⟨none,0,rfl,λz=>absurd z U0⟩ (λ_ _=>rfl)) w
end Go.Proofs.YteiignfflbmafaaGreat.Tp
namespace Go.Proofs.YteiignfflbmafaaGreat.Tp
open Go.Proofs.Tryz
open Go.RowKit Go.Proofs.YteiignfflbmafaaGreat.Tok
open Go.ChangeShapes Go.WideShapes Go.ChangeAt
theorem proved:Rows.TopOneSaid:=
 OpenClaim.holds_of_wide 4 Tryz.f4 rfl rfl rfl rfl rfl rfl rfl ⟨rfl,rfl,rfl,rfl,rfl⟩ rfl rfl rfl rfl rfl U7 func4 U7
  (of_decide_eq_true U7) (by unfold Func.isWrapper;first|(rw[if_pos U26];kernel_rfl)|(rw[if_neg U26];exact⟨rfl,rfl⟩))
  (λos R9 H enc _=>lifted (Ja Pj) yY os R9 H enc)
#print axioms proved
end Go.Proofs.YteiignfflbmafaaGreat.Tp
