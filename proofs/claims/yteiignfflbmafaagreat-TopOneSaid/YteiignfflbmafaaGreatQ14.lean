/- TopOne, part 14. -/
import Derived.Test.YteiignfflbmafaaGreatQ13
set_option linter.unusedVariables false
set_option linter.unusedSimpArgs false
set_option maxRecDepth 100000
set_option maxHeartbeats 8000000
namespace Go.Proofs.YteiignfflbmafaaGreat.Tp
open Go.Proofs.Tryz
open Go.RowKit Go.Proofs.YteiignfflbmafaaGreat.Tok
variable {z:Lay} {l:List WS} {k:Nat} {w:World} {m:Co} {x:WS}
theorem Us10 {p:Prop} (h:p:=by
 go_enter func107,ntmps107;go_wp2_with fail
 go_ret
 exact⟨rfl,rfl⟩):p:=h
theorem Us9 {p:Prop} (h:p:=by
 go_enter func61,ntmps61;go_wp2_with fail
 go_ret
 exact⟨rfl,rfl⟩):p:=h
theorem Us4 {p:Prop} (h:p:=by
 go_enter func61,ntmps61
 go_wp2_with (go_at_call 107;refine(c1.o _).r ?_)
 go_ret
 exact⟨rfl,rfl⟩):p:=h
theorem Us0 {p:Prop} (h:p:=by
 clear hf hst;have H0:=Hd h;clear h hs;go_enter func27,ntmps27
 go_upto_region 2 with(go_at_call 28;refine(c1.o _ H0.o).q λw1 Sr=> ?_)
 have HC:=H0.o.ai Sr;clear c1 Sr;obtain⟨y13,z13,H2⟩:=FS.o _ HC;have y1:=F1.out _ H2
 go_upto_region 3 with(go_at_call 33;refine(cs.o _ HC).r ?_)
 clear y13 z13 HC FS F1 cs;generalize w1.setCell ⟨z.c,13,none⟩ (.int .i64 (wrap64 (m.st.steps+1)))=W2 at*
 go_wp2_with (first|(go_at_call 61;refine(c3.o _).r ?_)|(go_at_call 94;refine(c2.o _ H2).q λw4 H4=> ?_)|(go_at_call 95;refine(c2.o _ H2).q λw4 H4=> ?_)|(go_at_call 96;refine(c2.o _ H2).q λw4 H4=> ?_)|(go_at_call 97;refine(c2.o _ H2).q λw4 H4=> ?_)|(go_at_call 98;refine(c2.o _ H2).q λw4 H4=> ?_)|(go_at_call 99;refine(c2.o _ H2).q λw4 H4=> ?_)|(go_at_call 100;refine(c2.o _ H2).q λw4 H4=> ?_)|(go_at_call 101;refine(c2.o _ H2).q λw4 H4=> ?_)|(go_at_call 102;refine(c2.o _ H2).q λw4 H4=> ?_)|(go_at_call 103;refine(c2.o _ H2).q λw4 H4=> ?_)|(go_at_call 104;refine(c2.o _ H2).q λw4 H4=> ?_)|(go_at_call 105;refine(c2.o _ H2).q λw4 H4=> ?_)|(go_at_call 173;refine(c2.o _ H2).q λw4 H4=> ?_)|(go_at_call 174;refine(c2.o _ H2).q λw4 H4=> ?_)|(go_at_call 175;refine(c2.o _ H2).q λw4 H4=> ?_)|(go_at_call 176;refine(c2.o _ H2).q λw4 H4=> ?_)|(go_at_call 177;refine(c2.o _ H2).q λw4 H4=> ?_)|(go_at_call 178;refine(c2.o _ H2).q λw4 H4=> ?_)|(go_at_call 179;refine(c2.o _ H2).q λw4 H4=> ?_)|(go_at_call 180;refine(c2.o _ H2).q λw4 H4=> ?_)|(go_at_call 181;refine(c2.o _ H2).q λw4 H4=> ?_)|(go_at_call 182;refine(c2.o _ H2).q λw4 H4=> ?_)|(go_at_call 183;refine(c2.o _ H2).q λw4 H4=> ?_))
 go_end0
 exact⟨rfl,H4⟩):p:=h
theorem PN(w:World):Cs 61 #[(1:Int)] w (.func (.func 94) #[] #[]) λw'=>w=w':=by
 exact Us9
theorem PO(w:World):Cs 61 #[(2:Int)] w (.func (.func 95) #[] #[]) λw'=>w=w':=by
 exact Us9
theorem PP(w:World):Cs 61 #[(3:Int)] w (.func (.func 96) #[] #[]) λw'=>w=w':=by
 exact Us9
theorem PR(w:World):Cs 61 #[(4:Int)] w (.func (.func 97) #[] #[]) λw'=>w=w':=by
 exact Us9
theorem PS(w:World):Cs 61 #[(5:Int)] w (.func (.func 98) #[] #[]) λw'=>w=w':=by
 exact Us9
theorem PT(w:World):Cs 61 #[(6:Int)] w (.func (.func 99) #[] #[]) λw'=>w=w':=by
 exact Us9
theorem PU(w:World):Cs 61 #[(7:Int)] w (.func (.func 100) #[] #[]) λw'=>w=w':=by
 exact Us9
theorem PV(w:World):Cs 61 #[(8:Int)] w (.func (.func 101) #[] #[]) λw'=>w=w':=by
 exact Us9
theorem PY(w:World):Cs 61 #[(9:Int)] w (.func (.func 102) #[] #[]) λw'=>w=w':=by
 exact Us9
theorem MC(w:World):Cs 61 #[(10:Int)] w (.func (.func 103) #[] #[]) λw'=>w=w':=by
 exact Us9
theorem MF(w:World):Cs 61 #[(11:Int)] w (.func (.func 104) #[] #[]) λw'=>w=w':=by
 exact Us9
theorem MG(w:World):Cs 61 #[(12:Int)] w (.func (.func 105) #[] #[]) λw'=>w=w':=by
 exact Us9
theorem Fh(w:World):Cs 107 #[(14:Int)] w (.func (.func 173) #[] #[]) λw'=>w=w':=by
 exact Us10
theorem MH(w:World):Cs 61 #[(14:Int)] w (.func (.func 173) #[] #[]) λw'=>w=w':=by
 have c1:=Hd (λw=>Fh w)
 exact Us4
theorem Fj(w:World):Cs 107 #[(15:Int)] w (.func (.func 174) #[] #[]) λw'=>w=w':=by
 exact Us10
theorem MI(w:World):Cs 61 #[(15:Int)] w (.func (.func 174) #[] #[]) λw'=>w=w':=by
 have c1:=Hd (λw=>Fj w)
 exact Us4
theorem Fp(w:World):Cs 107 #[(16:Int)] w (.func (.func 175) #[] #[]) λw'=>w=w':=by
 exact Us10
theorem MJ(w:World):Cs 61 #[(16:Int)] w (.func (.func 175) #[] #[]) λw'=>w=w':=by
 have c1:=Hd (λw=>Fp w)
 exact Us4
theorem Fq(w:World):Cs 107 #[(17:Int)] w (.func (.func 176) #[] #[]) λw'=>w=w':=by
 exact Us10
theorem MN(w:World):Cs 61 #[(17:Int)] w (.func (.func 176) #[] #[]) λw'=>w=w':=by
 have c1:=Hd (λw=>Fq w)
 exact Us4
theorem Fs(w:World):Cs 107 #[(18:Int)] w (.func (.func 177) #[] #[]) λw'=>w=w':=by
 exact Us10
theorem MO(w:World):Cs 61 #[(18:Int)] w (.func (.func 177) #[] #[]) λw'=>w=w':=by
 have c1:=Hd (λw=>Fs w)
 exact Us4
theorem Fu(w:World):Cs 107 #[(19:Int)] w (.func (.func 178) #[] #[]) λw'=>w=w':=by
 exact Us10
theorem MQ(w:World):Cs 61 #[(19:Int)] w (.func (.func 178) #[] #[]) λw'=>w=w':=by
 have c1:=Hd (λw=>Fu w)
 exact Us4
theorem Fw(w:World):Cs 107 #[(20:Int)] w (.func (.func 179) #[] #[]) λw'=>w=w':=by
 exact Us10
theorem MR(w:World):Cs 61 #[(20:Int)] w (.func (.func 179) #[] #[]) λw'=>w=w':=by
 have c1:=Hd (λw=>Fw w)
 exact Us4
theorem Fx(w:World):Cs 107 #[(21:Int)] w (.func (.func 180) #[] #[]) λw'=>w=w':=by
 exact Us10
theorem MU(w:World):Cs 61 #[(21:Int)] w (.func (.func 180) #[] #[]) λw'=>w=w':=by
 have c1:=Hd (λw=>Fx w)
 exact Us4
theorem Fy(w:World):Cs 107 #[(22:Int)] w (.func (.func 181) #[] #[]) λw'=>w=w':=by
 exact Us10
theorem MV(w:World):Cs 61 #[(22:Int)] w (.func (.func 181) #[] #[]) λw'=>w=w':=by
 have c1:=Hd (λw=>Fy w)
 exact Us4
theorem Fz(w:World):Cs 107 #[(23:Int)] w (.func (.func 182) #[] #[]) λw'=>w=w':=by
 exact Us10
theorem MW(w:World):Cs 61 #[(23:Int)] w (.func (.func 182) #[] #[]) λw'=>w=w':=by
 have c1:=Hd (λw=>Fz w)
 exact Us4
theorem FC(w:World):Cs 107 #[(24:Int)] w (.func (.func 183) #[] #[]) λw'=>w=w':=by
 exact Us10
theorem MX(w:World):Cs 61 #[(24:Int)] w (.func (.func 183) #[] #[]) λw'=>w=w':=by
 have c1:=Hd (λw=>FC w)
 exact Us4
def Co.tick(m:Co):Co:={m with st:={m.st with steps:=wrap64 (m.st.steps+1)}}
def Co.acts(m:Co)(x:WS)(v:Int):Option (Co×WS):=
 if x.R8=0 then m.oF x v
 else if x.R8=1 then m.nC x
 else if x.R8=2 then m.Bh x
 else if x.R8=3 then m.pQ x
 else if x.R8=4 then m.runs x
 else if x.R8=5 then m.kG x
 else if x.R8=6 then m.ni x
 else if x.R8=7 then m.kD x
 else if x.R8=8 then m.kH x
 else if x.R8=9 then m.iP x
 else if x.R8=10 then m.su x
 else if x.R8=11 then m.lG x
 else if x.R8=12 then m.rZ x
 else if x.R8=14 then m.rY x
 else if x.R8=15 then m.kE x
 else if x.R8=16 then m.rX x
 else if x.R8=17 then m.kF x
 else if x.R8=18 then m.gF x
 else if x.R8=19 then m.r9 x
 else if x.R8=20 then m.sj x
 else if x.R8=21 then m.nA x
 else if x.R8=22 then m.mZ x
 else if x.R8=23 then m.si x
 else if x.R8=24 then m.ng x
 else none
theorem A1.gm(h:A1 z l k w m x)(hs:m.status=0)(s:Int)(hst:x.R8=s):
  Hid (∀w,A1 z l k w m x->Cs 28 #[ptr z.c] w (.tuple #[(0:Int),m.why]) λw'=>Below w.heap.size w w')/\
  Hid (∀w,A1 z l k w m x->Cs 33 #[ptr z.c] w (.pointer (some ⟨z.c,13,none⟩)) λw'=>w=w')/\
  Hid (∀w,A1 z l k w m x->w.cell? ⟨z.c,13,none⟩=some ↑m.st.steps/\(∀j,w.frozen? ⟨z.c,j,none⟩=false)/\A1 z l k (w.setCell ⟨z.c,13,none⟩ (.int .i64 (wrap64 (m.st.steps+1)))) m.tick x)/\
  Hid (∀w,A1 z l k w m.tick x->w.cell? ⟨z.wq k,1,none⟩=some ↑s):=
 ⟨Hd (λw h=>by rw[<-hs];exact h.um),Hd (λw h=>h.jQ),Hd (λw h=>⟨h.iA 13 _ rfl,h.cfz,h.fB 13 (.int .i64 (wrap64 (m.st.steps+1))) {m.st with steps:=wrap64 (m.st.steps+1)} m.ae m.status m.why rfl⟩),Hd (λw h=>h.cell 1 _ (by rw[<-hst];rfl))⟩
theorem A1.zH(h:A1 z l k w m x)(v:Int)(hs:m.status=0)(hst:x.R8=0)(m':Co)(x':WS)(hf:m.tick.oF x v=some (m',x')):Cs 27 #[ptr (z.wq k),ptr z.c,v] w (.tuple #[]) λw'=>A1 z l k w' m' x':=by
 obtain⟨c1,cs,FS,F1⟩:=h.gm hs _ hst;have c2:=Hd (λw (h:A1 z l k w m.tick x)=>h.Pq v m' x' hf);clear hf hst;have H0:=Hd h;clear h hs;go_enter func27,ntmps27
 go_upto_region 2 with(go_at_call 28;refine(c1.o _ H0.o).q λw1 Sr=> ?_)
 have HC:=H0.o.ai Sr;clear c1 Sr;obtain⟨y13,z13,H2⟩:=FS.o _ HC;have y1:=F1.out _ H2
 go_upto_region 3 with(go_at_call 33;refine(cs.o _ HC).r ?_)
 clear y13 z13 HC FS F1 cs;generalize w1.setCell ⟨z.c,13,none⟩ (.int .i64 (wrap64 (m.st.steps+1)))=W2 at*
 go_wp2_with (go_at_call 60;refine(c2.o _ H2).q λw3 H3=> ?_)
 exact Us25
theorem A1.LU(h:A1 z l k w m x)(v:Int)(hs:m.status=0)(hst:x.R8=1)(m':Co)(x':WS)(hf:m.tick.nC x=some (m',x')):Cs 27 #[ptr (z.wq k),ptr z.c,v] w (.tuple #[]) λw'=>A1 z l k w' m' x':=by
 obtain⟨c1,cs,FS,F1⟩:=h.gm hs _ hst;have c2:=Hd (λw (h:A1 z l k w m.tick x)=>h.DV m' x' hf);have c3:=Hd (λw=>PN w)
 exact Us0
theorem A1.LV(h:A1 z l k w m x)(v:Int)(hs:m.status=0)(hst:x.R8=2)(m':Co)(x':WS)(hf:m.tick.Bh x=some (m',x')):Cs 27 #[ptr (z.wq k),ptr z.c,v] w (.tuple #[]) λw'=>A1 z l k w' m' x':=by
 obtain⟨c1,cs,FS,F1⟩:=h.gm hs _ hst;have c2:=Hd (λw (h:A1 z l k w m.tick x)=>h.Nk m' x' hf);have c3:=Hd (λw=>PO w)
 exact Us0
theorem A1.LX(h:A1 z l k w m x)(v:Int)(hs:m.status=0)(hst:x.R8=3)(m':Co)(x':WS)(hf:m.tick.pQ x=some (m',x')):Cs 27 #[ptr (z.wq k),ptr z.c,v] w (.tuple #[]) λw'=>A1 z l k w' m' x':=by
 obtain⟨c1,cs,FS,F1⟩:=h.gm hs _ hst;have c2:=Hd (λw (h:A1 z l k w m.tick x)=>h.Jy m' x' hf);have c3:=Hd (λw=>PP w)
 exact Us0
theorem A1.LY(h:A1 z l k w m x)(v:Int)(hs:m.status=0)(hst:x.R8=4)(m':Co)(x':WS)(hf:m.tick.runs x=some (m',x')):Cs 27 #[ptr (z.wq k),ptr z.c,v] w (.tuple #[]) λw'=>A1 z l k w' m' x':=by
 obtain⟨c1,cs,FS,F1⟩:=h.gm hs _ hst;have c2:=Hd (λw (h:A1 z l k w m.tick x)=>h.QJ m' x' hf);have c3:=Hd (λw=>PR w)
 exact Us0
theorem A1.L6(h:A1 z l k w m x)(v:Int)(hs:m.status=0)(hst:x.R8=5)(m':Co)(x':WS)(hf:m.tick.kG x=some (m',x')):Cs 27 #[ptr (z.wq k),ptr z.c,v] w (.tuple #[]) λw'=>A1 z l k w' m' x':=by
 obtain⟨c1,cs,FS,F1⟩:=h.gm hs _ hst;have c2:=Hd (λw (h:A1 z l k w m.tick x)=>h.Br m' x' hf);have c3:=Hd (λw=>PS w)
 exact Us0
theorem A1.L8(h:A1 z l k w m x)(v:Int)(hs:m.status=0)(hst:x.R8=6)(m':Co)(x':WS)(hf:m.tick.ni x=some (m',x')):Cs 27 #[ptr (z.wq k),ptr z.c,v] w (.tuple #[]) λw'=>A1 z l k w' m' x':=by
 obtain⟨c1,cs,FS,F1⟩:=h.gm hs _ hst;have c2:=Hd (λw (h:A1 z l k w m.tick x)=>h.DT m' x' hf);have c3:=Hd (λw=>PT w)
 exact Us0
theorem A1.L9(h:A1 z l k w m x)(v:Int)(hs:m.status=0)(hst:x.R8=7)(m':Co)(x':WS)(hf:m.tick.kD x=some (m',x')):Cs 27 #[ptr (z.wq k),ptr z.c,v] w (.tuple #[]) λw'=>A1 z l k w' m' x':=by
 obtain⟨c1,cs,FS,F1⟩:=h.gm hs _ hst;have c2:=Hd (λw (h:A1 z l k w m.tick x)=>h.Bo m' x' hf);have c3:=Hd (λw=>PU w)
 exact Us0
theorem A1.Ma(h:A1 z l k w m x)(v:Int)(hs:m.status=0)(hst:x.R8=8)(m':Co)(x':WS)(hf:m.tick.kH x=some (m',x')):Cs 27 #[ptr (z.wq k),ptr z.c,v] w (.tuple #[]) λw'=>A1 z l k w' m' x':=by
 obtain⟨c1,cs,FS,F1⟩:=h.gm hs _ hst;have c2:=Hd (λw (h:A1 z l k w m.tick x)=>h.Bt m' x' hf);have c3:=Hd (λw=>PV w)
 exact Us0
theorem A1.Mc(h:A1 z l k w m x)(v:Int)(hs:m.status=0)(hst:x.R8=9)(m':Co)(x':WS)(hf:m.tick.iP x=some (m',x')):Cs 27 #[ptr (z.wq k),ptr z.c,v] w (.tuple #[]) λw'=>A1 z l k w' m' x':=by
 obtain⟨c1,cs,FS,F1⟩:=h.gm hs _ hst;have c2:=Hd (λw (h:A1 z l k w m.tick x)=>h.xP m' x' hf);have c3:=Hd (λw=>PY w)
 exact Us0
theorem A1.Iz(h:A1 z l k w m x)(v:Int)(hs:m.status=0)(hst:x.R8=10)(m':Co)(x':WS)(hf:m.tick.su x=some (m',x')):Cs 27 #[ptr (z.wq k),ptr z.c,v] w (.tuple #[]) λw'=>A1 z l k w' m' x':=by
 obtain⟨c1,cs,FS,F1⟩:=h.gm hs _ hst;have c2:=Hd (λw (h:A1 z l k w m.tick x)=>h.Jw m' x' hf);have c3:=Hd (λw=>MC w)
 exact Us0
theorem A1.IB(h:A1 z l k w m x)(v:Int)(hs:m.status=0)(hst:x.R8=11)(m':Co)(x':WS)(hf:m.tick.lG x=some (m',x')):Cs 27 #[ptr (z.wq k),ptr z.c,v] w (.tuple #[]) λw'=>A1 z l k w' m' x':=by
 obtain⟨c1,cs,FS,F1⟩:=h.gm hs _ hst;have c2:=Hd (λw (h:A1 z l k w m.tick x)=>h.DL m' x' hf);have c3:=Hd (λw=>MF w)
 exact Us0
theorem A1.IC(h:A1 z l k w m x)(v:Int)(hs:m.status=0)(hst:x.R8=12)(m':Co)(x':WS)(hf:m.tick.rZ x=some (m',x')):Cs 27 #[ptr (z.wq k),ptr z.c,v] w (.tuple #[]) λw'=>A1 z l k w' m' x':=by
 obtain⟨c1,cs,FS,F1⟩:=h.gm hs _ hst;have c2:=Hd (λw (h:A1 z l k w m.tick x)=>h.Js m' x' hf);have c3:=Hd (λw=>MG w)
 exact Us0
theorem A1.IE(h:A1 z l k w m x)(v:Int)(hs:m.status=0)(hst:x.R8=14)(m':Co)(x':WS)(hf:m.tick.rY x=some (m',x')):Cs 27 #[ptr (z.wq k),ptr z.c,v] w (.tuple #[]) λw'=>A1 z l k w' m' x':=by
 obtain⟨c1,cs,FS,F1⟩:=h.gm hs _ hst;have c2:=Hd (λw (h:A1 z l k w m.tick x)=>h.Jr m' x' hf);have c3:=Hd (λw=>MH w)
 exact Us0
theorem A1.IG(h:A1 z l k w m x)(v:Int)(hs:m.status=0)(hst:x.R8=15)(m':Co)(x':WS)(hf:m.tick.kE x=some (m',x')):Cs 27 #[ptr (z.wq k),ptr z.c,v] w (.tuple #[]) λw'=>A1 z l k w' m' x':=by
 obtain⟨c1,cs,FS,F1⟩:=h.gm hs _ hst;have c2:=Hd (λw (h:A1 z l k w m.tick x)=>h.Bp m' x' hf);have c3:=Hd (λw=>MI w)
 exact Us0
theorem A1.II(h:A1 z l k w m x)(v:Int)(hs:m.status=0)(hst:x.R8=16)(m':Co)(x':WS)(hf:m.tick.rX x=some (m',x')):Cs 27 #[ptr (z.wq k),ptr z.c,v] w (.tuple #[]) λw'=>A1 z l k w' m' x':=by
 obtain⟨c1,cs,FS,F1⟩:=h.gm hs _ hst;have c2:=Hd (λw (h:A1 z l k w m.tick x)=>h.Jq m' x' hf);have c3:=Hd (λw=>MJ w)
 exact Us0
theorem A1.IJ(h:A1 z l k w m x)(v:Int)(hs:m.status=0)(hst:x.R8=17)(m':Co)(x':WS)(hf:m.tick.kF x=some (m',x')):Cs 27 #[ptr (z.wq k),ptr z.c,v] w (.tuple #[]) λw'=>A1 z l k w' m' x':=by
 obtain⟨c1,cs,FS,F1⟩:=h.gm hs _ hst;have c2:=Hd (λw (h:A1 z l k w m.tick x)=>h.Bq m' x' hf);have c3:=Hd (λw=>MN w)
 exact Us0
theorem A1.IK(h:A1 z l k w m x)(v:Int)(hs:m.status=0)(hst:x.R8=18)(m':Co)(x':WS)(hf:m.tick.gF x=some (m',x')):Cs 27 #[ptr (z.wq k),ptr z.c,v] w (.tuple #[]) λw'=>A1 z l k w' m' x':=by
 obtain⟨c1,cs,FS,F1⟩:=h.gm hs _ hst;have c2:=Hd (λw (h:A1 z l k w m.tick x)=>h.vB m' x' hf);have c3:=Hd (λw=>MO w)
 exact Us0
theorem A1.IM(h:A1 z l k w m x)(v:Int)(hs:m.status=0)(hst:x.R8=19)(m':Co)(x':WS)(hf:m.tick.r9 x=some (m',x')):Cs 27 #[ptr (z.wq k),ptr z.c,v] w (.tuple #[]) λw'=>A1 z l k w' m' x':=by
 obtain⟨c1,cs,FS,F1⟩:=h.gm hs _ hst;have c2:=Hd (λw (h:A1 z l k w m.tick x)=>h.Jt m' x' hf);have c3:=Hd (λw=>MQ w)
 exact Us0
theorem A1.IP(h:A1 z l k w m x)(v:Int)(hs:m.status=0)(hst:x.R8=20)(m':Co)(x':WS)(hf:m.tick.sj x=some (m',x')):Cs 27 #[ptr (z.wq k),ptr z.c,v] w (.tuple #[]) λw'=>A1 z l k w' m' x':=by
 obtain⟨c1,cs,FS,F1⟩:=h.gm hs _ hst;have c2:=Hd (λw (h:A1 z l k w m.tick x)=>h.Jv m' x' hf);have c3:=Hd (λw=>MR w)
 exact Us0
theorem A1.IQ(h:A1 z l k w m x)(v:Int)(hs:m.status=0)(hst:x.R8=21)(m':Co)(x':WS)(hf:m.tick.nA x=some (m',x')):Cs 27 #[ptr (z.wq k),ptr z.c,v] w (.tuple #[]) λw'=>A1 z l k w' m' x':=by
 obtain⟨c1,cs,FS,F1⟩:=h.gm hs _ hst;have c2:=Hd (λw (h:A1 z l k w m.tick x)=>h.DU m' x' hf);have c3:=Hd (λw=>MU w)
 exact Us0
theorem A1.IU(h:A1 z l k w m x)(v:Int)(hs:m.status=0)(hst:x.R8=22)(m':Co)(x':WS)(hf:m.tick.mZ x=some (m',x')):Cs 27 #[ptr (z.wq k),ptr z.c,v] w (.tuple #[]) λw'=>A1 z l k w' m' x':=by
 obtain⟨c1,cs,FS,F1⟩:=h.gm hs _ hst;have c2:=Hd (λw (h:A1 z l k w m.tick x)=>h.DN m' x' hf);have c3:=Hd (λw=>MV w)
 exact Us0
theorem A1.IV(h:A1 z l k w m x)(v:Int)(hs:m.status=0)(hst:x.R8=23)(m':Co)(x':WS)(hf:m.tick.si x=some (m',x')):Cs 27 #[ptr (z.wq k),ptr z.c,v] w (.tuple #[]) λw'=>A1 z l k w' m' x':=by
 obtain⟨c1,cs,FS,F1⟩:=h.gm hs _ hst;have c2:=Hd (λw (h:A1 z l k w m.tick x)=>h.Ju m' x' hf);have c3:=Hd (λw=>MW w)
 exact Us0
theorem A1.IW(h:A1 z l k w m x)(v:Int)(hs:m.status=0)(hst:x.R8=24)(m':Co)(x':WS)(hf:m.tick.ng x=some (m',x')):Cs 27 #[ptr (z.wq k),ptr z.c,v] w (.tuple #[]) λw'=>A1 z l k w' m' x':=by
 obtain⟨c1,cs,FS,F1⟩:=h.gm hs _ hst;have c2:=Hd (λw (h:A1 z l k w m.tick x)=>h.DR m' x' hf);have c3:=Hd (λw=>MX w)
 exact Us0
theorem A1.Ps(h:A1 z l k w m x)(v:Int)(hs:m.status=0)(m':Co)(x':WS)(hf:m.tick.acts x v=some (m',x')):Cs 27 #[ptr (z.wq k),ptr z.c,v] w (.tuple #[]) λw'=>A1 z l k w' m' x':=by
 unfold Co.acts at hf
 by_cases e0:x.R8=0
 ·rw[if_pos e0]at hf;exact h.zH v hs e0 m' x' hf
 rw[if_neg e0]at hf
 by_cases e1:x.R8=1
 ·rw[if_pos e1]at hf;exact h.LU v hs e1 m' x' hf
 rw[if_neg e1]at hf
 by_cases e2:x.R8=2
 ·rw[if_pos e2]at hf;exact h.LV v hs e2 m' x' hf
 rw[if_neg e2]at hf
 by_cases e3:x.R8=3
 ·rw[if_pos e3]at hf;exact h.LX v hs e3 m' x' hf
 rw[if_neg e3]at hf
 by_cases e4:x.R8=4
 ·rw[if_pos e4]at hf;exact h.LY v hs e4 m' x' hf
 rw[if_neg e4]at hf
 by_cases e5:x.R8=5
 ·rw[if_pos e5]at hf;exact h.L6 v hs e5 m' x' hf
 rw[if_neg e5]at hf
 by_cases e6:x.R8=6
 ·rw[if_pos e6]at hf;exact h.L8 v hs e6 m' x' hf
 rw[if_neg e6]at hf
 by_cases e7:x.R8=7
 ·rw[if_pos e7]at hf;exact h.L9 v hs e7 m' x' hf
 rw[if_neg e7]at hf
 by_cases e8:x.R8=8
 ·rw[if_pos e8]at hf;exact h.Ma v hs e8 m' x' hf
 rw[if_neg e8]at hf
 by_cases e9:x.R8=9
 ·rw[if_pos e9]at hf;exact h.Mc v hs e9 m' x' hf
 rw[if_neg e9]at hf
 by_cases e10:x.R8=10
 ·rw[if_pos e10]at hf;exact h.Iz v hs e10 m' x' hf
 rw[if_neg e10]at hf
 by_cases e11:x.R8=11
 ·rw[if_pos e11]at hf;exact h.IB v hs e11 m' x' hf
 rw[if_neg e11]at hf
 by_cases e12:x.R8=12
 ·rw[if_pos e12]at hf;exact h.IC v hs e12 m' x' hf
 rw[if_neg e12]at hf
 by_cases e14:x.R8=14
 ·rw[if_pos e14]at hf;exact h.IE v hs e14 m' x' hf
 rw[if_neg e14]at hf
 by_cases e15:x.R8=15
 ·rw[if_pos e15]at hf;exact h.IG v hs e15 m' x' hf
 rw[if_neg e15]at hf
 by_cases e16:x.R8=16
 ·rw[if_pos e16]at hf;exact h.II v hs e16 m' x' hf
 rw[if_neg e16]at hf
 by_cases e17:x.R8=17
 ·rw[if_pos e17]at hf;exact h.IJ v hs e17 m' x' hf
 rw[if_neg e17]at hf
 by_cases e18:x.R8=18
 ·rw[if_pos e18]at hf;exact h.IK v hs e18 m' x' hf
 rw[if_neg e18]at hf
 by_cases e19:x.R8=19
 ·rw[if_pos e19]at hf;exact h.IM v hs e19 m' x' hf
 rw[if_neg e19]at hf
 by_cases e20:x.R8=20
 ·rw[if_pos e20]at hf;exact h.IP v hs e20 m' x' hf
 rw[if_neg e20]at hf
 by_cases e21:x.R8=21
 ·rw[if_pos e21]at hf;exact h.IQ v hs e21 m' x' hf
 rw[if_neg e21]at hf
 by_cases e22:x.R8=22
 ·rw[if_pos e22]at hf;exact h.IU v hs e22 m' x' hf
 rw[if_neg e22]at hf
 by_cases e23:x.R8=23
 ·rw[if_pos e23]at hf;exact h.IV v hs e23 m' x' hf
 rw[if_neg e23]at hf
 by_cases e24:x.R8=24
 ·rw[if_pos e24]at hf;exact h.IW v hs e24 m' x' hf
 rw[if_neg e24]at hf
 cases hf
structure gK(z:Lay)(mq lb n cap:Nat)(cs:Array Value):Prop where
 mX:z.X mq=some (.cells #[ptr z.c,.slice (some ⟨lb,0,none⟩) n cap] 69 (0,0))
 lX:z.X lb=some (.cells cs 65 (0,0))
 row:∀k,k<n->cs[k]? =some (ptr (z.wq k))
 pos:0<n
 few:n<=64
theorem fM.X{z:Lay}{w:World}{M:MS}(R:fM z w M){b:Nat}{cs:Array Value}{t:TypeId}(h:z.X b=some (.cells cs t (0,0))):af w b cs t:=by
 obtain⟨bk,ov,gv,g,R⟩:=R
 exact(R.xt b _ h).1
theorem fM.a1{z:Lay}{w:World}{M:MS}(R:fM z w M)(k:Nat)(h:k<M.ws.length):A1 z M.ws k w M.co M.ws[k]:=⟨h,by rw[List.set_getElem_self];exact R⟩
def Lay.more(z:Lay)(b:Nat)(o:Obj):Lay:={z with X:=λq=>if q=b then some o else z.X q}
theorem fM.more{z:Lay}{w:World}{M:MS}(R:fM z w M)(o:Obj):fM (z.more w.heap.size o) (w.alloc o) M:=by
 obtain⟨bk,ov,gv,g,R⟩:=R;have kp:Kept None w (w.alloc o):=(Kept.refl _ _).alloc _;have hx:=λb (q:(z.y bk ov gv).has b)=>R.co.lt q;have hw:=λk (h:k<M.ws.length) b hb=>(R.oB k h b hb).2.1;refine⟨bk,ov,gv,g,R.co.ai (Ba _),λk h=>(R.wk k h).kept kp (Shut.ai (Ba _)) (λq=>q.elim) (λb _ q=>q.elim),R.yB,λk h b hb=>⟨(R.oB k h b hb).1,by have:=hw k h b hb;simp;omega,(R.oB k h b hb).2.2⟩,R.od,R.ai.alloc (by have:=R.yB z.c (Or.inl rfl);have:=hx z.c (Or.inl rfl);omega) _,λb o' hX=>?_⟩;unfold Lay.more at hX;dsimp only at hX
 split at hX
 ·rename_i e
  cases hX
  subst e;refine⟨?_,λq=>Nat.lt_irrefl _ (hx _ q),λk h q=>Nat.lt_irrefl _ (hw k h _ q)⟩
  show(w.heap.push _)[w.heap.size]? =_
  simp
 ·obtain⟨x1,x2,x3⟩:=R.xt b o' hX
  exact⟨(Below.heap_alloc w o b (Array.getElem?_eq_some_iff.1 x1).1).trans x1,x2,x3⟩
theorem fM.fewer{z:Lay}{w:World}{M:MS}{b:Nat}{o:Obj}(R:fM (z.more b o) w M)(hb:∀o',z.X b=some o'->o'=o):fM z w M:=by
 obtain⟨bk,ov,gv,g,R⟩:=R;refine⟨bk,ov,gv,g,R.co,R.wk,R.yB,R.oB,R.od,R.ai,λq o' hX=>R.xt q o' ?_⟩
 show(if q=b then some o else z.X q)=some o'
 split
 ·rename_i e;subst e;rw[hb o' hX]
 ·exact hX
theorem gK.more{z:Lay}{mq lb n cap b:Nat}{cs:Array Value}{o:Obj}(B:gK z mq lb n cap cs)(h1:mq≠b)(h2:lb≠b):gK (z.more b o) mq lb n cap cs:=
 ⟨(if_neg h1).trans B.mX,(if_neg h2).trans B.lX,B.row,B.pos,B.few⟩
def Co.over(m:Co):Bool:=m.status !=0||Decidable.decide (8388608<=m.st.steps)
def MS.pick(M:MS)(a:Int):Nat:=(max a 0%M.ws.length).toNat
def MS.step(M:MS)(a v:Int):Option MS:=
 if M.co.over=true then some M
 else match M.ws[M.pick a]? with
  |none=>none
  |some x=>match M.co.tick.acts x v with
   |none=>none
   |some (m',x')=>some ⟨m',M.ws.set (M.pick a) x'⟩
theorem kU{z:Lay}{w:World}{M:MS}(R:fM z w M)(mq lb cap:Nat)(cs:Array Value)(B:gK z mq lb M.ws.length cap cs):Cs 26 #[ptr mq] w (.bool M.co.over) λw'=>Below w.heap.size w w':=by
 obtain⟨l,x,H0⟩:∃l x,A1 z l 0 w M.co x:=⟨_,_,R.a1 0 B.pos⟩;have x0:=(R.X B.mX).c0;have lq:=(R.X B.mX).lt;have c1:=Hd H0.um;have c2:=Hd (λw (h:A1 z l 0 w M.co x)=>h.jQ);have FS:=Hd (λw (h:A1 z l 0 w M.co x)=>(h.iA 13 _ rfl:w.cell? ⟨z.c,13,none⟩=some ↑M.co.st.steps));have H1:=Hd H0;clear H0 R B;have H0:=H1;clear H1;unfold Co.over;generalize M.co.status=s at*
 by_cases hs:s=0
 ·subst hs
  go_enter func26,ntmps26
  go_wp2_with (first|(go_at_call 28;refine c1.o.q λw1 Sr=> ?_;have y0:=kb Sr lq x0;have H1:=H0.o.ai Sr;have y13:=FS.o _ H1)|(go_at_call 33;refine(c2.o _ H1).r ?_))
  go_ret
  exact⟨by simp,Sr⟩
 ·have n1:(s !=0)=true:=by simp[hs]
  rw[n1];go_enter func26,ntmps26
  go_wp2_with (first|(go_at_call 28;refine c1.o.q λw1 Sr=> ?_))
  go_ret
  exact⟨rfl,Sr⟩
theorem MS.pg(M:MS)(a:Int)(h:0<M.ws.length):(max a 0).tmod M.ws.length=(M.pick a:Int)/\M.pick a<M.ws.length:=by
 unfold MS.pick;rw[Int.tmod_eq_emod_of_nonneg U2];have q1:=Int.emod_nonneg (max a 0) (show(M.ws.length:Int)≠0 by omega);have q2:=Int.emod_lt_of_pos (max a 0) (show 0<(M.ws.length:Int)by omega)
 omega
theorem yG{z:Lay}{w:World}{M:MS}(R:fM z w M)(mq lb cap:Nat)(cs:Array Value)(B:gK z mq lb M.ws.length cap cs)(a v:Int)(ho:M.co.over=true):Cs 9 #[ptr mq,.agg #[a,v]] w (.bool true) λw'=>fM z w' M:=by
 have c1:=Hd (λw (R:fM z w M)=>kU R mq lb cap cs B);rw[ho]at c1;have R1:=R.mE (Ba (.cells #[a,v] 38));clear R B;go_enter func9,ntmps9
 go_wp2_with (first|(go_at_call 26;refine(c1.o _ R1).q λw1 Sr=> ?_;have R2:=R1.mE Sr))
 go_ret
 exact⟨rfl,R2⟩
theorem wB{z:Lay}{w:World}{M M':MS}(R:fM z w M)(mq lb cap:Nat)(cs:Array Value)(B:gK z mq lb M.ws.length cap cs)(a v:Int)(ho:M.co.over=false)(hf:M.step a v=some M'):Cs 9 #[ptr mq,.agg #[a,v]] w (.bool M'.co.over) λw'=>fM z w' M':=by
 obtain⟨e1,hK⟩:=M.pg a B.pos;have hz:z.X w.heap.size=none:=by
  cases e:z.X w.heap.size with
  |none=>rfl
  |some o=>obtain⟨bk,ov,gv,g,Q⟩:=R;exact absurd (Array.getElem?_eq_some_iff.1 (Q.xt _ _ e).1).1 (Nat.lt_irrefl _)
 have RZ:=R.more (.cells #[a,v] 38);have lm:mq≠w.heap.size:=Nat.ne_of_lt (R.X B.mX).lt;have ll:lb≠w.heap.size:=Nat.ne_of_lt (R.X B.lX).lt;have hbk:=λw' (M':MS) (R':fM (z.more w.heap.size (.cells #[a,v] 38)) w' M')=>R'.fewer (λo' q=>by rw[hz]at q;cases q);have BZ:=B.more (o:=.cells #[a,v] 38) lm ll;have zX:(z.more w.heap.size (.cells #[a,v] 38)).X w.heap.size=some (.cells #[a,v] 38 (0,0)):=if_pos rfl;have hwq:(z.more w.heap.size (.cells #[a,v] 38)).wq=z.wq:=rfl;have hzc:(z.more w.heap.size (.cells #[a,v] 38)).c=z.c:=rfl;unfold MS.step at hf;rw[if_neg (by rw[ho];decide)]at hf;have hget:M.ws[M.pick a]? =some (M.ws[M.pick a]'hK):=List.getElem?_eq_getElem hK;rw[hget]at hf;dsimp only at hf
 split at hf
 ·cases hf
 rename_i m' x' hact
 cases hf
 have hst:M.co.status=0:=by
  unfold Co.over at ho
  simp at ho
  exact ho.1
 clear R B lm ll hz hget;have HB:=Hd hbk;clear hbk;generalize z.more w.heap.size (.cells #[a,v] 38)=Z at*;have c1:=Hd (λw (R:fM Z w M)=>kU R mq lb cap cs BZ);rw[ho]at c1;have c2:=Hd (λw (R:fM Z w M)=>(R.a1 (M.pick a) hK).Ps v hst m' x' hact);have c3:=Hd (λw (R:fM Z w ⟨m',M.ws.set (M.pick a) x'⟩)=>kU R mq lb cap cs (by simpa using BZ));have FX:=Hd (λw M2 (R:fM Z w M2)=>(⟨(R.X BZ.mX).cell 0,(R.X BZ.mX).cell 1,(R.X zX).cell 0,(R.X zX).cell 1,((R.X BZ.lX).cell _).trans (BZ.row _ hK)⟩:w.cell? ⟨mq,0,none⟩=some (ptr Z.c)/\w.cell? ⟨mq,1,none⟩=some (.slice (some ⟨lb,0,none⟩) _ cap)/\w.cell? ⟨_,0,none⟩=some ↑a/\w.cell? ⟨_,1,none⟩=some ↑v/\w.cell? ⟨lb,M.pick a,none⟩=some (ptr (Z.wq (M.pick a)))));have em:(if a<0 then 0 else a)=max a 0:=by split<;>omega
 have hK0:(0:Int)<=(M.pick a:Int):=by omega
 have hK1:(M.pick a:Int)<(M.ws.length:Int):=by omega
 have hn0:¬(M.ws.length=0):=by have:=BZ.pos;omega
 clear zX hwq hzc hst ho BZ hact;generalize max a 0=U at*;generalize hKK:M.pick a=K at*;clear hKK;generalize M.ws.length=n at*;go_enter func9,ntmps9;go_upto_region 1 with fail;generalize w.alloc (.cells #[a,v] 38)=W at*;generalize w.heap.size=bx at*
 go_upto_region 3 with(go_at_call 26;refine(c1.o _ RZ).q λw1 Sr=> ?_)
 have R1:=RZ.mE Sr;have F1:=FX.out _ _ R1;clear RZ c1 Sr
 go_region_held3 (λw'=>w'.cell? ⟨mq,0,none⟩=some (ptr Z.c)/\w'.cell? ⟨mq,1,none⟩=some (.slice (some ⟨lb,0,none⟩) n cap)/\w'.cell? ⟨bx,0,none⟩=some ↑a/\w'.cell? ⟨bx,1,none⟩=some ↑v/\w'.cell? ⟨lb,K,none⟩=some (ptr (Z.wq K)))
  (first|exact F1|exact FX.out _ _ R1.drew'|exact F2)
  (first|(go_at_call 27;refine(c2.o _ (by first|exact R1|exact R1.drew')).q λw2 A2=> ?_;have F2:=FX.out _ _ A2.Qv))
 all_goals
  go_wp2_with (go_at_call 26;refine(c3.o _ A2.Qv).q λw3 hb3=> ?_)
  go_ret
  exact⟨rfl,HB.o _ _ (A2.Qv.mE hb3)⟩
end Go.Proofs.YteiignfflbmafaaGreat.Tp
namespace Go.Proofs.YteiignfflbmafaaGreat.Tp
open Go.Proofs.Tryz
def OQ:Pl:=⟨1,8,2,8⟩
def three:List (List Is):=[
 [⟨1,7,3,0⟩,⟨1,6,1,0⟩,⟨22,1,0,0⟩,⟨0,0,0,0⟩],
 [⟨19,7,6,0⟩,⟨4,7,7,6⟩,⟨3,5,5,6⟩,⟨23,6,0,0⟩,⟨17,5,0,0⟩,⟨0,0,0,0⟩,⟨25,0,0,0⟩]]
end Go.Proofs.YteiignfflbmafaaGreat.Tp
