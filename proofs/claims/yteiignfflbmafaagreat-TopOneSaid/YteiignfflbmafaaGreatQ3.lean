/- TopOne, part 3. -/
import Derived.Test.YteiignfflbmafaaGreatQ1
import Derived.WalkKit
import Derived.Test.YteiignfflbmafaaGreatRows
import Derived.Lib.SmallJoins
import Derived.OneCell
import Derived.Deep.DeepCutAuto
import Derived.Deep.RegionWith
import Derived.Deep.RegionHeld3
set_option linter.unusedVariables false
set_option linter.unusedSimpArgs false
set_option maxRecDepth 100000
set_option maxHeartbeats 8000000
namespace Go.Proofs.YteiignfflbmafaaGreat.Tok
def th(n:Int):Int:=min (max n 0) 1048575
def tw(n:Int):Int:=min (max n 0) 1152921504606846975
def aA(l i s:Int):Int:=th l*1099511627776+th i*1048576+th s
def wS(t:Int):Bool:=decide (1099511627776<=t/\t<=1152921504606846975)
def uQ(t:Int):Int:=tw t/1048576%1048576
def bZ(t:Int):Int:=tw t%1048576
def iK(t c:Int):Bool:=wS t&&decide (bZ t<c)
def Gc(t c:Int):Int:=if iK t c=true then uQ t else 0
theorem tV(n:Int):0<=th n/\th n<=1048575:=by unfold th;omega
theorem AY(n:Int):0<=tw n/\tw n<=1152921504606846975:=by unfold tw;omega
theorem ug(n:Int)(h0:0<=n)(h1:n<2^63):IntKind.i64.wrap n=n:=by rw[IntKind.wrap_i64];omega
theorem Qu(x y:Int)(h0:0<=x)(h1:x<=1099511627775)(y0:0<=y)(y1:y<=1048575):bits .or .i64 (x*1048576) y=x*1048576+y:=
 bits_join .i64 63 U0 ug 20 (x*1048576) y U2 U2 U2 y0 U2 U2
theorem Mi(x:Int)(h0:0<=x)(h1:x<2^63):bits .and .i64 x 1048575=x%1048576:=by
 have:=bits_mask .i64 63 U0 ug 20 U0 x h0 h1
 simpa using this
theorem OH(l i s:Int):bits .or .i64 (RowKit.wrap64 (bits .or .i64 (th l*1048576) (th i)*1048576)) (th s)=aA l i s:=by
 have b1:=tV l;have b2:=tV i;have b3:=tV s;rw[Qu (th l) (th i) U2 U2 U2 U2];rw[IntWalk.wrap64_in _ ⟨by omega,by omega⟩];rw[Qu (th l*1048576+th i) (th s) U2 U2 U2 U2];unfold aA;omega
theorem Fb(t:Int):bits .and .i64 (tw t/1048576) 1048575=uQ t:=by
 have b:=AY t;rw[Mi _ U2 U2];rfl
theorem CW(t:Int):bits .and .i64 (tw t) 1048575=bZ t:=by
 have b:=AY t;rw[Mi _ U2 U2];rfl
end Go.Proofs.YteiignfflbmafaaGreat.Tok
namespace Go.Proofs.YteiignfflbmafaaGreat.Tok
open Go.Proofs.Tryz
open Go.RowKit
theorem bE(n:Int)(w:World):
  Calls prog 306 #[n] w λe w'=>e=.returned (.int .i64 (th n))/\w=w':=by
 go_enter func306,ntmps306
 go_wp2
 all_goals(go_ret;exact⟨ret_int (by unfold th;omega),rfl⟩)
theorem tZ(n:Int)(w:World):
  Calls prog 294 #[n] w λe w'=>e=.returned (.int .i64 (tw n))/\w=w':=by
 go_enter func294,ntmps294
 go_wp2
 all_goals(go_ret;exact⟨ret_int (by unfold tw;omega),rfl⟩)
theorem yN(l i s:Int)(w:World):
  Calls prog 297 #[l,i,s] w λe w'=>e=.returned (.int .i64 (aA l i s))/\w=w':=by
 have b1:=tV l;have b2:=tV i;have b3:=tV s;go_enter func297,ntmps297
 go_wp2_with (go_at_call 306;refine(bE _ _).r ?_)
 go_ret
 exact⟨ret_int (OH l i s),rfl⟩
theorem Fa(t:Int)(w:World):
  Calls prog 296 #[t] w λe w'=>e=.returned (.int .i64 (uQ t))/\w=w':=by
 have b1:=AY t;go_enter func296,ntmps296
 go_wp2_with (go_at_call 294;refine(tZ _ _).r ?_)
 go_ret
 exact⟨ret_int (Fb t),rfl⟩
theorem tN(t:Int)(w:World):
  Calls prog 270 #[t] w λe w'=>e=.returned (.int .i64 (bZ t))/\w=w':=by
 have b1:=AY t;go_enter func270,ntmps270
 go_wp2_with (go_at_call 294;refine(tZ _ _).r ?_)
 go_ret
 exact⟨ret_int (CW t),rfl⟩
theorem Oc(t:Int)(w:World):
  Calls prog 295 #[t] w λe w'=>e=.returned (.bool (wS t))/\w=w':=by
 go_enter func295,ntmps295
 go_wp2
 all_goals(go_ret;exact⟨ret_bool (by unfold wS;simp;try omega),rfl⟩)
theorem Gd(t c:Int)(w:World):
  Calls prog 271 #[t,c] w λe w'=>e=.returned (.tuple #[.int .i64 (Gc t c),.bool (iK t c)])/\w=w':=by
 cases hi:wS t<;>by_cases hc:bZ t<c
 all_goals
  go_enter func271,ntmps271
  go_wp2_with (first|(go_at_call 295;refine(Oc _ _).r ?_)|(go_at_call 270;refine(tN _ _).r ?_)|(go_at_call 296;refine(Fa _ _).r ?_))
  go_ret2
  exact⟨by simp[Gc,iK,hi]<;>omega,rfl⟩
end Go.Proofs.YteiignfflbmafaaGreat.Tok
namespace Go.Proofs.YteiignfflbmafaaGreat
variable {p:Prop}
theorem U7(h:p:=by kernel_rfl):p:=h
theorem U39(h:p:=by simp[results,results143,go_sem]):p:=h
theorem U43(h:p:=by simp[results,results201,go_sem]):p:=h
theorem U87(h:p:=by simp[results,results25,go_sem]):p:=h
theorem U95(h:p:=by simp[results,results57,go_sem]):p:=h
theorem U117(h:p:=by (first|exact FM.out _ H2|exact FS.o _ H1|exact FS.o _ H1.drew|exact FS0.out _ H0.o.drew|exact FS0.out _ H0.o)):p:=h
theorem U118(h:p:=by (((try dsimp only);(try go_split_ands);(repeat' apply And.intro)<;>(repeat(first|(with_reducible assumption)|(with_reducible refine kc ?_)|(with_reducible refine kd ?_)|(refine kb U3 U6 ?_)|(refine kk U3 U6 U6 ?_)))))):p:=h
theorem U119(h:p:=by (first|exact FS.o _ HC|exact FS.o _ HC.drew|exact FM.out _ HC)):p:=h
theorem U120(h:p:=by have:=(Sq f).1 h;subst this;exact absurd (show(1:Int)=3 from a) U0):p:=h
theorem U121(h:p:=by ((try dsimp only);first|exact br|exact(World.rangeAt_drew _ _ _ _).2 br|exact(Kept.ob (S:=None) hb2).range lg (λq=>q) ((World.rangeAt_drew _ _ _ _).2 br)|exact(Kept.ob (S:=None) hb2).range lg (λq=>q) br)):p:=h
theorem U122(h:p:=by have:=(Sq f).1 h;subst this;exact absurd (show(1:Int)=2 from a) U0):p:=h
theorem U123(h:p:=by ((try dsimp only);first|exact br|exact(World.rangeAt_drew _ _ _ _).2 br|exact k2.range lg ns br|exact k2.range lg ns ((World.rangeAt_drew _ _ _ _).2 br))):p:=h
theorem U124(h:p:=by exact λr0 q=>by obtain⟨e1,u,hv,hn⟩:=h1 r0 q;exact⟨e1,u,K.blk hv (jL _ _ _ hv U0 U0),hn.shut sh⟩):p:=h
theorem U125(h:p:=by have:=F.ko;grind[Sd,aY.new,aY.hand]):p:=h
theorem U126(h:p:=by exact Or.inl (Or.inr (Or.inr (Or.inr (Or.inl ⟨q1,q2⟩))))):p:=h
theorem U127(h:p:=by exact λr0 q=>⟨(h5 r0 q).1,K.blk (h5 r0 q).2 (jL _ _ _ (h5 r0 q).2 U0 U0)⟩):p:=h
theorem U128(h:p:=by exact λr0 q=>⟨(h4 r0 q).1,K.blk (h4 r0 q).2 (jL _ _ _ (h4 r0 q).2 U0 U0)⟩):p:=h
theorem U129(h:p:=by exact λr0 q=>⟨(h3 r0 q).1,K.blk (h3 r0 q).2 (jL _ _ _ (h3 r0 q).2 U0 U0)⟩):p:=h
theorem U130(h:p:=by exact⟨a7.1,a7.2.1,by omega⟩):p:=h
theorem U131(h:p:=by exact iR ci (d:=f) U69 (z.trans e)):p:=h
theorem U132(h:p:=by exact Or.inl (Or.inr (Or.inr (Or.inr (Or.inr q))))):p:=h
theorem U133(h:p:=by subst q;exact⟨_,_,C.RY.ws,by decide,by decide⟩):p:=h
theorem U134(h:p:=by rw[if_neg e];simp[List.getD,List.getElem?_set_ne (λz=>e z.symm)]):p:=h
theorem U135(h:p:=by left;grind[Sd]):p:=h
theorem U136(h:p:=by exact Or.inl (Or.inr (Or.inr (Or.inl ⟨q1,q2⟩)))):p:=h
theorem U137(h:p:=by exact(R.oB k hk (g k).bt (Or.inr U36)).2.2 U74):p:=h
theorem U138(h:p:=by subst q;simp[Ly.has,Lay.y]):p:=h
theorem U139(h:p:=by exact Or.inr (Or.inr (Or.inr (Or.inr q)))):p:=h
theorem U140(h:p:=by rw[q]at z;cases z;exact h.B.size):p:=h
theorem U141(h:p:=by simp[Ly.has,Lay.y]at q⊢;simp[q]):p:=h
theorem U142(h:p:=by exact Or.inl (Or.inr (Or.inl ⟨q1,q2⟩))):p:=h
theorem U143(h:p:=by exact absurd (hcr u b).1 a):p:=h
theorem U144(h:p:=by rename_i e;rw[e]at p6;exact p6.elim):p:=h
theorem U145(h:p:=by exact Or.inr (Or.inr (Or.inr (Or.inl ⟨q1,q2⟩)))):p:=h
theorem U146(h:p:=by rw[eq]at hj hb;exact(I.fin j hj hb).snoc e):p:=h
theorem U147(h:p:=by left;subst q;simp[Ly.has,Lay.y]):p:=h
theorem U148(h:p:=by subst e;right;rw[Sb,q2];exact⟨Or.inr (Or.inr ⟨_,_,rfl⟩),Or.inl rfl⟩):p:=h
theorem U149(h:p:=by rw[e]at q;exact Or.inl q):p:=h
theorem U150(h:p:=by rw[e,Sb];rw[e]at b;exact iff_of_false U0 (λz=>(b.1 z).2 rfl)):p:=h
theorem U151(h:p:=by exact Or.inr (Or.inr (Or.inl ⟨q1,q2⟩))):p:=h
theorem U152(h:p:=by exact q.ne C.RY.ws e1 z1):p:=h
theorem U153(h:p:=by exact ny b' (Or.inr q)):p:=h
theorem U154(h:p:=by exact ny b' (Or.inl q)):p:=h
theorem U155(h:p:=by rw[eq];exact I.not j ((hf j).1 fj)):p:=h
theorem U156(h:p:=by (((try dsimp only);(try go_split_ands);(repeat' apply And.intro)<;>(repeat(first|(with_reducible assumption)|(with_reducible refine kc ?_)|(with_reducible refine kd ?_)|(refine ks U41 ?_)))))):p:=h
theorem U157(h:p:=by (((try dsimp only);(try go_split_ands);(repeat' apply And.intro)<;>(repeat(first|(with_reducible assumption)|(with_reducible refine kc ?_)|(with_reducible refine kd ?_)|(refine kb U3 U6 ?_)))))):p:=h
theorem U158(h:p:=by (((try dsimp only);(try go_split_ands);(repeat' apply And.intro)<;>(repeat(first|(with_reducible assumption)|(with_reducible refine kc ?_)|(with_reducible refine kd ?_)|(refine kb U3 U6 ?_)|(refine kk U3 U6 U6 ?_)))))):p:=h
theorem U159(h:p:=by (((try dsimp only);(try go_split_ands);(repeat' apply And.intro)<;>(repeat(first|(with_reducible assumption)|(with_reducible refine kc ?_)|(with_reducible refine kd ?_)|(refine kb U3 U6 ?_)|(refine kk U3 U6 U6 ?_)|(refine(World.cell?_setCell_other _ _ _ _ U8).trans ?_)))))):p:=h
theorem U160(h:p:=by (((try dsimp only);(try go_split_ands);(repeat' apply And.intro)<;>(repeat(first|(with_reducible assumption)|(with_reducible refine kc ?_)|(with_reducible refine kd ?_)|(refine kk U3 U6 U6 ?_)))))):p:=h
theorem U161(h:p:=by (((try dsimp only);(try go_split_ands);(repeat' apply And.intro)<;>(repeat(first|(with_reducible assumption)|(with_reducible refine kc ?_)|(with_reducible refine kd ?_)))))):p:=h
theorem U162(h:p:=by (((try dsimp only);(try go_split_ands);(repeat' apply And.intro)<;>(repeat(first|(with_reducible assumption)|(with_reducible refine kd ?_)|(refine kb U3 U6 ?_)))))):p:=h
end Go.Proofs.YteiignfflbmafaaGreat
namespace Go.Proofs.YteiignfflbmafaaGreat.Tp
open Go.Proofs.Tryz
open Go.RowKit
theorem Ba{w:World}(o:Obj):Below w.heap.size w (w.alloc o):=(Below.refl _ _).alloc (Nat.le_refl _) o
theorem nr{n:Nat}:n<=n:=Nat.le_refl _
abbrev nL:=@Nat.lt_of_lt_of_le
abbrev nT:=@Nat.le_trans
abbrev n0:=@Nat.zero_le
abbrev bL:=@World.block_lt_of_cell?
theorem oe{α β:Type}{a c:α}{b d:β}:(some (a,b)=some (c,d))=(a=c/\b=d):=by simp
theorem fD(fn:Fn)(first cap:Array Value)(w:World):(Instr.makeFunc fn first cap).run prog w=.ok (.func fn first cap) w:=rfl
theorem ru{w W:World}{o:Obj}(h:w.alloc o=W):Below w.heap.size w W:=h▸Ba o
theorem ry{w W:World}{o:Obj}{g:Nat}(h:w.alloc o=W)(k:w.heap.size=g):g<W.heap.size:=by rw[<-h,<-k];simp
abbrev Cs(f:FuncId)(a:Array Value)(w:World)(v:Value)(R:World->Prop):Prop:=Calls prog f a w λe w'=>e=.returned v/\R w'
theorem rA{w W:World}{g:Nat}{t:TypeId}{v0:Value}{l:List Value}(h:w.alloc (.cells (v0::l).toArray t)=W)(k:w.heap.size=g):W.cell? ⟨g,0,none⟩=some v0:=by rw[<-h];exact cell_new _ _ _ _ _ k.symm
theorem rC{w W:World}{g:Nat}{t:TypeId}{v0 v1:Value}{l:List Value}(h:w.alloc (.cells (v0::v1::l).toArray t)=W)(k:w.heap.size=g):W.cell? ⟨g,1,none⟩=some v1:=by rw[<-h];exact cell_new _ _ _ _ _ k.symm
theorem rD{w W:World}{g:Nat}{t:TypeId}{v0 v1 v2:Value}{l:List Value}(h:w.alloc (.cells (v0::v1::v2::l).toArray t)=W)(k:w.heap.size=g):W.cell? ⟨g,2,none⟩=some v2:=by rw[<-h];exact cell_new _ _ _ _ _ k.symm
theorem rE{w W:World}{g:Nat}{t:TypeId}{v0 v1 v2 v3:Value}{l:List Value}(h:w.alloc (.cells (v0::v1::v2::v3::l).toArray t)=W)(k:w.heap.size=g):W.cell? ⟨g,3,none⟩=some v3:=by rw[<-h];exact cell_new _ _ _ _ _ k.symm
theorem Kw{w W:World}{g:Nat}{t:TypeId}{v0 v1 v2 v3 v4:Value}{l:List Value}(h:w.alloc (.cells (v0::v1::v2::v3::v4::l).toArray t)=W)(k:w.heap.size=g):W.cell? ⟨g,4,none⟩=some v4:=by rw[<-h];exact cell_new _ _ _ _ _ k.symm
theorem Ky{w W:World}{g:Nat}{t:TypeId}{v0 v1 v2 v3 v4 v5:Value}{l:List Value}(h:w.alloc (.cells (v0::v1::v2::v3::v4::v5::l).toArray t)=W)(k:w.heap.size=g):W.cell? ⟨g,5,none⟩=some v5:=by rw[<-h];exact cell_new _ _ _ _ _ k.symm
theorem RX{w W:World}{g:Nat}{t:TypeId}{v0 v1 v2 v3 v4 v5 v6:Value}{l:List Value}(h:w.alloc (.cells (v0::v1::v2::v3::v4::v5::v6::l).toArray t)=W)(k:w.heap.size=g):W.cell? ⟨g,6,none⟩=some v6:=by rw[<-h];exact cell_new _ _ _ _ _ k.symm
def af(w:World)(b:Nat)(cs:Array Value)(t:TypeId):Prop:=w.heap[b]? =some (.cells cs t (0,0))
theorem af.lt{w:World}{b:Nat}{cs:Array Value}{t:TypeId}(h:af w b cs t):b<w.heap.size:=lt_of_block h
theorem af.cell{w:World}{b:Nat}{cs:Array Value}{t:TypeId}(h:af w b cs t)(j:Nat):w.cell? ⟨b,j,none⟩=cs[j]? :=cell_of_row w b j cs t (0,0) h
theorem af.c0 {w:World}{b:Nat}{t:TypeId}{v0:Value}{l:List Value}(h:af w b (v0::l).toArray t):w.cell? ⟨b,0,none⟩=some v0:=h.cell 0
theorem af.c1 {w:World}{b:Nat}{t:TypeId}{v0 v1:Value}{l:List Value}(h:af w b (v0::v1::l).toArray t):w.cell? ⟨b,1,none⟩=some v1:=h.cell 1
theorem af.c2 {w:World}{b:Nat}{t:TypeId}{v0 v1 v2:Value}{l:List Value}(h:af w b (v0::v1::v2::l).toArray t):w.cell? ⟨b,2,none⟩=some v2:=h.cell 2
theorem af.c3 {w:World}{b:Nat}{t:TypeId}{v0 v1 v2 v3:Value}{l:List Value}(h:af w b (v0::v1::v2::v3::l).toArray t):w.cell? ⟨b,3,none⟩=some v3:=h.cell 3
theorem af.c4 {w:World}{b:Nat}{t:TypeId}{v0 v1 v2 v3 v4:Value}{l:List Value}(h:af w b (v0::v1::v2::v3::v4::l).toArray t):w.cell? ⟨b,4,none⟩=some v4:=h.cell 4
theorem af.c5 {w:World}{b:Nat}{t:TypeId}{v0 v1 v2 v3 v4 v5:Value}{l:List Value}(h:af w b (v0::v1::v2::v3::v4::v5::l).toArray t):w.cell? ⟨b,5,none⟩=some v5:=h.cell 5
theorem af.c6 {w:World}{b:Nat}{t:TypeId}{v0 v1 v2 v3 v4 v5 v6:Value}{l:List Value}(h:af w b (v0::v1::v2::v3::v4::v5::v6::l).toArray t):w.cell? ⟨b,6,none⟩=some v6:=h.cell 6
theorem af.c7 {w:World}{b:Nat}{t:TypeId}{v0 v1 v2 v3 v4 v5 v6 v7:Value}{l:List Value}(h:af w b (v0::v1::v2::v3::v4::v5::v6::v7::l).toArray t):w.cell? ⟨b,7,none⟩=some v7:=h.cell 7
theorem af.c8 {w:World}{b:Nat}{t:TypeId}{v0 v1 v2 v3 v4 v5 v6 v7 v8:Value}{l:List Value}(h:af w b (v0::v1::v2::v3::v4::v5::v6::v7::v8::l).toArray t):w.cell? ⟨b,8,none⟩=some v8:=h.cell 8
theorem af.c9 {w:World}{b:Nat}{t:TypeId}{v0 v1 v2 v3 v4 v5 v6 v7 v8 v9:Value}{l:List Value}(h:af w b (v0::v1::v2::v3::v4::v5::v6::v7::v8::v9::l).toArray t):w.cell? ⟨b,9,none⟩=some v9:=h.cell 9
theorem af.c10 {w:World}{b:Nat}{t:TypeId}{v0 v1 v2 v3 v4 v5 v6 v7 v8 v9 v10:Value}{l:List Value}(h:af w b (v0::v1::v2::v3::v4::v5::v6::v7::v8::v9::v10::l).toArray t):w.cell? ⟨b,10,none⟩=some v10:=h.cell 10
theorem af.c11 {w:World}{b:Nat}{t:TypeId}{v0 v1 v2 v3 v4 v5 v6 v7 v8 v9 v10 v11:Value}{l:List Value}(h:af w b (v0::v1::v2::v3::v4::v5::v6::v7::v8::v9::v10::v11::l).toArray t):w.cell? ⟨b,11,none⟩=some v11:=h.cell 11
theorem af.c12 {w:World}{b:Nat}{t:TypeId}{v0 v1 v2 v3 v4 v5 v6 v7 v8 v9 v10 v11 v12:Value}{l:List Value}(h:af w b (v0::v1::v2::v3::v4::v5::v6::v7::v8::v9::v10::v11::v12::l).toArray t):w.cell? ⟨b,12,none⟩=some v12:=h.cell 12
theorem af.c13 {w:World}{b:Nat}{t:TypeId}{v0 v1 v2 v3 v4 v5 v6 v7 v8 v9 v10 v11 v12 v13:Value}{l:List Value}(h:af w b (v0::v1::v2::v3::v4::v5::v6::v7::v8::v9::v10::v11::v12::v13::l).toArray t):w.cell? ⟨b,13,none⟩=some v13:=h.cell 13
theorem af.c14 {w:World}{b:Nat}{t:TypeId}{v0 v1 v2 v3 v4 v5 v6 v7 v8 v9 v10 v11 v12 v13 v14:Value}{l:List Value}(h:af w b (v0::v1::v2::v3::v4::v5::v6::v7::v8::v9::v10::v11::v12::v13::v14::l).toArray t):w.cell? ⟨b,14,none⟩=some v14:=h.cell 14
theorem af.c15 {w:World}{b:Nat}{t:TypeId}{v0 v1 v2 v3 v4 v5 v6 v7 v8 v9 v10 v11 v12 v13 v14 v15:Value}{l:List Value}(h:af w b (v0::v1::v2::v3::v4::v5::v6::v7::v8::v9::v10::v11::v12::v13::v14::v15::l).toArray t):w.cell? ⟨b,15,none⟩=some v15:=h.cell 15
theorem af.c16 {w:World}{b:Nat}{t:TypeId}{v0 v1 v2 v3 v4 v5 v6 v7 v8 v9 v10 v11 v12 v13 v14 v15 v16:Value}{l:List Value}(h:af w b (v0::v1::v2::v3::v4::v5::v6::v7::v8::v9::v10::v11::v12::v13::v14::v15::v16::l).toArray t):w.cell? ⟨b,16,none⟩=some v16:=h.cell 16
theorem af.c17 {w:World}{b:Nat}{t:TypeId}{v0 v1 v2 v3 v4 v5 v6 v7 v8 v9 v10 v11 v12 v13 v14 v15 v16 v17:Value}{l:List Value}(h:af w b (v0::v1::v2::v3::v4::v5::v6::v7::v8::v9::v10::v11::v12::v13::v14::v15::v16::v17::l).toArray t):w.cell? ⟨b,17,none⟩=some v17:=h.cell 17
theorem af.fz{w:World}{b:Nat}{cs:Array Value}{t:TypeId}(h:af w b cs t)(j:Nat):w.frozen? ⟨b,j,none⟩=false:=by
 unfold af at h;simp[World.frozen?,h]
theorem af.set{w:World}{b:Nat}{cs:Array Value}{t:TypeId}(h:af w b cs t)(i:Nat)(v:Value):af (w.setCell ⟨b,i,none⟩ v) b (cs.setIfInBounds i v) t:=Joins.block_setCell h v
theorem af.far{w:World}{b:Nat}{cs:Array Value}{t:TypeId}(h:af w b cs t){a:Addr}(ha:b≠a.block)(v:Value):af (w.setCell a v) b cs t:=(Below.heap_setCell w a v b ha).trans h
theorem af.alloc{w:World}{b:Nat}{cs:Array Value}{t:TypeId}(h:af w b cs t)(o:Obj):af (w.alloc o) b cs t:=(Below.heap_alloc w o b h.lt).trans h
theorem af.drew{w:World}{b:Nat}{cs:Array Value}{t:TypeId}(h:af w b cs t):af w.drew b cs t:=h
theorem af.drewN{w:World}{b:Nat}{cs:Array Value}{t:TypeId}(h:af w b cs t)(n:Nat):af (w.drewN n) b cs t:=h
theorem af.new(w:World)(cs:Array Value)(t:TypeId)(b:Nat)(hb:b=w.heap.size):af (w.alloc (.cells cs t)) b cs t:=by
 subst hb
 show(w.heap.push _)[w.heap.size]? =_
 simp
theorem af.below{w w':World}{b B:Nat}{cs:Array Value}{t:TypeId}(h:af w b cs t)(hb:Below B w w')(hl:b<B):af w' b cs t:=(hb.block b hl).trans h
theorem af.inj{w:World}{b:Nat}{cs cs':Array Value}{t t':TypeId}(h:af w b cs t)(h':af w b cs' t'):cs=cs':=by
 unfold af at h h';rw[h]at h'
 simp at h'
 exact h'.1
structure Kept(S:Nat->Prop)(w w':World):Prop where
 os:w'.os=w.os
 tape:w'.tape=w.tape
 output:w'.output=w.output
 size:w.heap.size<=w'.heap.size
 block:∀k,k<w.heap.size->¬S k->w'.heap[k]? =w.heap[k]?
def None:Nat->Prop:=λ_=>False
def One(b:Nat):Nat->Prop:=λk=>k=b
theorem Kept.refl(S:Nat->Prop)(w:World):Kept S w w:=⟨rfl,rfl,rfl,Nat.le_refl _,λ_ _ _=>rfl⟩
theorem Kept.trans{S:Nat->Prop}{a b c:World}(h:Kept S a b)(k:Kept S b c):Kept S a c:=
 ⟨k.os.trans h.os,k.tape.trans h.tape,k.output.trans h.output,nT h.size k.size,λi hi hs=>(k.block i (nL hi h.size) hs).trans (h.block i hi hs)⟩
theorem Kept.mono{S S':Nat->Prop}{w w':World}(h:Kept S w w')(hs:∀k,S k->S' k):Kept S' w w':=
 ⟨h.os,h.tape,h.output,h.size,λk hk hn=>h.block k hk (λq=>hn (hs k q))⟩
theorem Kept.blk{S:Nat->Prop}{w w':World}{b:Nat}{cs:Array Value}{t:TypeId}(h:Kept S w w')(hb:af w b cs t)(hs:¬S b):af w' b cs t:=(h.block b hb.lt hs).trans hb
theorem Kept.ob{S:Nat->Prop}{w w':World}(h:Below w.heap.size w w'):Kept S w w':=⟨h.os,h.tape,h.output,h.size,λk hk _=>h.block k hk⟩
theorem Kept.below{B:Nat}{S:Nat->Prop}{w w':World}(h:Kept S w w')(hs:∀k,S k->B<=k)(hB:B<=w.heap.size):Below B w w':=
 ⟨h.os,h.tape,h.output,h.size,λk hk=>h.block k (nL hk hB) (λq=>absurd (hs k q) U2)⟩
theorem Kept.alloc{S:Nat->Prop}{a w:World}(h:Kept S a w)(o:Obj):Kept S a (w.alloc o):=
 h.trans (Kept.ob (Ba o))
theorem Kept.drew{S:Nat->Prop}{a w:World}(h:Kept S a w):Kept S a w.drew:=h.trans ⟨rfl,rfl,rfl,Nat.le_refl _,λ_ _ _=>rfl⟩
theorem Kept.drewN{S:Nat->Prop}{a w:World}(h:Kept S a w)(n:Nat):Kept S a (w.drewN n):=h.trans ⟨rfl,rfl,rfl,Nat.le_refl _,λ_ _ _=>rfl⟩
theorem Kept.set{S:Nat->Prop}{a w:World}(h:Kept S a w){p:Addr}(hp:S p.block∨a.heap.size<=p.block)(v:Value):Kept S a (w.setCell p v):=
 ⟨h.os,h.tape,h.output,by simpa using h.size,λk hk hn=>(Below.heap_setCell w p v k (λe=>by subst e;rcases hp with hp|hp;exact hn hp;omega)).trans (h.block k hk hn)⟩
theorem Kept.one(w:World)(d k:Nat)(v:Value):Kept (One d) w (w.setCell ⟨d,k,none⟩ v):=(Kept.refl (One d) w).set (p:=⟨d,k,none⟩) (Or.inl rfl) v
def ints(L:List Int):Array Value:=(L.map (Value.int .i64)).toArray
theorem jZ(L:List Int)(j:Nat)(hj:j<L.length):(ints L)[j]? =some (.int .i64 (L.getD j 0)):=by
 simp[ints,List.getD,hj]
theorem ints_set(L:List Int)(j:Nat)(v:Int):(ints L).setIfInBounds j ↑v=ints (L.set j v):=by
 simp[ints,List.map_set]
end Go.Proofs.YteiignfflbmafaaGreat.Tp
namespace Go.Proofs.YteiignfflbmafaaGreat.Tp
open Go.Proofs.Tryz
open Go.RowKit
theorem Us18 {p:Prop} (h:p:=by
 go_region_held3 (λw'=>w'.cell? ⟨g,0,none⟩=some ↑a/\w'.cell? ⟨g,1,none⟩=some ↑b/\w'.cell? ⟨g,2,none⟩=some ↑c/\w'.cell? ⟨g,3,none⟩=some ↑d)
  (exact U156)
  (first|(go_at_call_of 67 (Value.int IntKind.i64 a);refine(c1.o _).r ?_)|(go_at_call_of 67 (Value.int IntKind.i64 b);refine(c2.o _).r ?_)|(go_at_call_of 67 (Value.int IntKind.i64 c);refine(c3.o _).r ?_)|(go_at_call_of 67 (Value.int IntKind.i64 d);refine(c4.o _).r ?_))
 all_goals(go_wp2_with fail;go_meet)
 all_goals exact⟨W.heap.size,rfl,(af.new _ _ _ _ rfl).drew,(Ba _).drew⟩):p:=h
structure Pl where
 wk:Int
 fr:Int
 th:Int
 dq:Int
def Pl.ok(p:Pl):Prop:=(1<=p.wk/\p.wk<=64)/\(1<=p.fr/\p.fr<=256)/\(1<=p.th/\p.th<=64)/\(2<=p.dq/\p.dq<=256)
def jc(n a b:Int):Int:=min (max n a) b
def Pl.wide(p:Pl):Int:=4+p.dq
def Pl.room(p:Pl):Int:=2+4*(p.th+1)
def Pl.size(p:Pl):Int:=p.wk*p.wide+p.fr*p.room
def Pl.base(p:Pl)(w:Int):Int:=jc w 0 (p.wk-1)*p.wide
def Pl.slot(p:Pl)(w n:Int):Int:=p.base w+4+max n 0%p.dq
def Pl.frame(p:Pl)(id:Int):Int:=p.wk*p.wide+(jc id 1 p.fr-1)*p.room
def Pl.word(p:Pl)(id iter n:Int):Int:=p.frame id+2+4*(max iter 0%(p.th+1))+n
theorem bK(n a b:Int)(w:World):
  Cs 67 #[n,a,b] w (.int .i64 (jc n a b)) λw'=>w=w':=by
 go_enter func67,ntmps67
 go_wp2
 all_goals(go_ret;exact⟨ret_int (by unfold jc;omega),rfl⟩)
theorem mF{n a b:Int}(h:a<=n/\n<=b):jc n a b=n:=by unfold jc;omega
theorem tu(p:Pl)(h:p.ok)(w:World):
  Cs 43 #[.agg #[p.wk,p.fr,p.th,p.dq]] w (.int .i64 0) λw'=>Below w.heap.size w w':=by
 obtain⟨a,b,c,d⟩:=p;have c1:=Hd (λw=>bK a 1 64 w);have c2:=Hd (λw=>bK b 1 256 w);have c3:=Hd (λw=>bK c 1 64 w);have c4:=Hd (λw=>bK d 2 256 w);rw[mF h.1]at c1;rw[mF h.2.1]at c2;rw[mF h.2.2.1]at c3;rw[mF h.2.2.2]at c4;clear h;dsimp only;go_enter func43,ntmps43;go_upto_region 1 with fail;generalize hW:w.alloc (.cells #[a,b,c,d] 89)=W;generalize hg:w.heap.size=g;have x0:=rA hW hg;have x1:=rC hW hg;have x2:=rD hW hg;have x3:=rE hW hg;have l0:=ry hW hg;have BW:=ru hW;clear hW hg
 go_cut [3] (λs3 wx=>∃q,s3=.pointer (some ⟨q,0,none⟩)/\af wx q #[a,b,c,d] 89 /\Below W.heap.size W wx)
 case first=>
  exact Us18
 case rest=>
  obtain⟨q,rfl,hq,hb⟩:=hcut;have y0:=kb hb l0 x0;have y1:=kb hb l0 x1;have y2:=kb hb l0 x2;have y3:=kb hb l0 x3;have z0:=hq.c0;have z1:=hq.c1;have z2:=hq.c2;have z3:=hq.c3;have BE:=BW.trans (hb.mono BW.size);go_wp2_with fail
  go_ret
  exact⟨rfl,BE⟩
theorem gM(p:Pl)(h:p.ok)(w:World):
  Cs 122 #[.agg #[p.wk,p.fr,p.th,p.dq]] w (.bool false) λw'=>Below w.heap.size w w':=by
 have c1:=Hd (λw=>tu p h w);obtain⟨a,b,c,d⟩:=p;clear h;dsimp only at*;go_enter func122,ntmps122
 go_wp2_with (go_at_call 43;refine(c1.o _).q λw1 Sr=> ?_)
 go_ret
 exact⟨rfl,(Ba _).trans (Sr.mono U8)⟩
theorem uX(p:Pl)(h:p.ok)(w:World):
  Cs 123 #[.agg #[p.wk,p.fr,p.th,p.dq]] w ↑p.wide λw'=>Below w.heap.size w w':=by
 have e1:wrap64 (4+p.dq)=p.wide:=by unfold Pl.ok at h;unfold wrap64 Pl.wide;omega
 obtain⟨a,b,c,d⟩:=p;clear h;dsimp only at*;generalize Pl.wide _=v at*;go_enter func123,ntmps123;go_wp2_with fail
 go_ret
 exact⟨ret_int e1,Ba _⟩
theorem uL(p:Pl)(h:p.ok)(w:World):
  Cs 124 #[.agg #[p.wk,p.fr,p.th,p.dq]] w ↑p.room λw'=>Below w.heap.size w w':=by
 have c1:=Hd (λw=>gM p h w);have e1:wrap64 (p.th+1)=p.th+1:=by unfold Pl.ok at h;unfold wrap64;omega
 have e2:wrap64 (4*(p.th+1))=4*(p.th+1):=by unfold Pl.ok at h;unfold wrap64;omega
 have e3:wrap64 (2+4*(p.th+1))=p.room:=by unfold Pl.ok at h;unfold wrap64 Pl.room;omega
 obtain⟨a,b,c,d⟩:=p;clear h;dsimp only at*;generalize Pl.room _=v at*;go_enter func124,ntmps124;go_upto_region 1 with fail;generalize hW:w.alloc (.cells #[a,b,c,d] 89)=W;generalize hg:w.heap.size=g;have x0:=rA hW hg;have x1:=rC hW hg;have x2:=rD hW hg;have x3:=rE hW hg;have l0:=ry hW hg;have BW:=ru hW;clear hW hg
 go_wp2_with (go_at_call 122;refine(c1.o _).q λw1 Sr=> ?_;replace x2:=kb Sr l0 x2)
 go_ret
 exact⟨ret_int e3,BW.trans (Sr.mono BW.size)⟩
theorem jo{x y X Y:Int}(hx:0<=x/\x<=X)(hy:0<=y/\y<=Y):0<=x*y/\x*y<=X*Y:=
 ⟨Int.mul_nonneg hx.1 hy.1,Int.mul_le_mul hx.2 hy.2 hy.1 (Int.le_trans hx.1 hx.2)⟩
theorem jB(p:Pl)(h:p.ok):0<=p.wide/\p.wide<=260:=by unfold Pl.ok at h;unfold Pl.wide;omega
theorem gB(p:Pl)(h:p.ok):0<=p.room/\p.room<=262:=by unfold Pl.ok at h;unfold Pl.room;omega
theorem wr(n:Int)(h:0<=n/\n<=1000000):wrap64 n=n:=by unfold wrap64;omega
theorem rU(n:Int)(h:0<=n/\n<=1000000):IntKind.i64.wrap n=n:=by rw[IntKind.wrap_i64];omega
theorem lJ(n a b:Int)(h:a<=b):a<=jc n a b/\jc n a b<=b:=by unfold jc;omega
theorem iw(p:Pl)(h:p.ok)(k:Int):0<=p.base k/\p.base k<=63*260:=by
 have h1:=lJ k 0 (p.wk-1) U25
 exact jo ⟨h1.1,by unfold Pl.ok at h;omega⟩ (jB p h)
theorem iU(p:Pl)(h:p.ok)(id:Int):0<=p.frame id/\p.frame id<=64*260+255*262:=by
 have h1:=lJ id 1 p.fr U25;have h2:=jo (x:=p.wk) (X:=64) U25 (jB p h);have h3:=jo (x:=jc id 1 p.fr-1) (X:=255) U25 (gB p h);unfold Pl.frame
 omega
theorem KX(p:Pl)(h:p.ok)(w:World):
  Cs 80 #[.agg #[p.wk,p.fr,p.th,p.dq]] w (.int .i64 (p.size)) λw'=>Below w.heap.size w w':=by
 have cb:=Hd (λw=>gM p h w);have cw:=Hd (λw=>uX p h w);have cr:=Hd (λw=>uL p h w);have q1:=jo (x:=p.wk) (X:=64) U25 (jB p h);have q2:=jo (x:=p.fr) (X:=256) U25 (gB p h);have e1:IntKind.i64.wrap (p.wk*p.wide)=p.wk*p.wide:=rU _ U2;have e2:IntKind.i64.wrap (p.fr*p.room)=p.fr*p.room:=rU _ U2;have e3:IntKind.i64.wrap (p.wk*p.wide+p.fr*p.room)=p.size:=rU _ U2;clear q1 q2;generalize p.size=Z at*;generalize p.wide=wd at*;generalize p.room=rm at*;obtain⟨a,b,c,d⟩:=p;clear h;dsimp only at*;go_enter func80,ntmps80;go_upto_region 1 with fail;generalize hW:w.alloc (.cells #[a,b,c,d] 89)=W;generalize hg:w.heap.size=g;have x0:=rA hW hg;have x1:=rC hW hg;have x2:=rD hW hg;have x3:=rE hW hg;have l0:=ry hW hg;have BW:=ru hW;clear hW hg
 go_upto_region 3 with(go_at_call 122;refine(cb.o _).q λw1 Sr=> ?_;replace x0:=kb Sr l0 x0;replace x1:=kb Sr l0 x1;replace x2:=kb Sr l0 x2;replace x3:=kb Sr l0 x3;replace l0:=nL l0 Sr.size;replace BW:=BW.trans (Sr.mono BW.size))
 go_region_held3 (λw'=>w'.cell? ⟨g,0,none⟩=some ↑a/\w'.cell? ⟨g,1,none⟩=some ↑b/\w'.cell? ⟨g,2,none⟩=some ↑c/\w'.cell? ⟨g,3,none⟩=some ↑d)
  (exact U157)
  (first|(go_at_call 123;refine(cw.o _).mono ?_;rintro e v0 ⟨rfl,hv0⟩;have m0:=nL l0 hv0.size)|(go_at_call 124;refine(cr.out _).mono ?_;rintro e v1 ⟨rfl,hv1⟩;have m1:=nL U6 hv1.size))
 all_goals
  have B0:Below w.heap.size w v0:=by first|exact BW.trans (hv0.mono BW.size)|exact BW.drew.trans (hv0.mono BW.size)|exact BW.drew.drew.trans (hv0.mono BW.size)
  have B1:Below w.heap.size w v1:=by first|exact B0.trans (hv1.mono B0.size)|exact B0.drew.trans (hv1.mono B0.size)|exact B0.drew.drew.trans (hv1.mono B0.size)
  go_wp2_with fail
  go_ret
  exact⟨ret_int (by simp only[e1,e2,e3]),by first|exact B1|exact B1.drew⟩
theorem kK(p:Pl)(h:p.ok)(k:Int)(w:World):
  Cs 161 #[.agg #[p.wk,p.fr,p.th,p.dq],k] w (.int .i64 (p.base k)) λw'=>Below w.heap.size w w':=by
 have cb:=Hd (λw=>gM p h w);have cw:=Hd (λw=>uX p h w);have ck:=Hd (λw=>bK k 0 (p.wk-1) w);have e1:IntKind.i64.wrap (p.wk-1)=p.wk-1:=rU _ U25;have e2:IntKind.i64.wrap (jc k 0 (p.wk-1)*p.wide)=p.base k:=rU _ (by have:=iw p h k;unfold Pl.base at this;omega);generalize p.base k=Z at*;generalize p.wide=wd at*;generalize jc k 0 (p.wk-1)=bk at*;obtain⟨a,b,c,d⟩:=p;clear h;dsimp only at*;go_enter func161,ntmps161;go_upto_region 1 with fail;generalize hW:w.alloc (.cells #[a,b,c,d] 89)=W;generalize hg:w.heap.size=g;have x0:=rA hW hg;have x1:=rC hW hg;have x2:=rD hW hg;have x3:=rE hW hg;have l0:=ry hW hg;have BW:=ru hW;clear hW hg
 go_upto_region 3 with(go_at_call 122;refine(cb.o _).q λw1 Sr=> ?_;replace x0:=kb Sr l0 x0;replace x1:=kb Sr l0 x1;replace x2:=kb Sr l0 x2;replace x3:=kb Sr l0 x3;replace l0:=nL l0 Sr.size;replace BW:=BW.trans (Sr.mono BW.size))
 go_region_held3 (λw'=>w'.cell? ⟨g,0,none⟩=some ↑a/\w'.cell? ⟨g,1,none⟩=some ↑b/\w'.cell? ⟨g,2,none⟩=some ↑c/\w'.cell? ⟨g,3,none⟩=some ↑d)
  (exact U157)
  (first|(go_at_call 123;refine(cw.o _).mono ?_;rintro e v0 ⟨rfl,hv0⟩;have m0:=nL l0 hv0.size)|(go_at_call 67;refine(ck.o _).mono ?_;rintro e v1 ⟨rfl,rfl⟩))
 all_goals
  have B0:Below w.heap.size w v0:=by first|exact BW.trans (hv0.mono BW.size)|exact BW.drew.trans (hv0.mono BW.size)|exact BW.drew.drew.trans (hv0.mono BW.size)
  go_wp2_with fail
  go_ret
  exact⟨ret_int (by simp only[e1,e2]),by first|exact B0|exact B0.drew⟩
theorem mJ(p:Pl)(h:p.ok)(id:Int)(w:World):
  Cs 129 #[.agg #[p.wk,p.fr,p.th,p.dq],id] w (.int .i64 (p.frame id)) λw'=>Below w.heap.size w w':=by
 have cb:=Hd (λw=>gM p h w);have cw:=Hd (λw=>uX p h w);have cr:=Hd (λw=>uL p h w);have ck:=Hd (λw=>bK id 1 p.fr w);have q0:=lJ id 1 p.fr U25;have q1:=jo (x:=p.wk) (X:=64) U25 (jB p h);have q2:=jo (x:=jc id 1 p.fr-1) (X:=255) U25 (gB p h);have e1:IntKind.i64.wrap (p.wk*p.wide)=p.wk*p.wide:=rU _ U2;have e2:IntKind.i64.wrap (jc id 1 p.fr-1)=jc id 1 p.fr-1:=rU _ U25;have e3:IntKind.i64.wrap ((jc id 1 p.fr-1)*p.room)=(jc id 1 p.fr-1)*p.room:=rU _ U2;have e4:IntKind.i64.wrap (p.wk*p.wide+(jc id 1 p.fr-1)*p.room)=p.frame id:=rU _ U2;clear q0 q1 q2;generalize p.frame id=Z at*;generalize p.wide=wd at*;generalize p.room=rm at*;generalize jc id 1 p.fr=bk at*;obtain⟨a,b,c,d⟩:=p;clear h;dsimp only at*;go_enter func129,ntmps129;go_upto_region 1 with fail;generalize hW:w.alloc (.cells #[a,b,c,d] 89)=W;generalize hg:w.heap.size=g;have x0:=rA hW hg;have x1:=rC hW hg;have x2:=rD hW hg;have x3:=rE hW hg;have l0:=ry hW hg;have BW:=ru hW;clear hW hg
 go_upto_region 3 with(go_at_call 122;refine(cb.o _).q λw1 Sr=> ?_;replace x0:=kb Sr l0 x0;replace x1:=kb Sr l0 x1;replace x2:=kb Sr l0 x2;replace x3:=kb Sr l0 x3;replace l0:=nL l0 Sr.size;replace BW:=BW.trans (Sr.mono BW.size))
 go_region_held3 (λw'=>w'.cell? ⟨g,0,none⟩=some ↑a/\w'.cell? ⟨g,1,none⟩=some ↑b/\w'.cell? ⟨g,2,none⟩=some ↑c/\w'.cell? ⟨g,3,none⟩=some ↑d)
  (exact U157)
  (first|(go_at_call 123;refine(cw.o _).mono ?_;rintro e v0 ⟨rfl,hv0⟩;have m0:=nL l0 hv0.size)|(go_at_call 67;refine(ck.o _).mono ?_;rintro e v1 ⟨rfl,rfl⟩)|(go_at_call 124;refine(cr.out _).mono ?_;rintro e v2 ⟨rfl,hv2⟩;have m2:=nL U6 hv2.size))
 all_goals
  have B0:Below w.heap.size w v0:=by first|exact BW.trans (hv0.mono BW.size)|exact BW.drew.trans (hv0.mono BW.size)|exact BW.drew.drew.trans (hv0.mono BW.size)
  have B2:Below w.heap.size w v2:=by first|exact B0.trans (hv2.mono B0.size)|exact B0.drew.trans (hv2.mono B0.size)|exact B0.drew.drew.trans (hv2.mono B0.size)
  go_wp2_with fail
  go_ret
  exact⟨ret_int (by simp only[e1,e2,e3,e4]),by first|exact B2|exact B2.drew⟩
theorem K8(p:Pl)(h:p.ok)(k:Int)(n:Nat)(w:World):
  Cs 300 #[.agg #[p.wk,p.fr,p.th,p.dq],k,n] w (.int .i64 (p.slot k n)) λw'=>Below w.heap.size w w':=by
 have cb:=Hd (λw=>gM p h w);have cs:=Hd (λw=>kK p h k w);have q1:=iw p h k;have hmx:max (n:Int) 0=(n:Int):=by omega
 have hn0:(0:Int)<=(n:Int):=by omega
 have q2:=Int.emod_nonneg (n:Int) (show p.dq≠0 by unfold Pl.ok at h;omega);have q3:=Int.emod_lt_of_pos (n:Int) (show 0<p.dq by unfold Pl.ok at h;omega);have q4:p.dq<=256:=by unfold Pl.ok at h;omega
 have nz:(p.dq==0)=false:=by simp;unfold Pl.ok at h;omega
 have nz2:¬p.dq=0:=by unfold Pl.ok at h;omega
 have e1:IntKind.i64.wrap (p.base k+4)=p.base k+4:=rU _ U2;have e2:Int.tmod (n:Int) p.dq=(n:Int)%p.dq:=Int.tmod_eq_emod_of_nonneg U2;have e3:IntKind.i64.wrap ((n:Int)%p.dq)=(n:Int)%p.dq:=rU _ U2;have e4:IntKind.i64.wrap (p.base k+4+(n:Int)%p.dq)=p.slot k n:=by unfold Pl.slot;rw[hmx];exact rU _ U2
 clear q1 q2 q3 q4;generalize p.slot k n=Z at*;generalize p.base k=bs at*;obtain⟨a,b,c,d⟩:=p;clear h;dsimp only at*;go_enter func300,ntmps300;go_upto_region 1 with fail;generalize hW:w.alloc (.cells #[a,b,c,d] 89)=W;generalize hg:w.heap.size=g;have x0:=rA hW hg;have x1:=rC hW hg;have x2:=rD hW hg;have x3:=rE hW hg;have l0:=ry hW hg;have BW:=ru hW;clear hW hg
 go_upto_region 3 with(go_at_call 122;refine(cb.o _).q λw1 Sr=> ?_;replace x0:=kb Sr l0 x0;replace x1:=kb Sr l0 x1;replace x2:=kb Sr l0 x2;replace x3:=kb Sr l0 x3;replace l0:=nL l0 Sr.size;replace BW:=BW.trans (Sr.mono BW.size))
 go_region_held3 (λw'=>w'.cell? ⟨g,0,none⟩=some ↑a/\w'.cell? ⟨g,1,none⟩=some ↑b/\w'.cell? ⟨g,2,none⟩=some ↑c/\w'.cell? ⟨g,3,none⟩=some ↑d)
  (exact U157)
  (first|(go_at_call 161;refine(cs.o _).mono ?_;rintro e v0 ⟨rfl,hv0⟩;have m0:=nL l0 hv0.size))
 all_goals
  have B0:Below w.heap.size w v0:=by first|exact BW.trans (hv0.mono BW.size)|exact BW.drew.trans (hv0.mono BW.size)|exact BW.drew.drew.trans (hv0.mono BW.size)
  go_wp2_with fail
  go_ret
  exact⟨ret_int (by simp only[e1,e2,e3,e4]),by first|exact B0|exact B0.drew⟩
theorem pK(p:Pl)(h:p.ok)(id:Int)(it:Nat)(n:Int)(hn:0<=n/\n<=3)(w:World):
  Cs 269 #[.agg #[p.wk,p.fr,p.th,p.dq],id,it,n] w (.int .i64 (p.word id it n)) λw'=>Below w.heap.size w w':=by
 have cb:=Hd (λw=>gM p h w);have cf:=Hd (λw=>mJ p h id w);have q1:=iU p h id;have hmx:max (it:Int) 0=(it:Int):=by omega
 have hn0:(0:Int)<=(it:Int):=by omega
 have q2:=Int.emod_nonneg (it:Int) (show p.th+1≠0 by unfold Pl.ok at h;omega);have q3:=Int.emod_lt_of_pos (it:Int) (show 0<p.th+1 by unfold Pl.ok at h;omega);have q4:p.th<=64:=by unfold Pl.ok at h;omega
 have nz:(p.th+1==0)=false:=by simp;unfold Pl.ok at h;omega
 have nz2:¬p.th+1=0:=by unfold Pl.ok at h;omega
 have e1:IntKind.i64.wrap (p.frame id+2)=p.frame id+2:=rU _ U2;have e2:Int.tmod (it:Int) (p.th+1)=(it:Int)%(p.th+1):=Int.tmod_eq_emod_of_nonneg U2;have e3:IntKind.i64.wrap (p.th+1)=p.th+1:=rU _ U25;have e4:IntKind.i64.wrap ((it:Int)%(p.th+1))=(it:Int)%(p.th+1):=rU _ U2;have e5:IntKind.i64.wrap (4*((it:Int)%(p.th+1)))=4*((it:Int)%(p.th+1)):=rU _ U2;have e6:IntKind.i64.wrap (p.frame id+2+4*((it:Int)%(p.th+1)))=p.frame id+2+4*((it:Int)%(p.th+1)):=rU _ U2;have e7:IntKind.i64.wrap (p.frame id+2+4*((it:Int)%(p.th+1))+n)=p.word id it n:=by unfold Pl.word;rw[hmx];exact rU _ U2
 clear q1 q2 q3 q4 hn;generalize p.word id it n=Z at*;generalize p.frame id=fs at*;obtain⟨a,b,c,d⟩:=p;clear h;dsimp only at*;go_enter func269,ntmps269;go_upto_region 1 with fail;generalize hW:w.alloc (.cells #[a,b,c,d] 89)=W;generalize hg:w.heap.size=g;have x0:=rA hW hg;have x1:=rC hW hg;have x2:=rD hW hg;have x3:=rE hW hg;have l0:=ry hW hg;have BW:=ru hW;clear hW hg
 go_upto_region 3 with(go_at_call 122;refine(cb.o _).q λw1 Sr=> ?_;replace x0:=kb Sr l0 x0;replace x1:=kb Sr l0 x1;replace x2:=kb Sr l0 x2;replace x3:=kb Sr l0 x3;replace l0:=nL l0 Sr.size;replace BW:=BW.trans (Sr.mono BW.size))
 go_region_held3 (λw'=>w'.cell? ⟨g,0,none⟩=some ↑a/\w'.cell? ⟨g,1,none⟩=some ↑b/\w'.cell? ⟨g,2,none⟩=some ↑c/\w'.cell? ⟨g,3,none⟩=some ↑d)
  (exact U157)
  (first|(go_at_call 129;refine(cf.o _).mono ?_;rintro e v0 ⟨rfl,hv0⟩;have m0:=nL l0 hv0.size))
 all_goals
  have B0:Below w.heap.size w v0:=by first|exact BW.trans (hv0.mono BW.size)|exact BW.drew.trans (hv0.mono BW.size)|exact BW.drew.drew.trans (hv0.mono BW.size)
  go_wp2_with fail
  go_ret
  exact⟨ret_int (by simp only[e1,e2,e3,e4,e5,e6,e7]),by first|exact B0|exact B0.drew⟩
theorem yH(p:Pl)(h:p.ok)(id:Int)(w:World):
  Cs 298 #[.agg #[p.wk,p.fr,p.th,p.dq],id] w (.int .i64 (p.frame id+1)) λw'=>Below w.heap.size w w':=by
 have cb:=Hd (λw=>gM p h w);have cf:=Hd (λw=>mJ p h id w);have e1:wrap64 (p.frame id+1)=p.frame id+1:=wr _ (by have:=iU p h id;omega);generalize p.frame id=F at*;obtain⟨a,b,c,d⟩:=p;clear h;dsimp only at*;go_enter func298,ntmps298;go_upto_region 1 with fail;generalize hW:w.alloc (.cells #[a,b,c,d] 89)=W;generalize hg:w.heap.size=g;have x0:=rA hW hg;have x1:=rC hW hg;have x2:=rD hW hg;have x3:=rE hW hg;have l0:=ry hW hg;have BW:=ru hW;clear hW hg
 go_wp2_with (first|(go_at_call 122;refine(cb.o _).q λw1 Sr=> ?_;replace x0:=kb Sr l0 x0;replace x1:=kb Sr l0 x1;replace x2:=kb Sr l0 x2;replace x3:=kb Sr l0 x3;replace l0:=nL l0 Sr.size;replace BW:=BW.trans (Sr.mono BW.size))|(go_at_call 129;refine(cf.o _).q λw2 hb2=> ?_;replace BW:=BW.trans (hb2.mono BW.size)))
 go_ret
 exact⟨by first|rfl|exact ret_int U6,BW⟩
theorem qi(p:Pl)(h:p.ok)(id:Int)(it:Nat)(w:World):
  Cs 227 #[.agg #[p.wk,p.fr,p.th,p.dq],id,it] w (.int .i64 (p.word id it 0)) λw'=>Below w.heap.size w w':=by
 have cb:=Hd (λw=>gM p h w);have cf:=Hd (λw=>pK p h id it 0 U0 w);generalize p.word id it 0=Z at*;obtain⟨a,b,c,d⟩:=p;clear h;dsimp only at*;go_enter func227,ntmps227;go_upto_region 1 with fail;generalize hW:w.alloc (.cells #[a,b,c,d] 89)=W;generalize hg:w.heap.size=g;have x0:=rA hW hg;have x1:=rC hW hg;have x2:=rD hW hg;have x3:=rE hW hg;have l0:=ry hW hg;have BW:=ru hW;clear hW hg
 go_wp2_with (first|(go_at_call 122;refine(cb.o _).q λw1 Sr=> ?_;replace x0:=kb Sr l0 x0;replace x1:=kb Sr l0 x1;replace x2:=kb Sr l0 x2;replace x3:=kb Sr l0 x3;replace l0:=nL l0 Sr.size;replace BW:=BW.trans (Sr.mono BW.size))|(go_at_call 269;refine(cf.o _).q λw2 hb2=> ?_;replace BW:=BW.trans (hb2.mono BW.size)))
 go_ret
 exact⟨by first|rfl|exact ret_int U6,BW⟩
theorem Da(p:Pl)(h:p.ok)(id:Int)(it:Nat)(w:World):
  Cs 273 #[.agg #[p.wk,p.fr,p.th,p.dq],id,it] w (.int .i64 (p.word id it 1)) λw'=>Below w.heap.size w w':=by
 have cb:=Hd (λw=>gM p h w);have cf:=Hd (λw=>pK p h id it 1 U0 w);generalize p.word id it 1=Z at*;obtain⟨a,b,c,d⟩:=p;clear h;dsimp only at*;go_enter func273,ntmps273;go_upto_region 1 with fail;generalize hW:w.alloc (.cells #[a,b,c,d] 89)=W;generalize hg:w.heap.size=g;have x0:=rA hW hg;have x1:=rC hW hg;have x2:=rD hW hg;have x3:=rE hW hg;have l0:=ry hW hg;have BW:=ru hW;clear hW hg
 go_wp2_with (first|(go_at_call 122;refine(cb.o _).q λw1 Sr=> ?_;replace x0:=kb Sr l0 x0;replace x1:=kb Sr l0 x1;replace x2:=kb Sr l0 x2;replace x3:=kb Sr l0 x3;replace l0:=nL l0 Sr.size;replace BW:=BW.trans (Sr.mono BW.size))|(go_at_call 269;refine(cf.o _).q λw2 hb2=> ?_;replace BW:=BW.trans (hb2.mono BW.size)))
 go_ret
 exact⟨by first|rfl|exact ret_int U6,BW⟩
theorem Kk(p:Pl)(h:p.ok)(id:Int)(it:Nat)(w:World):
  Cs 275 #[.agg #[p.wk,p.fr,p.th,p.dq],id,it] w (.int .i64 (p.word id it 2)) λw'=>Below w.heap.size w w':=by
 have cb:=Hd (λw=>gM p h w);have cf:=Hd (λw=>pK p h id it 2 U0 w);generalize p.word id it 2=Z at*;obtain⟨a,b,c,d⟩:=p;clear h;dsimp only at*;go_enter func275,ntmps275;go_upto_region 1 with fail;generalize hW:w.alloc (.cells #[a,b,c,d] 89)=W;generalize hg:w.heap.size=g;have x0:=rA hW hg;have x1:=rC hW hg;have x2:=rD hW hg;have x3:=rE hW hg;have l0:=ry hW hg;have BW:=ru hW;clear hW hg
 go_wp2_with (first|(go_at_call 122;refine(cb.o _).q λw1 Sr=> ?_;replace x0:=kb Sr l0 x0;replace x1:=kb Sr l0 x1;replace x2:=kb Sr l0 x2;replace x3:=kb Sr l0 x3;replace l0:=nL l0 Sr.size;replace BW:=BW.trans (Sr.mono BW.size))|(go_at_call 269;refine(cf.o _).q λw2 hb2=> ?_;replace BW:=BW.trans (hb2.mono BW.size)))
 go_ret
 exact⟨by first|rfl|exact ret_int U6,BW⟩
theorem zR(p:Pl)(h:p.ok)(id:Int)(it:Nat)(w:World):
  Cs 282 #[.agg #[p.wk,p.fr,p.th,p.dq],id,it] w (.int .i64 (p.word id it 3)) λw'=>Below w.heap.size w w':=by
 have cb:=Hd (λw=>gM p h w);have cf:=Hd (λw=>pK p h id it 3 U0 w);generalize p.word id it 3=Z at*;obtain⟨a,b,c,d⟩:=p;clear h;dsimp only at*;go_enter func282,ntmps282;go_upto_region 1 with fail;generalize hW:w.alloc (.cells #[a,b,c,d] 89)=W;generalize hg:w.heap.size=g;have x0:=rA hW hg;have x1:=rC hW hg;have x2:=rD hW hg;have x3:=rE hW hg;have l0:=ry hW hg;have BW:=ru hW;clear hW hg
 go_wp2_with (first|(go_at_call 122;refine(cb.o _).q λw1 Sr=> ?_;replace x0:=kb Sr l0 x0;replace x1:=kb Sr l0 x1;replace x2:=kb Sr l0 x2;replace x3:=kb Sr l0 x3;replace l0:=nL l0 Sr.size;replace BW:=BW.trans (Sr.mono BW.size))|(go_at_call 269;refine(cf.o _).q λw2 hb2=> ?_;replace BW:=BW.trans (hb2.mono BW.size)))
 go_ret
 exact⟨by first|rfl|exact ret_int U6,BW⟩
structure aD(w:World)(s d:Nat)(L:List Int):Prop where
 fs:∃cap,af w s #[.slice (some ⟨d,0,none⟩) L.length cap,.nilFunc] 141
 ws:af w d (ints L) 3
 ne:s≠d
theorem aD.set{w:World}{s d:Nat}{L:List Int}(h:aD w s d L)(k:Nat)(v:Int):aD (w.setCell ⟨d,k,none⟩ ↑v) s d (L.set k v):=
 ⟨by obtain⟨cap,hb⟩:=h.fs;exact⟨cap,by rw[List.length_set];exact hb.far h.ne _⟩,by rw[<-ints_set];exact h.ws.set k _,h.ne⟩
theorem aD.alloc{w:World}{s d:Nat}{L:List Int}(h:aD w s d L)(o:Obj):aD (w.alloc o) s d L:=⟨by obtain⟨cap,hb⟩:=h.fs;exact⟨cap,hb.alloc o⟩,h.ws.alloc o,h.ne⟩
theorem aD.ai{w w':World}{s d:Nat}{L:List Int}(h:aD w s d L)(hb:Below w.heap.size w w'):aD w' s d L:=
 ⟨by obtain⟨cap,q⟩:=h.fs;exact⟨cap,q.below hb q.lt⟩,h.ws.below hb h.ws.lt,h.ne⟩
theorem aD.drew{w:World}{s d:Nat}{L:List Int}(h:aD w s d L):aD w.drew s d L:=⟨h.fs,h.ws,h.ne⟩
theorem aD.far{w:World}{s d:Nat}{L:List Int}(h:aD w s d L){a:Addr}(hs:s≠a.block)(hd:d≠a.block)(v:Value):aD (w.setCell a v) s d L:=⟨by obtain⟨cap,q⟩:=h.fs;exact⟨cap,q.far hs v⟩,h.ws.far hd v,h.ne⟩
theorem aD.kept{S:Nat->Prop}{w w':World}{s d:Nat}{L:List Int}(h:aD w s d L)(k:Kept S w w')(hs:¬S s)(hd:¬S d):aD w' s d L:=
 ⟨by obtain⟨cap,hb⟩:=h.fs;exact⟨cap,k.blk hb hs⟩,k.blk h.ws hd,h.ne⟩
theorem qP(w:World)(s d:Nat)(L:List Int)(h:aD w s d L):
  Cs 202 #[.pointer (some ⟨s,0,none⟩)] w ↑L.length λw'=>w=w':=by
 obtain⟨cap,hb⟩:=h.fs;have h0:=hb.c0;go_enter func202,ntmps202;go_wp2_with fail
 go_ret
 exact⟨rfl,rfl⟩
theorem pJ(w:World)(s d:Nat)(L:List Int)(k:Nat)(hk:k<L.length)(b:Bool)(h:aD w s d L):
  Cs 125 #[.pointer (some ⟨s,0,none⟩),k,.bool b] w (.pointer (some ⟨d,k,none⟩)) λw'=>w=w':=by
 obtain⟨cap,hb⟩:=h.fs;have h0:=hb.c0;have h1:=hb.c1;have hrun:Sem.run prog (binOp BinOp.neq 139 Value.nilFunc Value.nilFunc) w=.ok (.bool false) w:=by kernel_rfl
 have cS:=Hd (λw h=>qP w s d L h);have d0:decide ((k:Int)<0)=false:=by simp
 have d1:decide ((L.length:Int)<=(k:Int))=false:=by simp;omega
 have hk':(k:Int)<(L.length:Int):=by omega
 go_enter func125,ntmps125
 go_wp2_with (go_at_call 202;refine(cS.o _ h).r ?_)
 go_ret
 exact⟨rfl,rfl⟩
theorem fI(w:World)(s d:Nat)(L:List Int)(k:Nat)(hk:k<L.length)(h:aD w s d L):
  Cs 160 #[.pointer (some ⟨s,0,none⟩),k] w (.tuple #[.int .i64 (L.getD k 0),.bool true]) λw'=>w=w':=by
 have h0:w.cell? ⟨d,k,none⟩=some (.int .i64 (L.getD k 0)):=(h.ws.cell k).trans (jZ L k hk);have cW:=Hd (λw h b=>pJ w s d L k hk b h);generalize L.getD k 0=v at*;go_enter func160,ntmps160
 go_wp2_with (go_at_call 125;refine(cW.o _ h _).r ?_)
 go_ret2
 exact⟨rfl,rfl⟩
theorem dN(w:World)(s d:Nat)(L:List Int)(k:Nat)(hk:k<L.length)(v:Int)(h:aD w s d L):
  Cs 84 #[.pointer (some ⟨s,0,none⟩),k,v] w (.bool true) λw'=>aD w' s d (L.set k v)/\Kept (One d) w w':=by
 have h0:w.cell? ⟨d,k,none⟩=some (.int .i64 (L.getD k 0)):=(h.ws.cell k).trans (jZ L k hk);have hf:=h.ws.fz k;have cW:=Hd (λw h b=>pJ w s d L k hk b h);generalize L.getD k 0=u at*;go_enter func84,ntmps84
 go_wp2_with (go_at_call 125;refine(cW.o _ h _).r ?_)
 go_ret
 exact⟨rfl,h.set k v,Kept.one _ _ _ _⟩
theorem uj(w:World)(s d:Nat)(L:List Int)(k:Nat)(hk:k<L.length)(v:Int)(h:aD w s d L):
  Cs 217 #[.pointer (some ⟨s,0,none⟩),k,v] w (.tuple #[.int .i64 (L.getD k 0),.bool true]) λw'=>aD w' s d (L.set k (wrap64 (L.getD k 0+v)))/\Kept (One d) w w':=by
 have h0:w.cell? ⟨d,k,none⟩=some (.int .i64 (L.getD k 0)):=(h.ws.cell k).trans (jZ L k hk);have hf:=h.ws.fz k;have cW:=Hd (λw h b=>pJ w s d L k hk b h);generalize L.getD k 0=u at*;go_enter func217,ntmps217
 go_wp2_with (go_at_call 125;refine(cW.o _ h _).r ?_)
 go_ret2
 exact⟨rfl,h.set k _,Kept.one _ _ _ _⟩
def swp(L:List Int)(k:Nat)(old now:Int):List Int:=if(L.getD k 0==old)=true then L.set k now else L
theorem AX(w:World)(s d:Nat)(L:List Int)(k:Nat)(hk:k<L.length)(old now:Int)(h:aD w s d L):
  Cs 219 #[.pointer (some ⟨s,0,none⟩),k,old,now] w (.tuple #[.int .i64 (L.getD k 0),.bool true]) λw'=>aD w' s d (swp L k old now)/\Kept (One d) w w':=by
 have h0:w.cell? ⟨d,k,none⟩=some (.int .i64 (L.getD k 0)):=(h.ws.cell k).trans (jZ L k hk);have hf:=h.ws.fz k;have cW:=Hd (λw h b=>pJ w s d L k hk b h);have HS:=Hd (show swp L k old now=if(L.getD k 0==old)=true then L.set k now else L from rfl);generalize swp L k old now=L' at*;generalize L.getD k 0=u at*
 by_cases hu:u=old
 ·subst hu
  go_enter func219,ntmps219
  go_wp2_with (go_at_call 125;refine(cW.o _ h _).r ?_)
  go_ret2
  exact⟨rfl,by rw[HS.o];simp;exact h.set k _,Kept.one _ _ _ _⟩
 ·have nu:(u==old)=false:=by simp[hu]
  go_enter func219,ntmps219
  go_wp2_with (go_at_call 125;refine(cW.o _ h _).r ?_)
  go_ret2
  exact⟨rfl,by rw[HS.o,nu];exact h,Kept.refl _ _⟩
end Go.Proofs.YteiignfflbmafaaGreat.Tp
namespace Go.Proofs.YteiignfflbmafaaGreat.Tp
open Go.Proofs.Tryz
open Go.RowKit Go.Proofs.YteiignfflbmafaaGreat.Tok
def Pl.wN(p:Pl)(id:Int)(it:Nat)(n:Int):Nat:=(p.word id it n).toNat
def Pl.nN(p:Pl)(id:Int):Nat:=(p.frame id+1).toNat
theorem gY(p:Pl)(h:p.ok)(id:Int)(it:Nat)(n:Int)(hn:0<=n):p.word id it n=(p.wN id it n:Int):=by
 have q1:=iU p h id;have q2:=Int.emod_nonneg (max (it:Int) 0) (show p.th+1≠0 by unfold Pl.ok at h;omega);unfold Pl.wN;rw[Int.toNat_of_nonneg (by unfold Pl.word;omega)]
theorem oZ(p:Pl)(h:p.ok)(id:Int):p.frame id+1=(p.nN id:Int):=by
 have q1:=iU p h id;unfold Pl.nN;rw[Int.toNat_of_nonneg U2]
theorem kk{S:Nat->Prop}{w w1:World}{a:Addr}{v:Value}(k:Kept S w w1)(hl:a.block<w.heap.size)(hs:¬S a.block)(h:w.cell? a=some v):w1.cell? a=some v:=(World.cell?_of_block (w:=w) (k.block a.block hl hs)).trans h
theorem wJ(w:World)(s d:Nat)(L:List Int)(k:Nat)(hk:k<L.length)(h:aD w s d L):
  Cs 235 #[.pointer (some ⟨s,0,none⟩),k] w (.int .i64 (L.getD k 0)) λw'=>w=w':=by
 have c1:=Hd (λw h=>fI w s d L k hk h);generalize L.getD k 0=v at*;go_enter func235,ntmps235
 go_wp2_with (go_at_call 160;refine(c1.o _ h).r ?_)
 go_ret
 exact⟨rfl,rfl⟩
theorem Hq(w:World)(s d:Nat)(L:List Int)(k:Nat)(hk:k<L.length)(n:Int)(h:aD w s d L):
  Cs 274 #[.pointer (some ⟨s,0,none⟩),k,n] w (.bool (L.getD k 0==n)) λw'=>aD w' s d (swp L k n 0)/\Kept (One d) w w':=by
 have c1:=Hd (λw h=>AX w s d L k hk n 0 h);generalize L.getD k 0=v at*;generalize swp L k n 0=L' at*;go_enter func274,ntmps274
 go_wp2_with (go_at_call 219;refine(c1.o _ h).mono ?_;rintro e w1 ⟨rfl,h1,k1⟩)
 go_ret
 exact⟨rfl,h1,k1⟩
theorem kW(a b c d id au it st:Int)(w:World):
  Cs 272 #[.agg #[a,b,c,d,id,au],it,st] w (.int .i64 (aA au it st)) λw'=>Below w.heap.size w w':=by
 have c1:=Hd (λw=>yN au it st w);generalize aA au it st=t at*;go_enter func272,ntmps272
 go_wp2_with (go_at_call 297;refine(c1.o _).r ?_)
 go_ret
 exact⟨rfl,Ba _⟩
theorem JE(p:Pl)(hp:p.ok)(id au:Int)(it:Nat)(s d:Nat)(L:List Int)(hk:p.wN id it 0<L.length)(w:World)(h:aD w s d L):
  Cs 168 #[.agg #[p.wk,p.fr,p.th,p.dq,id,au],.pointer (some ⟨s,0,none⟩),it] w (.int .i64 (L.getD (p.wN id it 0) 0)) λw'=>Below w.heap.size w w':=by
 have cw:=Hd (λw=>qi p hp id it w);rw[gY p hp id it 0 U0]at cw;have cl:=Hd (λw h=>wJ w s d L (p.wN id it 0) hk h);generalize p.wN id it 0=k at*;generalize L.getD k 0=v at*;obtain⟨a,b,c,q⟩:=p;clear hp;dsimp only at*;go_enter func168,ntmps168;go_upto_region 1 with fail;have hdl:=h.ws.lt;replace h:=h.alloc (.cells #[a,b,c,q,id,au] 247);generalize hW:w.alloc (.cells #[a,b,c,q,id,au] 247)=W at*;generalize hg:w.heap.size=g;have x0:=rA hW hg;have x1:=rC hW hg;have x2:=rD hW hg;have x3:=rE hW hg;have x4:=Kw hW hg;have x5:=Ky hW hg;have l0:=ry hW hg;have BW:=ru hW;have gd:¬One d g:=by intro z;unfold One at z;omega
 clear hW hg hdl
 go_wp2_with (first|(go_at_call 227;refine(cw.o _).q λw1 Sr=> ?_;replace x0:=kb Sr l0 x0;replace x1:=kb Sr l0 x1;replace x2:=kb Sr l0 x2;replace x3:=kb Sr l0 x3;replace x4:=kb Sr l0 x4;replace x5:=kb Sr l0 x5;replace l0:=nL l0 Sr.size;replace BW:=BW.trans (Sr.mono BW.size);replace h:=h.ai Sr)|(go_at_call 235;refine(cl.o _ h).r ?_))
 go_ret
 exact⟨rfl,BW⟩
theorem I1(p:Pl)(hp:p.ok)(id au:Int)(it:Nat)(s d:Nat)(L:List Int)(hk:p.wN id it 1<L.length)(w:World)(h:aD w s d L):
  Cs 230 #[.agg #[p.wk,p.fr,p.th,p.dq,id,au],.pointer (some ⟨s,0,none⟩),it] w (.int .i64 (L.getD (p.wN id it 1) 0)) λw'=>Below w.heap.size w w':=by
 have cw:=Hd (λw=>Da p hp id it w);rw[gY p hp id it 1 U0]at cw;have cl:=Hd (λw h=>wJ w s d L (p.wN id it 1) hk h);generalize p.wN id it 1=k at*;generalize L.getD k 0=v at*;obtain⟨a,b,c,q⟩:=p;clear hp;dsimp only at*;go_enter func230,ntmps230;go_upto_region 1 with fail;have hdl:=h.ws.lt;replace h:=h.alloc (.cells #[a,b,c,q,id,au] 247);generalize hW:w.alloc (.cells #[a,b,c,q,id,au] 247)=W at*;generalize hg:w.heap.size=g;have x0:=rA hW hg;have x1:=rC hW hg;have x2:=rD hW hg;have x3:=rE hW hg;have x4:=Kw hW hg;have x5:=Ky hW hg;have l0:=ry hW hg;have BW:=ru hW;have gd:¬One d g:=by intro z;unfold One at z;omega
 clear hW hg hdl
 go_wp2_with (first|(go_at_call 273;refine(cw.o _).q λw1 Sr=> ?_;replace x0:=kb Sr l0 x0;replace x1:=kb Sr l0 x1;replace x2:=kb Sr l0 x2;replace x3:=kb Sr l0 x3;replace x4:=kb Sr l0 x4;replace x5:=kb Sr l0 x5;replace l0:=nL l0 Sr.size;replace BW:=BW.trans (Sr.mono BW.size);replace h:=h.ai Sr)|(go_at_call 235;refine(cl.o _ h).r ?_))
 go_ret
 exact⟨rfl,BW⟩
theorem nS(p:Pl)(hp:p.ok)(id au:Int)(it:Nat)(v:Int)(s d:Nat)(L:List Int)(hk:p.wN id it 0<L.length)(w:World)(h:aD w s d L):
  Cs 157 #[.agg #[p.wk,p.fr,p.th,p.dq,id,au],.pointer (some ⟨s,0,none⟩),it,v] w (.tuple #[]) λw'=>aD w' s d (L.set (p.wN id it 0) v)/\Kept (One d) w w':=by
 have cw:=Hd (λw=>qi p hp id it w);rw[gY p hp id it 0 U0]at cw;have cl:=Hd (λw h=>dN w s d L (p.wN id it 0) hk v h);generalize p.wN id it 0=k at*;generalize L.set k v=L' at*;obtain⟨a,b,c,q⟩:=p;clear hp;dsimp only at*;go_enter func157,ntmps157;go_upto_region 1 with fail;have hdl:=h.ws.lt;replace h:=h.alloc (.cells #[a,b,c,q,id,au] 247);generalize hW:w.alloc (.cells #[a,b,c,q,id,au] 247)=W at*;generalize hg:w.heap.size=g;have x0:=rA hW hg;have x1:=rC hW hg;have x2:=rD hW hg;have x3:=rE hW hg;have x4:=Kw hW hg;have x5:=Ky hW hg;have l0:=ry hW hg;have BW:=ru hW;have gd:¬One d g:=by intro z;unfold One at z;omega
 clear hW hg hdl
 go_wp2_with (first|(go_at_call 227;refine(cw.o _).q λw1 Sr=> ?_;replace x0:=kb Sr l0 x0;replace x1:=kb Sr l0 x1;replace x2:=kb Sr l0 x2;replace x3:=kb Sr l0 x3;replace x4:=kb Sr l0 x4;replace x5:=kb Sr l0 x5;replace l0:=nL l0 Sr.size;replace BW:=BW.trans (Sr.mono BW.size);replace h:=h.ai Sr)|(go_at_call 84;refine(cl.o _ h).mono ?_;rintro e w3 ⟨rfl,h3,k3⟩))
 go_end0
 exact⟨rfl,h3,(Kept.ob BW).trans k3⟩
theorem Kj(p:Pl)(hp:p.ok)(id au:Int)(it:Nat)(v:Int)(s d:Nat)(L:List Int)(hk:p.wN id it 2<L.length)(w:World)(h:aD w s d L):
  Cs 248 #[.agg #[p.wk,p.fr,p.th,p.dq,id,au],.pointer (some ⟨s,0,none⟩),it,v] w (.tuple #[]) λw'=>aD w' s d (L.set (p.wN id it 2) v)/\Kept (One d) w w':=by
 have cw:=Hd (λw=>Kk p hp id it w);rw[gY p hp id it 2 U0]at cw;have cl:=Hd (λw h=>dN w s d L (p.wN id it 2) hk v h);generalize p.wN id it 2=k at*;generalize L.set k v=L' at*;obtain⟨a,b,c,q⟩:=p;clear hp;dsimp only at*;go_enter func248,ntmps248;go_upto_region 1 with fail;have hdl:=h.ws.lt;replace h:=h.alloc (.cells #[a,b,c,q,id,au] 247);generalize hW:w.alloc (.cells #[a,b,c,q,id,au] 247)=W at*;generalize hg:w.heap.size=g;have x0:=rA hW hg;have x1:=rC hW hg;have x2:=rD hW hg;have x3:=rE hW hg;have x4:=Kw hW hg;have x5:=Ky hW hg;have l0:=ry hW hg;have BW:=ru hW;have gd:¬One d g:=by intro z;unfold One at z;omega
 clear hW hg hdl
 go_wp2_with (first|(go_at_call 275;refine(cw.o _).q λw1 Sr=> ?_;replace x0:=kb Sr l0 x0;replace x1:=kb Sr l0 x1;replace x2:=kb Sr l0 x2;replace x3:=kb Sr l0 x3;replace x4:=kb Sr l0 x4;replace x5:=kb Sr l0 x5;replace l0:=nL l0 Sr.size;replace BW:=BW.trans (Sr.mono BW.size);replace h:=h.ai Sr)|(go_at_call 84;refine(cl.o _ h).mono ?_;rintro e w3 ⟨rfl,h3,k3⟩))
 go_end0
 exact⟨rfl,h3,(Kept.ob BW).trans k3⟩
theorem NH(p:Pl)(hp:p.ok)(id au:Int)(it:Nat)(s d:Nat)(L:List Int)(hk:p.wN id it 3<L.length)(w:World)(h:aD w s d L):
  Cs 276 #[.agg #[p.wk,p.fr,p.th,p.dq,id,au],.pointer (some ⟨s,0,none⟩),it] w (.tuple #[]) λw'=>aD w' s d (L.set (p.wN id it 3) (aA au it 0))/\Kept (One d) w w':=by
 have cw:=Hd (λw=>zR p hp id it w);rw[gY p hp id it 3 U0]at cw;have co:=Hd (λw=>kW p.wk p.fr p.th p.dq id au it 0 w);have cl:=Hd (λw h=>dN w s d L (p.wN id it 3) hk (aA au it 0) h);generalize p.wN id it 3=k at*;generalize aA au it 0=tk at*;generalize L.set k tk=L' at*;obtain⟨a,b,c,q⟩:=p;clear hp;dsimp only at*;go_enter func276,ntmps276;go_upto_region 1 with fail;have hdl:=h.ws.lt;replace h:=h.alloc (.cells #[a,b,c,q,id,au] 247);generalize hW:w.alloc (.cells #[a,b,c,q,id,au] 247)=W at*;generalize hg:w.heap.size=g;have x0:=rA hW hg;have x1:=rC hW hg;have x2:=rD hW hg;have x3:=rE hW hg;have x4:=Kw hW hg;have x5:=Ky hW hg;have l0:=ry hW hg;have BW:=ru hW;have gd:¬One d g:=by intro z;unfold One at z;omega
 clear hW hg hdl
 go_region_held3 (λw'=>w'.cell? ⟨g,0,none⟩=some ↑a/\w'.cell? ⟨g,1,none⟩=some ↑b/\w'.cell? ⟨g,2,none⟩=some ↑c/\w'.cell? ⟨g,3,none⟩=some ↑q/\w'.cell? ⟨g,4,none⟩=some ↑id/\w'.cell? ⟨g,5,none⟩=some ↑au)
  (exact U158)
  (first|(go_at_call 282;refine(cw.o _).q λw1 Sr=> ?_;have l1:=nL l0 Sr.size;have h1:aD w1 s d L:=U52)|(go_at_call 272;refine(co.out _).q λw2 hb2=> ?_;have l2:=nL l1 hb2.size;have h2:aD w2 s d L:=U51)|(go_at_call 84;refine(cl.o _ U60).mono ?_;rintro e w3 ⟨rfl,h3,k3⟩;have l3:=nL l2 k3.size))
 all_goals
  have B1:Below w.heap.size w w1:=by first|exact BW.trans (Sr.mono BW.size)|exact BW.drew.trans (Sr.mono BW.size)
  have B2:Below w.heap.size w w2:=by first|exact B1.trans (hb2.mono B1.size)|exact B1.drew.trans (hb2.mono B1.size)
  go_wp2_with fail
  go_end0
  exact⟨rfl,h3,by first|exact(Kept.ob B2).trans k3|exact(Kept.ob B2).drew.trans k3⟩
theorem GV(p:Pl)(hp:p.ok)(id au:Int)(it:Nat)(s d:Nat)(L:List Int)(hk:p.nN id<L.length)(w:World)(h:aD w s d L):
  Cs 283 #[.agg #[p.wk,p.fr,p.th,p.dq,id,au],.pointer (some ⟨s,0,none⟩),it] w (.tuple #[]) λw'=>aD w' s d (L.set (p.nN id) (aA au it 0))/\Kept (One d) w w':=by
 have cw:=Hd (λw=>yH p hp id w);rw[oZ p hp id]at cw;have co:=Hd (λw=>kW p.wk p.fr p.th p.dq id au it 0 w);have cl:=Hd (λw h=>dN w s d L (p.nN id) hk (aA au it 0) h);generalize p.nN id=k at*;generalize aA au it 0=tk at*;generalize L.set k tk=L' at*;obtain⟨a,b,c,q⟩:=p;clear hp;dsimp only at*;go_enter func283,ntmps283;go_upto_region 1 with fail;have hdl:=h.ws.lt;replace h:=h.alloc (.cells #[a,b,c,q,id,au] 247);generalize hW:w.alloc (.cells #[a,b,c,q,id,au] 247)=W at*;generalize hg:w.heap.size=g;have x0:=rA hW hg;have x1:=rC hW hg;have x2:=rD hW hg;have x3:=rE hW hg;have x4:=Kw hW hg;have x5:=Ky hW hg;have l0:=ry hW hg;have BW:=ru hW;have gd:¬One d g:=by intro z;unfold One at z;omega
 clear hW hg hdl
 go_region_held3 (λw'=>w'.cell? ⟨g,0,none⟩=some ↑a/\w'.cell? ⟨g,1,none⟩=some ↑b/\w'.cell? ⟨g,2,none⟩=some ↑c/\w'.cell? ⟨g,3,none⟩=some ↑q/\w'.cell? ⟨g,4,none⟩=some ↑id/\w'.cell? ⟨g,5,none⟩=some ↑au)
  (exact U158)
  (first|(go_at_call 298;refine(cw.o _).q λw1 Sr=> ?_;have l1:=nL l0 Sr.size;have h1:aD w1 s d L:=U52)|(go_at_call 272;refine(co.out _).q λw2 hb2=> ?_;have l2:=nL l1 hb2.size;have h2:aD w2 s d L:=U51)|(go_at_call 84;refine(cl.o _ U60).mono ?_;rintro e w3 ⟨rfl,h3,k3⟩;have l3:=nL l2 k3.size))
 all_goals
  have B1:Below w.heap.size w w1:=by first|exact BW.trans (Sr.mono BW.size)|exact BW.drew.trans (Sr.mono BW.size)
  have B2:Below w.heap.size w w2:=by first|exact B1.trans (hb2.mono B1.size)|exact B1.drew.trans (hb2.mono B1.size)
  go_wp2_with fail
  go_end0
  exact⟨rfl,h3,by first|exact(Kept.ob B2).trans k3|exact(Kept.ob B2).drew.trans k3⟩
theorem Gt(p:Pl)(hp:p.ok)(id au:Int)(it:Nat)(s d:Nat)(L:List Int)(hk:p.nN id<L.length)(w:World)(h:aD w s d L):
  Cs 299 #[.agg #[p.wk,p.fr,p.th,p.dq,id,au],.pointer (some ⟨s,0,none⟩),it] w (.bool (L.getD (p.nN id) 0==aA au it 0)) λw'=>aD w' s d (swp L (p.nN id) (aA au it 0) 0)/\Kept (One d) w w':=by
 have cw:=Hd (λw=>yH p hp id w);rw[oZ p hp id]at cw;have co:=Hd (λw=>kW p.wk p.fr p.th p.dq id au it 0 w);have cl:=Hd (λw h=>Hq w s d L (p.nN id) hk (aA au it 0) h);generalize p.nN id=k at*;generalize aA au it 0=tk at*;generalize swp L k tk 0=L' at*;generalize L.getD k 0=v at*;obtain⟨a,b,c,q⟩:=p;clear hp;dsimp only at*;go_enter func299,ntmps299;go_upto_region 1 with fail;have hdl:=h.ws.lt;replace h:=h.alloc (.cells #[a,b,c,q,id,au] 247);generalize hW:w.alloc (.cells #[a,b,c,q,id,au] 247)=W at*;generalize hg:w.heap.size=g;have x0:=rA hW hg;have x1:=rC hW hg;have x2:=rD hW hg;have x3:=rE hW hg;have x4:=Kw hW hg;have x5:=Ky hW hg;have l0:=ry hW hg;have BW:=ru hW;have gd:¬One d g:=by intro z;unfold One at z;omega
 clear hW hg hdl
 go_region_held3 (λw'=>w'.cell? ⟨g,0,none⟩=some ↑a/\w'.cell? ⟨g,1,none⟩=some ↑b/\w'.cell? ⟨g,2,none⟩=some ↑c/\w'.cell? ⟨g,3,none⟩=some ↑q/\w'.cell? ⟨g,4,none⟩=some ↑id/\w'.cell? ⟨g,5,none⟩=some ↑au)
  (exact U158)
  (first|(go_at_call 298;refine(cw.o _).q λw1 Sr=> ?_;have l1:=nL l0 Sr.size;have h1:aD w1 s d L:=U52)|(go_at_call 272;refine(co.out _).q λw2 hb2=> ?_;have l2:=nL l1 hb2.size;have h2:aD w2 s d L:=U51)|(go_at_call 274;refine(cl.o _ U60).mono ?_;rintro e w3 ⟨rfl,h3,k3⟩;have l3:=nL l2 k3.size))
 all_goals
  have B1:Below w.heap.size w w1:=by first|exact BW.trans (Sr.mono BW.size)|exact BW.drew.trans (Sr.mono BW.size)
  have B2:Below w.heap.size w w2:=by first|exact B1.trans (hb2.mono B1.size)|exact B1.drew.trans (hb2.mono B1.size)
  go_wp2_with fail
  go_ret
  exact⟨rfl,h3,by first|exact(Kept.ob B2).trans k3|exact(Kept.ob B2).drew.trans k3⟩
theorem qx(p:Pl)(hp:p.ok)(id au:Int)(it:Nat)(s d:Nat)(L:List Int)(hk:p.wN id it 3<L.length)(w:World)(h:aD w s d L):
  Cs 242 #[.agg #[p.wk,p.fr,p.th,p.dq,id,au],.pointer (some ⟨s,0,none⟩),it] w (.bool (L.getD (p.wN id it 3) 0==aA au it 0)) λw'=>Below w.heap.size w w':=by
 have cw:=Hd (λw=>zR p hp id it w);rw[gY p hp id it 3 U0]at cw;have co:=Hd (λw=>kW p.wk p.fr p.th p.dq id au it 0 w);have cl:=Hd (λw h=>fI w s d L (p.wN id it 3) hk h);generalize p.wN id it 3=k at*;generalize aA au it 0=tk at*;generalize L.getD k 0=v at*;obtain⟨a,b,c,q⟩:=p;clear hp;dsimp only at*;go_enter func242,ntmps242;go_upto_region 1 with fail;have hdl:=h.ws.lt;replace h:=h.alloc (.cells #[a,b,c,q,id,au] 247);generalize hW:w.alloc (.cells #[a,b,c,q,id,au] 247)=W at*;generalize hg:w.heap.size=g;have x0:=rA hW hg;have x1:=rC hW hg;have x2:=rD hW hg;have x3:=rE hW hg;have x4:=Kw hW hg;have x5:=Ky hW hg;have l0:=ry hW hg;have BW:=ru hW;have gd:¬One d g:=by intro z;unfold One at z;omega
 clear hW hg hdl
 go_wp2_with (first|(go_at_call 282;refine(cw.o _).q λw1 Sr=> ?_;replace x0:=kb Sr l0 x0;replace x1:=kb Sr l0 x1;replace x2:=kb Sr l0 x2;replace x3:=kb Sr l0 x3;replace x4:=kb Sr l0 x4;replace x5:=kb Sr l0 x5;replace l0:=nL l0 Sr.size;replace BW:=BW.trans (Sr.mono BW.size);replace h:=h.ai Sr)|(go_at_call 160;refine(cl.o _ h).r ?_)|(go_at_call 272;refine(co.out _).q λw2 hb2=> ?_;replace x0:=kb hb2 l0 x0;replace x1:=kb hb2 l0 x1;replace x2:=kb hb2 l0 x2;replace x3:=kb hb2 l0 x3;replace x4:=kb hb2 l0 x4;replace x5:=kb hb2 l0 x5;replace l0:=nL l0 hb2.size;replace BW:=BW.trans (hb2.mono BW.size);replace h:=h.ai hb2))
 go_ret
 exact⟨rfl,BW⟩
theorem CU(p:Pl)(hp:p.ok)(id au:Int)(it:Nat)(s d:Nat)(L:List Int)(hk:p.nN id<L.length)(w:World)(h:aD w s d L):
  Cs 278 #[.agg #[p.wk,p.fr,p.th,p.dq,id,au],.pointer (some ⟨s,0,none⟩),it] w (.bool (L.getD (p.nN id) 0==aA au it 0)) λw'=>Below w.heap.size w w':=by
 have cw:=Hd (λw=>yH p hp id w);rw[oZ p hp id]at cw;have co:=Hd (λw=>kW p.wk p.fr p.th p.dq id au it 0 w);have cl:=Hd (λw h=>fI w s d L (p.nN id) hk h);generalize p.nN id=k at*;generalize aA au it 0=tk at*;generalize L.getD k 0=v at*;obtain⟨a,b,c,q⟩:=p;clear hp;dsimp only at*;go_enter func278,ntmps278;go_upto_region 1 with fail;have hdl:=h.ws.lt;replace h:=h.alloc (.cells #[a,b,c,q,id,au] 247);generalize hW:w.alloc (.cells #[a,b,c,q,id,au] 247)=W at*;generalize hg:w.heap.size=g;have x0:=rA hW hg;have x1:=rC hW hg;have x2:=rD hW hg;have x3:=rE hW hg;have x4:=Kw hW hg;have x5:=Ky hW hg;have l0:=ry hW hg;have BW:=ru hW;have gd:¬One d g:=by intro z;unfold One at z;omega
 clear hW hg hdl
 go_wp2_with (first|(go_at_call 298;refine(cw.o _).q λw1 Sr=> ?_;replace x0:=kb Sr l0 x0;replace x1:=kb Sr l0 x1;replace x2:=kb Sr l0 x2;replace x3:=kb Sr l0 x3;replace x4:=kb Sr l0 x4;replace x5:=kb Sr l0 x5;replace l0:=nL l0 Sr.size;replace BW:=BW.trans (Sr.mono BW.size);replace h:=h.ai Sr)|(go_at_call 160;refine(cl.o _ h).r ?_)|(go_at_call 272;refine(co.out _).q λw2 hb2=> ?_;replace x0:=kb hb2 l0 x0;replace x1:=kb hb2 l0 x1;replace x2:=kb hb2 l0 x2;replace x3:=kb hb2 l0 x3;replace x4:=kb hb2 l0 x4;replace x5:=kb hb2 l0 x5;replace l0:=nL l0 hb2.size;replace BW:=BW.trans (hb2.mono BW.size);replace h:=h.ai hb2))
 go_ret
 exact⟨rfl,BW⟩
theorem Us39 {p:Prop} (h:p:=by
 rw[nt];clear ht;go_enter func229,ntmps229
 go_wp2_with (first|(go_at_call 270;refine(c1.o _).r ?_)|(go_at_call 271;refine(c2.o _).r ?_)|(go_at_call 272;refine(c3.o _).q λw2 hb2=> ?_))
 go_ret2
 exact⟨rfl,(Ba _).trans (hb2.mono U8)⟩):p:=h
theorem sZ(w:World)(s d:Nat)(L:List Int)(k:Nat)(hk:k<L.length)(h:aD w s d L):
  Cs 153 #[.pointer (some ⟨s,0,none⟩),k] w (.tuple #[]) λw'=>aD w' s d (L.set k (wrap64 (L.getD k 0+1)))/\Kept (One d) w w':=by
 have c1:=Hd (λw h=>uj w s d L k hk 1 h);generalize L.set k _=L' at*;generalize L.getD k 0=v at*;go_enter func153,ntmps153
 go_wp2_with (go_at_call 217;refine(c1.o _ h).mono ?_;rintro e w1 ⟨rfl,h1,k1⟩)
 go_end0
 exact⟨rfl,h1,k1⟩
theorem eG(w:World)(s d:Nat)(L:List Int)(k:Nat)(hk:k<L.length)(h:aD w s d L):
  Cs 145 #[.pointer (some ⟨s,0,none⟩),k] w (.bool (L.getD k 0==1)) λw'=>aD w' s d (L.set k (wrap64 (L.getD k 0+ -1)))/\Kept (One d) w w':=by
 have c1:=Hd (λw h=>uj w s d L k hk (-1) h);generalize L.set k _=L' at*;generalize L.getD k 0=v at*;go_enter func145,ntmps145
 go_wp2_with (go_at_call 217;refine(c1.o _ h).mono ?_;rintro e w1 ⟨rfl,h1,k1⟩)
 go_ret
 exact⟨rfl,h1,k1⟩
theorem sW(w:World)(s d:Nat)(L:List Int)(k:Nat)(hk:k<L.length)(h:aD w s d L):
  Cs 152 #[.pointer (some ⟨s,0,none⟩),k] w (.tuple #[]) λw'=>aD w' s d (L.set k 1)/\Kept (One d) w w':=by
 have c1:=Hd (λw h=>dN w s d L k hk 1 h);generalize L.set k 1=L' at*;go_enter func152,ntmps152
 go_wp2_with (go_at_call 84;refine(c1.o _ h).mono ?_;rintro e w1 ⟨rfl,h1,k1⟩)
 go_end0
 exact⟨rfl,h1,k1⟩
theorem Kr(w:World)(s d:Nat)(L:List Int)(k:Nat)(hk:k+1<L.length)(hL:(L.length:Int)<=1000000)(n:Int)(h:aD w s d L):
  Cs 207 #[.agg #[k,n],.pointer (some ⟨s,0,none⟩)] w (.bool (L.getD (k+1) 0==n)) λw'=>Below w.heap.size w w':=by
 have c1:=Hd (λw h=>fI w s d L (k+1) hk h);have e1:wrap64 ((k:Int)+1)=((k+1:Nat):Int):=(wr _ U2).trans U8;generalize hk1:k+1=k1 at*;generalize L.getD k1 0=v at*;clear hk hL hk1;go_enter func207,ntmps207
 go_wp2_with (go_at_call 160;refine(c1.o _ (h.alloc _)).r ?_)
 go_ret
 exact⟨rfl,Ba _⟩
theorem De(w:World)(s d:Nat)(L:List Int)(k:Nat)(hk:k+1<L.length)(hL:(L.length:Int)<=1000000)(n:Int)(h:aD w s d L):
  Cs 302 #[.agg #[k,n],.pointer (some ⟨s,0,none⟩)] w (.bool true) λw'=>aD w' s d (L.set (k+1) (wrap64 (n+1)))/\Kept (One d) w w':=by
 have c1:=Hd (λw h=>dN w s d L (k+1) hk (wrap64 (n+1)) h);have e1:wrap64 ((k:Int)+1)=((k+1:Nat):Int):=(wr _ U2).trans U8;generalize hk1:k+1=k1 at*;generalize hn1:wrap64 (n+1)=n1 at*;generalize L.set k1 n1=L' at*;clear hk hL hk1;go_enter func302,ntmps302
 go_wp2_with (go_at_call 84;refine(c1.o _ (h.alloc _)).mono ?_;rintro e w1 ⟨rfl,h1,k1⟩)
 go_ret
 exact⟨rfl,h1,((Kept.refl _ _).alloc _).trans k1⟩
theorem Nf(w:World)(s d:Nat)(L:List Int)(k:Nat)(hk:k<L.length)(h:aD w s d L):
  Cs 205 #[.pointer (some ⟨s,0,none⟩),k] w (.agg #[k,.int .i64 (L.getD k 0)]) λw'=>aD w' s d (L.set k (wrap64 (L.getD k 0+1)))/\Kept (One d) w w':=by
 have c1:=Hd (λw h=>uj w s d L k hk 1 h);have hs:=(h.fs.elim λ_ q=>q.lt);have hd:=h.ws.lt;generalize L.set k _=L' at*;generalize L.getD k 0=v at*;go_enter func205,ntmps205;go_upto_region 1 with fail;have bx:=af.new w #[(0:Int),(0:Int)] 227 _ rfl;replace h:=h.alloc (.cells #[(0:Int),(0:Int)] 227);have KW:Kept (One d) w (w.alloc (.cells #[(0:Int),(0:Int)] 227)):=(Kept.refl _ _).alloc _;generalize w.alloc (.cells #[(0:Int),(0:Int)] 227)=W at*;generalize hg:w.heap.size=g at*
 go_wp2_with (go_at_call 217;refine(c1.o _ h).mono ?_;rintro e w1 ⟨rfl,h1,k1⟩;replace bx:=k1.blk bx (by intro z;unfold One at z;omega);have y0:=bx.cell 0;have y1:=bx.cell 1;have z:=bx.fz)
 exact bodyPost_ret (v:=.agg #[k,v]) (by simp[results,results205,go_sem,y0,y1,z]) rfl
  ⟨rfl,(h1.far (by show s≠g;omega) (by show d≠g;omega) _).far (by show s≠g;omega) (by show d≠g;omega) _,((KW.trans k1).set (p:=⟨g,0,none⟩) (Or.inr (by show w.heap.size<=g;omega)) _).set (p:=⟨g,1,none⟩) (Or.inr (by show w.heap.size<=g;omega)) _⟩
theorem Kq(a b c d id au:Int)(t it cn:Int)(w:World):
  Calls prog 229 #[.agg #[a,b,c,d,id,au],t,it,cn] w λe w'=>
   e=.returned (.tuple #[.int .i64 (if(iK t cn&&(t==aA au it (bZ t)))=true then bZ t else 0),.bool (iK t cn&&(t==aA au it (bZ t)))])/\Below w.heap.size w w':=by
 have c1:=Hd (λw=>tN t w);have c2:=Hd (λw=>Gd t cn w);have c3:=Hd (λw=>kW a b c d id au it (bZ t) w);generalize bZ t=sg at*;generalize aA au it sg=tk at*;generalize Gc t cn=nv at*
 cases hn:iK t cn
 ·rw[hn]at c2
  simp only[Bool.false_and];go_enter func229,ntmps229
  go_wp2_with (first|(go_at_call 270;refine(c1.o _).r ?_)|(go_at_call 271;refine(c2.o _).r ?_))
  go_ret2
  exact⟨rfl,Ba _⟩
 ·rw[hn]at c2
  simp only[Bool.true_and]
  by_cases ht:t=tk
  ·have nt:(t==tk)=true:=by simp[ht]
   exact Us39
  ·have nt:(t==tk)=false:=by simp[ht]
   exact Us39
end Go.Proofs.YteiignfflbmafaaGreat.Tp
