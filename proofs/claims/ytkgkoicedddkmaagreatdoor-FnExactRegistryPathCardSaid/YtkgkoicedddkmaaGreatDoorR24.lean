/- Texts joined. Conditions: as each theorem names them. -/
import Derived.Deep.CutRange
import Derived.Deep.DeepCutAuto
import Derived.Test.YtkgkoicedddkmaaGreatDoorR23
set_option maxRecDepth 100000
set_option maxHeartbeats 32000000
set_option linter.unusedVariables false
set_option linter.unusedSimpArgs false
namespace Go.Proofs.YtkgkoicedddkmaaGreatDoor
open Go.RowKit Go.Proofs.Tryz
def Kl(r:Vl × Bool)(w:World)(e:Ending)(w':World):Prop:=∃sl,e=.returned (.tuple #[D9 r.1 sl,.bool r.2])/\Dx (fun c=>w.heap.size<=c) w' sl r.1.kids/\Below w w w'
def Yt(r:Vl × Bool)(lost:Bool)(B11:Nat)(w:World)(e:Ending)(w':World):Prop:=∃sl,e=.returned (D9 r.1 sl)/\Dx (fun c=>w.heap.size<=c) w' sl r.1.kids/\w.grownBy w' (some B11)/\w'.cell? (B11,0)=some (.bool (lost || r.2))/\w'.frozen? (B11,0)=false
theorem H6{w w1 w2:World}{row:Option Nat}(h:w.grownBy w1 row)(k:w1.grownBy w2 row):w.grownBy w2 row:=
 ⟨k.os.trans h.os,k.tape.trans h.tape,k.output.trans h.output,ad h.size k.size,fun b hb hne=>(k.block b (ac hb h.size) hne).trans (h.block b hb hne)⟩
theorem Se{w w':World}{b o:Nat}{vs:List Value}(h:w.grownBy w' (some o))(hb:w.heap.size<=b)(off:Nat):w.grownBy (w'.setCells b off vs) (some o):=by
 have hg:=Bk b vs off w';exact⟨hg.os.trans h.os,hg.tape.trans h.tape,hg.output.trans h.output,ad h.size hg.size,fun k hk hne=>(hg.block k (ac hk h.size) bV).trans (h.block k hk hne)⟩
theorem Qcu(w:World)(eb B4 B11:Nat)(hl4:B4<w.heap.size)(hl11:B11<w.heap.size)(c4:w.cell? (B4,0)=eb)(lost:Bool)(c11:w.cell? (B11,0)=some (.bool lost))(f11:w.frozen? (B11,0)=false)(a b:Kd)(x:Vl)(A:Option Addr)(n c:Nat)(r:Vl × Bool)
  (HL:∀W,Below w w W->Calls prog 31 #[eb,D2 a,D2 b,D9 x (.slice A n c)] W (Kl r W)):
  Calls prog 52 #[D2 a,D2 b,D9 x (.slice A n c),B4,B11] w (Yt r lost B11 w):=by
 obtain⟨W4,hW4⟩:∃W4,W4=(((w.alloc (.cells #[a.signs,a.base,a.name] 62)).alloc (.cells #[b.signs,b.base,b.name] 62)).alloc (.cells #[.int .u8 (x.what.toNat:Int),x.text,(x.tag:Int),.slice A n c] 40)).alloc (.cells #[.int .u8 0,a8,.int .i64 0,.slice none 0 0] 40):=⟨_,rfl⟩
 have hb4:Below w w W4:=by rw[hW4];exact((((Aq _ _).alloc (Ap _) _).alloc aL _).alloc aM _).alloc aM _
 have HL4:=Aa (HL W4 hb4);have hz4:W4.heap.size=w.heap.size+4:=by rw[hW4];simp
 have T8:=Aa (show W4.there (w.heap.size+3) 0 4 from by
  have h:=Cc (((w.alloc (.cells #[a.signs,a.base,a.name] 62)).alloc (.cells #[b.signs,b.base,b.name] 62)).alloc (.cells #[.int .u8 (x.what.toNat:Int),x.text,(x.tag:Int),.slice A n c] 40)) [.int .u8 0,a8,.int .i64 0,.slice none 0 0] 40;rw[show ((((w.alloc (.cells #[a.signs,a.base,a.name] 62)).alloc (.cells #[b.signs,b.base,b.name] 62)).alloc (.cells #[.int .u8 (x.what.toNat:Int),x.text,(x.tag:Int),.slice A n c] 40))).heap.size=w.heap.size+3 from by simp]at h;rw[hW4];exact h)
 have Hb4:=Aa hb4;have C4:=Aa ((hb4.cell (p:=⟨B4,0,none⟩) hl4).trans c4);have C11:=Aa ((hb4.cell (p:=⟨B11,0,none⟩) hl11).trans c11);have F11:=Aa ((hb4.frozen (p:=⟨B11,0,none⟩) hl11).trans f11);have c4':=C4.o;rw[hW4]at c4';unfold D2 D9 at HL4 ⊢;clear HL hb4 c4 c11 f11;go_enter func52,ntmps52;go_wp2_with fail;rw[<-hW4];clear hW4 c4';refine HL4.o.mono ?_;rintro e w5 ⟨sl,rfl,hs5,hb5⟩;obtain⟨A5,c5,rfl⟩:=hs5.form;have Hs5:=Aa hs5;have Hb5:=Aa (Hb4.o.trans (hb5.mono Hb4.o.size));have T85:=Aa (Al T8.o aH hb5);have c115:w5.cell? (B11,0)=some (.bool lost):=(hb5.cell (p:=⟨B11,0,none⟩) (show B11<W4.heap.size by omega)).trans C11.o;have f115:w5.frozen? (B11,0)=false:=(hb5.frozen (p:=⟨B11,0,none⟩) (show B11<W4.heap.size by omega)).trans F11.o;have hz5:w.heap.size+4<=w5.heap.size:=by have:=hb5.size;omega
 have hn1:¬(B11=w5.heap.size):=aH;have hn2:B11<w5.heap.size:=aH;have hn3:¬(w5.heap.size=B11):=aH;unfold D9;have Hr:=@Aa (r.1=.mk r.1.what r.1.text r.1.tag r.1.kids) (by cases r.1;rfl);clear hb5 hs5;cases lost with
 |true=>
  have T86:=@Aa (((w5.setCell ⟨B11,0,none⟩ (.bool true)).alloc (.cells #[.int .u8 (r.1.what.toNat:Int),r.1.text,(r.1.tag:Int),.slice A5 r.1.kids.length c5] 40)).there (w.heap.size+3) 0 4) (ar (ai T85.o B11 0 [.bool true]) _);go_wp2_with ((with_reducible refine Ad (op:=⟨none,.store 40 _ _,_,_,_,none⟩) rfl 40 _ _ rfl (w.heap.size+3) 0 [.int .u8 (r.1.what.toNat:Int),r.1.text,(r.1.tag:Int),.slice A5 r.1.kids.length c5] ?_ ?_ ?_ ?_ ?_ ?_);(first|rfl|(simp;done));rfl;(exact T86.o);kernel_rfl;(simp[Value.oneCell']);intro w9 HS9)
  refine aF (v:=.agg ([.int .u8 (r.1.what.toNat:Int),r.1.text,(r.1.tag:Int),.slice A5 r.1.kids.length c5]:List Value).toArray) ?_ rfl ?_
  ·exact jA
  have hg5:w.grownBy w5 (some B11):=B0 Hb5.o _;have hg6:=H6 hg5 (At w5 B11 0 (.bool true));have hal:=(Aq (w5.setCell ⟨B11,0,none⟩ (.bool true)).heap.size (w5.setCell ⟨B11,0,none⟩ (.bool true))).alloc (Ap _) (.cells #[.int .u8 (r.1.what.toNat:Int),r.1.text,(r.1.tag:Int),.slice A5 r.1.kids.length c5] 40);have hg7:=H6 hg6 (B0 hal (some B11));have hg9:w.grownBy w9 (some B11):=by rw[HS9.o];exact Se hg7 aH 0
  refine⟨.slice A5 r.1.kids.length c5,rfl,?_,hg9,?_,?_⟩
  ·have h1:Dx (fun c=>w.heap.size+4<=c) w5 (.slice A5 r.1.kids.length c5) r.1.kids:=Hs5.o.mono fun c hc _=>aH;have h2:=(h1.grown (At w5 B11 0 (.bool true)) (fun c hc e=>by injection e with e;omega)).after hal;have h3:=h2.grown (Bk (w.heap.size+3) [.int .u8 (r.1.what.toNat:Int),r.1.text,(r.1.tag:Int),.slice A5 r.1.kids.length c5] 0 _) (fun c hc e=>by injection e with e;omega);rw[HS9.o];exact h3.mono fun c hc _=>aH
  ·exact j8
  rw[HS9.o,(Bk (w.heap.size+3) [.int .u8 (r.1.what.toNat:Int),r.1.text,(r.1.tag:Int),.slice A5 r.1.kids.length c5] 0 _).frozen_far ⟨B11,0,none⟩ aM aM];simp[go_sem,f115,hn1,hn2]
 |false=>
  have T86:=@Aa (((w5.setCell ⟨B11,0,none⟩ (.bool r.2)).alloc (.cells #[.int .u8 (r.1.what.toNat:Int),r.1.text,(r.1.tag:Int),.slice A5 r.1.kids.length c5] 40)).there (w.heap.size+3) 0 4) (ar (ai T85.o B11 0 [.bool r.2]) _);go_wp2_with ((with_reducible refine Ad (op:=⟨none,.store 40 _ _,_,_,_,none⟩) rfl 40 _ _ rfl (w.heap.size+3) 0 [.int .u8 (r.1.what.toNat:Int),r.1.text,(r.1.tag:Int),.slice A5 r.1.kids.length c5] ?_ ?_ ?_ ?_ ?_ ?_);(first|rfl|(simp;done));rfl;(exact T86.o);kernel_rfl;(simp[Value.oneCell']);intro w9 HS9)
  refine aF (v:=.agg ([.int .u8 (r.1.what.toNat:Int),r.1.text,(r.1.tag:Int),.slice A5 r.1.kids.length c5]:List Value).toArray) ?_ rfl ?_
  ·exact jA
  have hg5:w.grownBy w5 (some B11):=B0 Hb5.o _;have hg6:=H6 hg5 (At w5 B11 0 (.bool r.2));have hal:=(Aq (w5.setCell ⟨B11,0,none⟩ (.bool r.2)).heap.size (w5.setCell ⟨B11,0,none⟩ (.bool r.2))).alloc (Ap _) (.cells #[.int .u8 (r.1.what.toNat:Int),r.1.text,(r.1.tag:Int),.slice A5 r.1.kids.length c5] 40);have hg7:=H6 hg6 (B0 hal (some B11));have hg9:w.grownBy w9 (some B11):=by rw[HS9.o];exact Se hg7 aH 0
  refine⟨.slice A5 r.1.kids.length c5,rfl,?_,hg9,?_,?_⟩
  ·have h1:Dx (fun c=>w.heap.size+4<=c) w5 (.slice A5 r.1.kids.length c5) r.1.kids:=Hs5.o.mono fun c hc _=>aH;have h2:=(h1.grown (At w5 B11 0 (.bool r.2)) (fun c hc e=>by injection e with e;omega)).after hal;have h3:=h2.grown (Bk (w.heap.size+3) [.int .u8 (r.1.what.toNat:Int),r.1.text,(r.1.tag:Int),.slice A5 r.1.kids.length c5] 0 _) (fun c hc e=>by injection e with e;omega);rw[HS9.o];exact h3.mono fun c hc _=>aH
  ·exact j8
  rw[HS9.o,(Bk (w.heap.size+3) [.int .u8 (r.1.what.toNat:Int),r.1.text,(r.1.tag:Int),.slice A5 r.1.kids.length c5] 0 _).frozen_far ⟨B11,0,none⟩ aM aM];simp[go_sem,f115,hn1,hn2]
structure V9(w W7 wr:World)(h0 h1 h2:Value)(l:Bool)(kv:Value)(xs:List (Vl × Value)):Prop where
 bel:Below w w wr
 keep:Below (w.heap.size+5) W7 wr
 st:Rm (w.heap.size+7) (w.heap.size+5) wr h0 h1 h2 kv kv xs
 c6:wr.cell? (w,6,0)=some (.bool l)
 f6:wr.frozen? (w,6,0)=false
section
variable {w W7 wr W W' W1:World} {h0 h1 h2 kv u8 u9 u10:Value} {l l' l8 l9 l10 l12:Bool} {xs:List (Vl × Value)} {r:Vl × Bool} {A:Option Addr} {c:Nat}
theorem V9.after(h:V9 w W7 wr h0 h1 h2 l kv xs)(hb:Below wr wr W):V9 w W7 W h0 h1 h2 l kv xs:=by
 have hlt:w.heap.size+6<wr.heap.size:=h.st.bs;exact⟨h.bel.trans (hb.mono h.bel.size),h.keep.trans (hb.mono aH),h.st.after hb,(hb.cell (p:=⟨w.heap.size+6,0,none⟩) hlt).trans h.c6,(hb.frozen (p:=⟨w.heap.size+6,0,none⟩) hlt).trans h.f6⟩
theorem V9.one(h:V9 w W7 wr h0 h1 h2 l kv xs)(hg:wr.grownBy W (some (w.heap.size+6)))(hc:W.cell? (w,6,0)=some (.bool l'))(hf:W.frozen? (w,6,0)=false):V9 w W7 W h0 h1 h2 l' kv xs:=
 ⟨h.bel.grown hg h.bel.size (fun k e=>by injection e with e;omega),h.keep.grown hg (by have:=h.st.bs;omega) (fun k e=>by injection e with e;omega),h.st.step hg aH aH,hc,hf⟩
structure Ky(w W7 W1:World)(h0 h1 h2:Value)(l:Bool)(A:Option Addr)(c:Nat)(xs:List (Vl × Value))(r:Vl × Bool)(l8 l9 l10 l12:Bool)(u8 u9 u10:Value)(W:World):Prop where
 s0:l8=false->Below W1 W1 W
 s1:l8=true->l9=false->∃sl,u8=D9 r.1 sl/\Dx (fun c=>W1.heap.size<=c) W sl r.1.kids/\V9 w W7 W h0 h1 h2 (l || r.2) (.slice A xs.length c) xs
 s2:l9=true->l10=false->∃W8 sl,W=W8.alloc (.cells (J5 (r.1,sl)).toArray 40)/\u9=.slice (some ⟨W8.heap.size,0,none⟩) 1 1/\Dx (fun c=>W1.heap.size<=c) W8 sl r.1.kids/\V9 w W7 W8 h0 h1 h2 (l || r.2) (.slice A xs.length c) xs
 s3:l10=true->l12=false->∃sl A6 c6,u10=.slice A6 (xs.length+1) c6/\Rm (w.heap.size+7) (w.heap.size+5) W h0 h1 h2 (.slice A xs.length c) u10 (xs++[(r.1,sl)])/\Below w w W/\Below (w.heap.size+5) W7 W/\W.cell? (w,6,0)=some (.bool (l || r.2))/\W.frozen? (w,6,0)=false
 s4:l12=true->∃sl A6 c6,V9 w W7 W h0 h1 h2 (l || r.2) (.slice A6 (xs.length+1) c6) (xs++[(r.1,sl)])
theorem Ky.start:Ky w W7 W1 h0 h1 h2 l A c xs r false false false false u8 u9 u10 W1:=
 ⟨fun _=>Aq _ _,fun h=>Bool.noConfusion h,fun h=>Bool.noConfusion h,fun h=>Bool.noConfusion h,fun h=>Bool.noConfusion h⟩
theorem Ky.c3(h:Ky w W7 W1 h0 h1 h2 l A c xs r l8 l9 l10 l12 u8 u9 u10 W)(hl:V9 w W7 W1 h0 h1 h2 l (.slice A xs.length c) xs)(h10:l10=false):W.cell? (w,5,3)=some (.slice A xs.length c):=by
 cases e8:l8 with
 |false=>exact(hl.after (h.s0 e8)).st.c3
 |true=>
  cases e9:l9 with
  |false=>obtain⟨_,_,_,hL⟩:=h.s1 e8 e9;exact hL.st.c3
  |true=>obtain⟨W8,sl,rfl,_,_,hL⟩:=h.s2 e9 h10;exact(hL.after ((Aq _ _).alloc (Ap _) _)).st.c3
theorem Ky.pre(h:Ky w W7 W1 h0 h1 h2 l A c xs r l8 l9 l10 l12 u8 u9 u10 W)(h8:l8=false)(h9:l9=false)(h10:l10=false)(h12:l12=false)(hb:Below W W W'):Ky w W7 W1 h0 h1 h2 l A c xs r l8 l9 l10 l12 u8 u9 u10 W':=by
 subst h8 h9 h10 h12;exact⟨fun _=>(h.s0 rfl).trans (hb.mono (h.s0 rfl).size),fun h=>Bool.noConfusion h,fun h=>Bool.noConfusion h,fun h=>Bool.noConfusion h,fun h=>Bool.noConfusion h⟩
theorem Ky.put8{sl:Value}(hs0:Below W1 W1 W)(hl:V9 w W7 W1 h0 h1 h2 l (.slice A xs.length c) xs)(h9:l9=false)(h10:l10=false)(h12:l12=false)(hs:Dx (fun c=>W.heap.size<=c) W' sl r.1.kids)(hg:W.grownBy W' (some (w.heap.size+6)))(hc:W'.cell? (w,6,0)=some (.bool (l || r.2)))(hf:W'.frozen? (w,6,0)=false):
  Ky w W7 W1 h0 h1 h2 l A c xs r true l9 l10 l12 (D9 r.1 sl) u9 u10 W':=by
 subst h9 h10 h12;exact⟨fun h=>Bool.noConfusion h,fun _ _=>⟨sl,rfl,hs.mono fun c hc _=>ad hs0.size hc,(hl.after hs0).one hg hc hf⟩,fun h=>Bool.noConfusion h,fun h=>Bool.noConfusion h,fun h=>Bool.noConfusion h⟩
theorem Ky.put9(h:Ky w W7 W1 h0 h1 h2 l A c xs r l8 l9 l10 l12 u8 u9 u10 W)(h8:l8=true)(h9:l9=false)(h10:l10=false)(h12:l12=false):∃sl,u8=D9 r.1 sl/\(∃A n c,sl=.slice A n c) /\
  Ky w W7 W1 h0 h1 h2 l A c xs r l8 true l10 l12 u8 (.slice (W,0) 1 1) u10 (W.alloc (.cells (J5 (r.1,sl)).toArray 40)):=by
 obtain⟨sl,e,hs,hL⟩:=h.s1 h8 h9;subst h10 h12;exact⟨sl,e,by obtain⟨A,c,e⟩:=hs.form;exact⟨A,_,c,e⟩,fun h=>absurd (h8.symm.trans h) aK,fun _ h=>Bool.noConfusion h,fun _ _=>⟨W,sl,rfl,rfl,hs,hL⟩,fun h=>Bool.noConfusion h,fun h=>Bool.noConfusion h⟩
theorem Ky.put10{W8:World}{sl v:Value}(hL:V9 w W7 W8 h0 h1 h2 (l || r.2) (.slice A xs.length c) xs)(hl:V9 w W7 W1 h0 h1 h2 l (.slice A xs.length c) xs)(hs:Dx (fun c=>W1.heap.size<=c) W8 sl r.1.kids)(h8:l8=true)(h9:l9=true)(h12:l12=false)
  (hown:W.ownsRow (w.heap.size+7) 40 4 v (xs.length+1) (xs.flatMap J5++J5 (r.1,sl))) (hg:W8.grownBy W (Value.slice A xs.length c).ownBlock) (hwh:v.ownBlock=(Value.slice A xs.length c).ownBlock\/∃k,v.ownBlock=some k/\W8.heap.size<=k):
  Ky w W7 W1 h0 h1 h2 l A c xs r l8 l9 true l12 u8 u9 v W/\∃A6 c6,v=.slice A6 (xs.length+1) c6:=by
 have hk:Dx (fun c1=>w.heap.size+7<=c1/\(Value.slice A xs.length c).ownBlock≠some c1) W8 sl r.1.kids:=hs.mono fun c1 hc _=>⟨ad hl.st.bs hc,fun e=>by have:=(hl.st.row.lt c1 e).2;omega⟩
 have hK:=hL.st.app (x:=(r.1,sl)) hk hown hg hwh;have hv:∃A6 c6,v=.slice A6 (xs.length+1) c6:=by
  rcases hown.2 with⟨_,e0⟩|⟨g,cap,cur,e,_⟩
  ·omega
  exact⟨_,cap,e⟩
 obtain⟨A6,c6,e6⟩:=hv;have hlo:∀k,(Value.slice A xs.length c).ownBlock=some k->w.heap.size+7<=k:=fun k e=>(hL.st.row.lt k e).1;have hne:some (w.heap.size+6)≠(Value.slice A xs.length c).ownBlock:=fun e=>by have:=hlo _ e.symm;omega
 subst h12;exact⟨⟨fun h=>absurd (h8.symm.trans h) aK,fun _ h=>absurd (h9.symm.trans h) aK,fun _ h=>Bool.noConfusion h,fun _ _=>⟨sl,A6,c6,e6,hK,hL.bel.grown hg hL.bel.size (fun k e=>by have:=hlo k e;omega),hL.keep.grown hg (by have:=hL.st.bs;omega) (fun k e=>by have:=hlo k e;omega),hg.cell hL.c6 hne,(hg.frozen_far ⟨w.heap.size+6,0,none⟩ (show w.heap.size+6<W8.heap.size from hL.st.bs) hne).trans hL.f6⟩,fun h=>Bool.noConfusion h⟩,A6,c6,e6⟩
theorem Ky.put12(h:Ky w W7 W1 h0 h1 h2 l A c xs r l8 l9 l10 l12 u8 u9 u10 W)(h8:l8=true)(h9:l9=true)(h10:l10=true)(h12:l12=false)(hW:W'=W.setCell ⟨w.heap.size+5,3,none⟩ u10):Ky w W7 W1 h0 h1 h2 l A c xs r l8 l9 l10 true u8 u9 u10 W':=by
 subst hW;obtain⟨sl,A6,c6,e6,hK,hb,hk,hc,hf⟩:=h.s3 h10 h12;have hg:=At W (w.heap.size+5) 3 u10;have hS:=hK.store;rw[e6]at hS hg ⊢;have hlt:w.heap.size+6<W.heap.size:=hK.bs;exact⟨fun h=>absurd (h8.symm.trans h) aK,fun _ h=>absurd (h9.symm.trans h) aK,fun _ h=>absurd (h10.symm.trans h) aK,fun _ h=>Bool.noConfusion h,fun _=>⟨sl,A6,c6,hb.setCell (p:=⟨w.heap.size+5,3,none⟩) (show w.heap.size<=w.heap.size+5 by omega) _,hk.setCell (p:=⟨w.heap.size+5,3,none⟩) (Ap (w.heap.size+5)) _,hS,hg.cell hc aL,(hg.frozen_far ⟨w.heap.size+6,0,none⟩ hlt aL).trans hf⟩⟩
end
section
attribute [local go_sem] Qiz Qii Qib Qgw ByteArray.mk_append_mk
structure EvW(W:World)(eb:Nat)(p1 p2:Value)(xs ys:List PT):Prop where
 lt:eb<W.heap.size
 c0:W.cell? (eb,0)=some p1
 c1:W.cell? (eb,1)=some p2
 s1:Q9 W p1 xs
 s2:Q9 W p2 ys
theorem EvW.after{W W':World}{eb:Nat}{p1 p2:Value}{xs ys:List PT}(h:EvW W eb p1 p2 xs ys)(hb:Below W W W'):EvW W' eb p1 p2 xs ys:=
 ⟨ac h.lt hb.size,(hb.cell (p:=⟨eb,0,none⟩) h.lt).trans h.c0,(hb.cell (p:=⟨eb,1,none⟩) h.lt).trans h.c1,h.s1.below hb,h.s2.below hb⟩
structure LkT(w:World)(eb:Nat)(an bn:List UInt8)(xb yb pb1 mb1 pb2 mb2:Nat):Prop where
 le:eb<w.heap.size
 l1:pb1<w.heap.size
 l2:pb2<w.heap.size
 e0:w.cell? (eb,0)=pb1
 e1:w.cell? (eb,1)=pb2
 m1:w.cell? (pb1,1)=some (.map (some mb1))
 m2:w.cell? (pb2,1)=some (.map (some mb2))
 k1:∀W,Below w w W->(Instr.lookup 120 (.map (some mb1)) an false).run prog W=.ok xb W
 k2:∀W,Below w w W->(Instr.lookup 120 (.map (some mb2)) bn false).run prog W=.ok yb W
theorem Qh8{w:World}{eb:Nat}{p1 p2:Value}{xs ys:List PT}(h:EvW w eb p1 p2 xs ys){an bn:List UInt8}{x y:PT}(hx:Ef xs an=some x)(hy:Ef ys bn=some y)(ha:an.length<=1000)(hb:bn.length<=1000):∃pb1 mb1 pb2 mb2,p1=.pointer (some ⟨pb1,0,none⟩)/\p2=.pointer (some ⟨pb2,0,none⟩)/\LkT w eb an bn x.blk y.blk pb1 mb1 pb2 mb2:=by
 obtain⟨pb1,_,_,mb1,e1,q0,_,q2,_,q4,_,_⟩:=h.s1;obtain⟨pb2,_,_,mb2,e2,s0,_,s2,_,s4,_,_⟩:=h.s2;refine⟨pb1,mb1,pb2,mb2,e1,e2,h.lt,q0,s0,h.c0.trans (by rw[e1]),h.c1.trans (by rw[e2]),q2,s2,fun W hW=>?_,fun W hW=>?_⟩
 ·have:=Ey (Dd.below q4 hW) an aH;rw[hx]at this;exact this
 have:=Ey (Dd.below s4 hW) bn aH;rw[hy]at this;exact this
structure LiH(w W7:World)(eb:Nat)(a b:Kd)(vv:Vl)(A2:Option Addr)(n2 c2:Nat):Prop where
 sz:W7.heap.size=w.heap.size+7
 T:W7.there (w.heap.size+4) 0 4
 e0:W7.cell? (w,0)=eb
 a0:W7.cell? (w,1,0)=a.signs
 a1:W7.cell? (w,1,1)=a.base
 a2:W7.cell? (w,1,2)=a.name
 b2:W7.cell? (w,2,2)=b.name
 v0:W7.cell? (w,3,0)=some (.int .u8 (vv.what.toNat:Int))
 v1:W7.cell? (w,3,1)=vv.text
 v2:W7.cell? (w,3,2)=(vv.tag:Int)
 v3:W7.cell? (w,3,3)=some (.slice A2 n2 c2)
 st:V9 w W7 W7 (.int .u8 (vv.what.toNat:Int)) vv.text (vv.tag:Int) false (.slice none 0 0) []
theorem Te(w W7:World)(eb:Nat)(a b:Kd)(vv:Vl)(A2:Option Addr)(n2 c2:Nat)(h:W7=(((((((w.alloc (.cells #[eb] 60)).alloc (.cells #[a.signs,a.base,a.name] 62)).alloc (.cells #[.string ⟨b.signs.toArray⟩,.string ⟨b.base.toArray⟩,.string ⟨b.name.toArray⟩] 62)).alloc (.cells #[.int .u8 (vv.what.toNat:Int),vv.text,(vv.tag:Int),.slice A2 n2 c2] 40)).alloc (.cells #[.int .u8 0,a8,.int .i64 0,.slice none 0 0] 40)).alloc (.cells #[.int .u8 (vv.what.toNat:Int),vv.text,(vv.tag:Int),.slice none 0 0] 40)).alloc (.cells #[.bool false] 4))):LiH w W7 eb a b vv A2 n2 c2:=by
 obtain⟨W5,hW5⟩:∃W5,W5=((((w.alloc (.cells #[eb] 60)).alloc (.cells #[a.signs,a.base,a.name] 62)).alloc (.cells #[.string ⟨b.signs.toArray⟩,.string ⟨b.base.toArray⟩,.string ⟨b.name.toArray⟩] 62)).alloc (.cells #[.int .u8 (vv.what.toNat:Int),vv.text,(vv.tag:Int),.slice A2 n2 c2] 40)).alloc (.cells #[.int .u8 0,a8,.int .i64 0,.slice none 0 0] 40):=⟨_,rfl⟩
 obtain⟨W6,hW6⟩:∃W6,W6=W5.alloc (.cells #[.int .u8 (vv.what.toNat:Int),vv.text,(vv.tag:Int),.slice none 0 0] 40):=⟨_,rfl⟩
 have hW7:W7=W6.alloc (.cells #[.bool false] 4):=by rw[h,hW6,hW5]
 clear h;have hz5:W5.heap.size=w.heap.size+5:=fx;have hz6:W6.heap.size=w.heap.size+6:=by rw[hW6];simp;omega
 have hz7:W7.heap.size=w.heap.size+7:=by rw[hW7];simp;omega
 have hb5:Below w w W5:=gS;have hb56:Below W5 W5 W6:=ez;have hb67:Below W6 W6 W7:=gn;have hc57:∀b o,b<w.heap.size+5->W7.cell? ⟨b,o,none⟩=W5.cell? ⟨b,o,none⟩:=fun b o hb=>(hb67.cell (p:=⟨b,o,none⟩) (show b<W6.heap.size by omega)).trans (hb56.cell (p:=⟨b,o,none⟩) (show b<W5.heap.size by omega));have hT:W5.there (w.heap.size+4) 0 4:=by
  have h:=Cc ((((w.alloc (.cells #[eb] 60)).alloc (.cells #[a.signs,a.base,a.name] 62)).alloc (.cells #[.string ⟨b.signs.toArray⟩,.string ⟨b.base.toArray⟩,.string ⟨b.name.toArray⟩] 62)).alloc (.cells #[.int .u8 (vv.what.toNat:Int),vv.text,(vv.tag:Int),.slice A2 n2 c2] 40)) [.int .u8 0,a8,.int .i64 0,.slice none 0 0] 40;rw[<-hW5]at h;simpa using h
 refine⟨hz7,Al (Al hT aH hb56) aH hb67,?_,?_,?_,?_,?_,?_,?_,?_,?_,?_⟩;iterate 9
  ·rw[hc57 _ _ aH,hW5];go_simp
 have hB:Pf W6 (w.heap.size+5):=by rw[hW6,<-hz5];exact Pf.new _ _ _
 have hc:∀o u,(#[.int .u8 (vv.what.toNat:Int),vv.text,(vv.tag:Int),.slice none 0 0]:Array Value)[o]?=some u->W7.cell? ⟨w.heap.size+5,o,none⟩=some u:=fun o u hu=>by
  rw[hb67.cell (p:=⟨w.heap.size+5,o,none⟩) (show w.heap.size+5<W6.heap.size by omega),hW6,<-hz5,World.cell?_alloc_new];exact hu
 refine⟨(hb5.trans (hb56.mono aH)).trans (hb67.mono aH),Aq _ _,⟨by omega,by omega,by omega,hB.belowAt aH hb67,hc 0 _ rfl,hc 1 _ rfl,hc 2 _ rfl,hc 3 _ rfl,World.ownsRow_nil _ _ _ _,by simp⟩,?_,?_⟩
 ·rw[hW7,<-hz6];simp[World.cell?_alloc_new]
 rw[hW7,<-hz6];simp[go_sem]
theorem Qc8(P:Nat->Prop)(w:World)(A:Option Addr)(c:Nat):Dx P w (.slice A 0 c) []:=
 .mk A c [] rfl rfl aL ⟨rfl,ag _,fun h=>absurd h aL⟩ (fun _ _ h=>absurd h aL) aL
theorem Ve(w:World)(eb:Nat)(a b:Kd)(hs:a.signs=[])(hb:a.base≠[64])(vv:Vl)(hk:vv.kids=[])(A2:Option Addr)(c2:Nat):
  Calls prog 31 #[eb,D2 a,D2 b,D9 vv (.slice A2 0 c2)] w (Kl (vv,false) w):=by
 obtain⟨n2,hn2⟩:∃n2,n2=0:=⟨_,rfl⟩
 have Hs:=Aa hs;have Hb:=Aa hb;have Hk:=Aa hk;clear hs hb hk;obtain⟨W7,hW7⟩:∃W7,W7=(((((((w.alloc (.cells #[eb] 60)).alloc (.cells #[a.signs,a.base,a.name] 62)).alloc (.cells #[b.signs,b.base,b.name] 62)).alloc (.cells #[.int .u8 (vv.what.toNat:Int),vv.text,(vv.tag:Int),.slice A2 n2 c2] 40)).alloc (.cells #[.int .u8 0,a8,.int .i64 0,.slice none 0 0] 40)).alloc (.cells #[.int .u8 (vv.what.toNat:Int),vv.text,(vv.tag:Int),.slice none 0 0] 40)).alloc (.cells #[.bool false] 4)):=⟨_,rfl⟩
 have HH:=Aa (Te w W7 eb a b vv A2 n2 c2 hW7);unfold D2 D9;go_enter func31,ntmps31;go_upto_region 4 with fail
 subst hn2;rw[<-hW7];clear hW7;have e1:=HH.o.a0;have e2:=HH.o.a1;have e3:=HH.o.v0;have e4:=HH.o.v1;have e5:=HH.o.v2;have e6:=HH.o.v3;have t1:a.signs.isEmpty=true:=fY;have t2:(a.base == [64])=false:=by simpa using Hb.o
 have HT:=Aa HH.o.T;rw[Hs.o]at e1;go_wp2_with ((with_reducible refine Ad (op:=⟨none,.store 40 _ _,_,_,_,none⟩) rfl 40 _ _ rfl (w.heap.size+4) 0 [.int .u8 (vv.what.toNat:Int),vv.text,(vv.tag:Int),.slice A2 0 c2] ?_ ?_ ?_ ?_ ?_ ?_);(first|rfl|(simp;done));rfl;(exact HT.o);kernel_rfl;(simp[Value.oneCell']);intro w9 HS9)
 refine aF (v:=.tuple #[.agg ([.int .u8 (vv.what.toNat:Int),vv.text,(vv.tag:Int),.slice A2 0 c2]:List Value).toArray,.bool false]) ?_ rfl ?_
 ·exact Ao results31 _ _ (w.heap.size+4) [.int .u8 (vv.what.toNat:Int),vv.text,(vv.tag:Int),.slice A2 0 c2] _ _ rfl rfl (by rw[HS9.o];exact aa _ _ _ _ HT.o) underlying40 rfl aO
 refine⟨.slice A2 0 c2,rfl,by rw[Hk.o];exact Qc8 _ _ _ _,?_⟩;rw[HS9.o];exact Ag _ aH _ _ _ HH.o.st.bel
theorem Qf8(w:World)(eb:Nat)(a b:Kd)(hs:a.signs=[])(hb:a.base=[64])(vv:Vl)(hw85:vv.what≠85)(hw82:vv.what≠82)(hk:vv.kids=[])(A2:Option Addr)(c2:Nat)(xb yb pb1 mb1 pb2 mb2:Nat)(hlk:LkT w eb a.name b.name xb yb pb1 mb1 pb2 mb2):
  Calls prog 31 #[eb,D2 a,D2 b,D9 vv (.slice A2 0 c2)] w (Kl (vv,false) w):=by
 obtain⟨n2,hn2⟩:∃n2,n2=0:=⟨_,rfl⟩
 have Hs:=Aa hs;have Hb:=Aa hb;have Hk:=Aa hk;clear hs hb hk;have t85:((vv.what.toNat:Int) == 85)=false:=by have:=Am hw85;simpa using this
 have t82:((vv.what.toNat:Int) == 82)=false:=by have:=Am hw82;simpa using this
 have HLk:=Aa hlk;have ht:vv.text=vv.text:=rfl;clear hw85 hw82 hlk;obtain⟨W7,hW7⟩:∃W7,W7=(((((((w.alloc (.cells #[eb] 60)).alloc (.cells #[a.signs,a.base,a.name] 62)).alloc (.cells #[b.signs,b.base,b.name] 62)).alloc (.cells #[.int .u8 (vv.what.toNat:Int),vv.text,(vv.tag:Int),.slice A2 n2 c2] 40)).alloc (.cells #[.int .u8 0,a8,.int .i64 0,.slice none 0 0] 40)).alloc (.cells #[.int .u8 (vv.what.toNat:Int),vv.text,(vv.tag:Int),.slice none 0 0] 40)).alloc (.cells #[.bool false] 4)):=⟨_,rfl⟩
 have HH:=Aa (Te w W7 eb a b vv A2 n2 c2 hW7);unfold D2 D9;go_enter func31,ntmps31;go_upto_region 4 with fail
 subst hn2;rw[<-hW7];clear hW7;have e1:=HH.o.a0;have e2:=HH.o.a1;have e3:=HH.o.v0;have t1:a.signs.isEmpty=true:=fY;rw[Hs.o]at e1;rw[Hb.o]at e2;go_upto_region 13 with fail
 refine Ge [58,59,60,61,62,63,64,65,66,67,68,69,70,71,72,73,74,75,76,77,15,16]
  (fun ix v W=>match ix with|0=>v=eb|1=>v=eb|2=>v=eb|3=>v=pb1|4=>v=pb1|5=>v=(pb1,1)|6=>v=.map (some mb1)|7=>v=(w,1,2)|8=>v=a.name|9=>v=xb|10=>v=eb|11=>v=eb|12=>v=(eb,1)|13=>v=pb2|14=>v=pb2|15=>v=(pb2,1)|16=>v=.map (some mb2)|17=>v=(w,2,2)|18=>v=b.name|19=>v=yb|20=>v=xb|21=>v=yb|_=>True)
  (fun L U W=>W=W7.drew) (rfl) ?_ ?_
 ·exact ia
 rintro L U W hL hφ hR;have e20:U 20=xb:=hφ 20 aK;have e21:U 21=yb:=hφ 21 aK;simp only[e20,e21];clear hφ;subst hR;clear hL;have e5:=HH.o.v0;go_wp2_with fail;have HL:=Aa (HH.o.st.after (Aq _ _).drew);have HT:=Aa (Al HH.o.T (show w.heap.size+4<w.heap.size+5 by omega) HL.o.keep.drew);refine Ge [156,157,999,9]
  (fun ix v W=>match ix with|0=>v=.agg #[.int .u8 (vv.what.toNat:Int),vv.text,(vv.tag:Int),.slice none 0 0]|1=>v=.bool false|3=>v=.bool false|_=>True)
  (fun L U W=>(L 2=false->W=W7.drew.drew)/\(L 2=true->W=W7.drew.drew.setCells (w.heap.size+4) 0 [.int .u8 (vv.what.toNat:Int),vv.text,(vv.tag:Int),.slice none 0 0])) (⟨fun _=>rfl,fun h=>Bool.noConfusion h⟩) ?_ ?_
 ·repeat (first|exact Ah.nil|(refine Ah.cons ?_ ?_;rotate_left))
  all_goals
   rintro L U W hL hpre HR Hdep K hK;first|(simp[Region.binds]at hpre;done)|simp[Region.binds]at hpre|clear hpre
  ·exact iC
  ·have x6:W.cell? (w,6,0)=some (.bool false):=by
    cases e2:L 2 with
    |false=>rw[HR.o.1 e2];exact HL.o.c6
    |true=>
     rw[HR.o.2 e2,(Bk (w.heap.size+4) _ 0 _).cell_far ⟨w.heap.size+6,0,none⟩ fO aL];exact HL.o.c6
   go_simp;first|exact hK _ _ _ rfl Ac HR.o rfl|exact kF hK HR.o
  ·have hW:=HR.o.1 hL;subst hW;have u0:U 0=.agg #[.int .u8 (vv.what.toNat:Int),vv.text,(vv.tag:Int),.slice none 0 0]:=cC;rw[if_pos cD];refine wp_store_mid 40 _ _ rfl (w.heap.size+4) 0 ([.int .u8 (vv.what.toNat:Int),vv.text,(vv.tag:Int),.slice none 0 0]:List Value).toArray rfl u0 HT.o aO bj ?_;exact hK undef _ _ Ac Ac ⟨fun h=>by simp at h,fun _=>rfl⟩ rfl
  ·exact hG
 rintro L U W hL hφ hR;have hW:=hR.2 (hL 2 aK);have u3:U 3=.bool false:=hφ 3 aK;simp only[u3];clear hR hL hφ u3;subst hW;go_wp2_with fail;refine aF (v:=.tuple #[.agg ([.int .u8 (vv.what.toNat:Int),vv.text,(vv.tag:Int),.slice none 0 0]:List Value).toArray,.bool false]) ?_ rfl ?_
 ·exact Ao results31 _ _ (w.heap.size+4) [.int .u8 (vv.what.toNat:Int),vv.text,(vv.tag:Int),.slice none 0 0] _ _ rfl rfl (aa _ _ _ _ HT.o) underlying40 rfl aO
 refine⟨.slice none 0 0,rfl,by rw[Hk.o];exact Qc8 _ _ _ _,?_⟩;exact Ag _ aH _ _ _ HL.o.bel.drew
theorem S9(w0:World)(x:PT)(hx:Px w0 x)(n:Nat)(hn:n<=1000000000)(f:Fd)(hf:Au x.ty.fields n=some f):∃b o,b<w0.heap.size/\w0.rangeAt b o (Qz f)/\∀W,Below w0 w0 W ->
  Calls prog 54 #[x.blk,.int .i64 n] W fun e w'=>e=.returned (.pointer (some ⟨b,o,none⟩))/\W=w':=by
 obtain⟨z0,_,_,_,z3,_,A,c,hfv,hl,hr⟩:=hx;rw[hfv]at z3;unfold Au at hf;obtain⟨hp,j,hj,hfj,hlt⟩:=List.find?_eq_some_iff_getElem.1 hf;obtain⟨b,off,rfl,hbl,hrg⟩:=Pv.range hr hj;rw[hfj]at hrg;refine⟨b,off+j*6,hbl,hrg,fun W hW=>?_⟩;have c2:W.cell? (x.blk,2)=some (.slice (some ⟨b,off,none⟩) x.ty.fields.length c):=(hW.cell (p:=⟨x.blk,2,none⟩) z0).trans z3;have Hr:=Aa hr;have Hb:=Aa hW;have Hlt:=Aa hlt;have Htag:=@Aa (f.tag=n) du;have Hfj:=Aa hfj;clear hr hfv z3 hW hlt hp hfj hf hrg;go_enter func54,ntmps54;go_wp2_with fail;go_loop [11] (fun i=>∃k:Nat,i=.int .i64 k/\k<=j) (fun i=>x.ty.fields.length - (intOf i).toNat)
 case atStart=>exact⟨0,rfl,ag _⟩
 case round=>
  obtain⟨k,rfl,hk⟩:=hrel;have hkl:k<x.ty.fields.length:=aH;obtain⟨b',off',e',hbl',hrg'⟩:=Pv.range Hr.o hkl;injection e' with e';injection e' with e1 e2;subst e1 e2;have c0:W.cell? ⟨b,off+k*6,none⟩=some (.int .i64 ((x.ty.fields[k]).tag:Int)):=by simpa using Ab (Aj hrg' hbl' Hb.o) 0 rfl
  have k1:(0:Int)<=(k:Int):=aH;have k2:(k:Int)<(x.ty.fields.length:Int):=aH;clear hrg';by_cases he:k=j
  ·subst he;rw[Hfj.o,Htag.o]at c0;have t1:((n:Int) == (n:Int))=true:=aL;go_wp2_with fail;go_ret;exact⟨rfl,rfl⟩
  ·have hne:(x.ty.fields[k]).tag≠n:=by have:=Hlt.o k aH;simpa using this
   have t1:(((x.ty.fields[k]).tag:Int) == (n:Int))=false:=cb;generalize (x.ty.fields[k]).tag=tk at *;clear hne;go_wp2_with fail;go_round
   case rel=>exact⟨k+1,by go_num,by omega⟩
   case measure=>simp[intOf];omega
theorem Rm.single{base B:Nat}{W:World}{h0 h1 h2:Value}(h:Rm base B W h0 h1 h2 (.slice none 0 0) (.slice none 0 0) []){y:Vl}{sl:Value}(hs:Dx (fun c=>base<=c) W sl y.kids):
  Rm base B (W.alloc (.cells (J5 (y,sl)).toArray 40)) h0 h1 h2 (.slice none 0 0) (.slice (W,0) 1 1) [(y,sl)]:=by
 have hb:=(Aq W.heap.size W).alloc (Ap _) (.cells (J5 (y,sl)).toArray 40);have h2:=h.after hb;refine⟨h2.lt,h2.bs,h2.hB,h2.bk,h2.c0,h2.c1,h2.c2,h2.c3,⟨rfl,.inr ⟨W.heap.size,1,(J5 (y,sl)).toArray,rfl,h.bs,heap_alloc_new _ _,Ap _,by unfold maxLen;omega,rfl,rfl⟩⟩,fun x hx=>?_⟩;simp at hx;subst hx;exact(hs.mono (Q:=fun c=>base<=c/\(Value.slice (W,0) 1 1).ownBlock≠some c) fun c hc hl=>⟨hc,by simp[Value.ownBlock];omega⟩).after hb
structure Sg(w W7 W1:World)(h0 h1 h2:Value)(r:Vl × Bool)(l19 l20 l22:Bool)(u19 u20:Value)(W:World):Prop where
 s0:l19=false->W=W1
 s1:l19=true->l20=false->∃sl,u19=D9 r.1 sl/\Dx (fun c=>W1.heap.size<=c) W sl r.1.kids/\V9 w W7 W h0 h1 h2 r.2 (.slice none 0 0) []
 s2:l20=true->l22=false->∃W8 sl,W=W8.alloc (.cells (J5 (r.1,sl)).toArray 40)/\u20=.slice (some ⟨W8.heap.size,0,none⟩) 1 1/\Dx (fun c=>W1.heap.size<=c) W8 sl r.1.kids/\V9 w W7 W8 h0 h1 h2 r.2 (.slice none 0 0) []
 s3:l22=true->∃g sl,V9 w W7 W h0 h1 h2 r.2 (.slice (some ⟨g,0,none⟩) 1 1) [(r.1,sl)]
section
variable {w W7 W W' W1:World} {h0 h1 h2 u19 u20:Value} {l19 l20 l22:Bool} {r:Vl × Bool}
theorem Sg.start:Sg w W7 W1 h0 h1 h2 r false false false u19 u20 W1:=⟨fun _=>rfl,fun h=>Bool.noConfusion h,fun h=>Bool.noConfusion h,fun h=>Bool.noConfusion h⟩
theorem Sg.put19{sl:Value}(hl:V9 w W7 W1 h0 h1 h2 false (.slice none 0 0) [])(h20:l20=false)(h22:l22=false)(hs:Dx (fun c=>W1.heap.size<=c) W sl r.1.kids)(hg:W1.grownBy W (some (w.heap.size+6)))(hc:W.cell? (w,6,0)=some (.bool (false || r.2)))(hf:W.frozen? (w,6,0)=false):
  Sg w W7 W1 h0 h1 h2 r true l20 l22 (D9 r.1 sl) u20 W:=by
 subst h20 h22;exact⟨fun h=>Bool.noConfusion h,fun _ _=>⟨sl,rfl,hs,hl.one hg (by simpa using hc) hf⟩,fun h=>Bool.noConfusion h,fun h=>Bool.noConfusion h⟩
theorem Sg.put20(h:Sg w W7 W1 h0 h1 h2 r l19 l20 l22 u19 u20 W)(h19:l19=true)(h20:l20=false)(h22:l22=false):∃sl,u19=D9 r.1 sl/\(∃A n c,sl=.slice A n c) /\
  Sg w W7 W1 h0 h1 h2 r l19 true l22 u19 (.slice (W,0) 1 1) (W.alloc (.cells (J5 (r.1,sl)).toArray 40)):=by
 obtain⟨sl,e,hs,hL⟩:=h.s1 h19 h20;subst h22;exact⟨sl,e,by obtain⟨A,c,e⟩:=hs.form;exact⟨A,_,c,e⟩,fun h=>absurd (h19.symm.trans h) aK,fun _ h=>Bool.noConfusion h,fun _ _=>⟨W,sl,rfl,rfl,hs,hL⟩,fun h=>Bool.noConfusion h⟩
theorem Sg.put22(h:Sg w W7 W1 h0 h1 h2 r l19 l20 l22 u19 u20 W)(hb1:w.heap.size+7<=W1.heap.size)(h19:l19=true)(h20:l20=true)(h22:l22=false)(hW:W'=W.setCell ⟨w.heap.size+5,3,none⟩ u20):Sg w W7 W1 h0 h1 h2 r l19 l20 true u19 u20 W':=by
 subst hW;obtain⟨W8,sl,rfl,eu,hs,hL⟩:=h.s2 h20 h22;have hb8:=(Aq W8.heap.size W8).alloc (Ap _) (.cells (J5 (r.1,sl)).toArray 40);have hK:=(hL.st.single (hs.mono fun c hc _=>ad hb1 hc)).store;have hL2:=hL.after hb8;have hlt:w.heap.size+6<W8.heap.size:=hL.st.bs;have hg:=At (W8.alloc (.cells (J5 (r.1,sl)).toArray 40)) (w.heap.size+5) 3 u20;rw[<-eu]at hK;refine⟨fun h=>absurd (h19.symm.trans h) aK,fun _ h=>absurd (h20.symm.trans h) aK,fun _ h=>Bool.noConfusion h,fun _=>⟨W8.heap.size,sl,hL2.bel.setCell (p:=⟨w.heap.size+5,3,none⟩) (show w.heap.size<=w.heap.size+5 by omega) _,hL2.keep.setCell (p:=⟨w.heap.size+5,3,none⟩) (Ap (w.heap.size+5)) _,eu ▸ hK,hg.cell hL2.c6 aL,(hg.frozen_far ⟨w.heap.size+6,0,none⟩ aM aL).trans hL2.f6⟩⟩
end
theorem Qfg(P:Nat->Prop)(w:World)(eb:Nat)(a b:Kd)(hs:a.signs=[])(hb:a.base=[64])(vv x:Vl)(hw85:vv.what=85)(hk:vv.kids=[x])(A2:Option Addr)(c2:Nat)(hiv:Dx P w (.slice A2 1 c2) [x])(xp yp:PT)(pb1 mb1 pb2 mb2:Nat)(hlk:LkT w eb a.name b.name xp.blk yp.blk pb1 mb1 pb2 mb2)
  (hxp:Px w xp) (hyp:Px w yp) (f g:Fd) (htag:vv.tag<=1000000000) (hf:Au xp.ty.fields vv.tag=some f) (hg:Au yp.ty.fields vv.tag=some g) (r:Vl × Bool)
  (HC0:∀W A n c,Below w.heap.size w W->Dx P W (.slice A n c) x.kids->Calls prog 31 #[.pointer (some ⟨eb,0,none⟩),D2 f.kind,D2 g.kind,D9 x (.slice A n c)] W (Kl r W)):
  Calls prog 31 #[.pointer (some ⟨eb,0,none⟩),D2 a,D2 b,D9 vv (.slice A2 1 c2)] w (Kl (.mk vv.what vv.text vv.tag [r.1],r.2) w):=by
 obtain⟨n2,hn2⟩:∃n2,n2=1:=⟨_,rfl⟩
 have Hs:=Aa hs;have Hb:=Aa hb;have HLk:=Aa hlk;have T85:=@Aa (((vv.what.toNat:Int) == 85)=true) (by rw[hw85];rfl);obtain⟨fb,fo,hfl,hfr,hfc⟩:=S9 w xp hxp vv.tag htag f hf;obtain⟨gb,go,hgl,hgr,hgc⟩:=S9 w yp hyp vv.tag htag g hg;have Hfr:=Aa hfr;have Hfc:=Aa hfc;have Hgr:=Aa hgr;have Hgc:=Aa hgc;obtain⟨A',c',ks,hv,hkk,hl,hr,hP,hks⟩:=hiv;injection hv with hv1 hv2 hv3;subst hv1 hv3;obtain⟨⟨x',sx⟩,rfl⟩:=List.length_eq_one_iff.1 hv2.symm;clear hv2;have hx0:x'=x:=by simp[A0]at hkk;exact hkk.symm
 subst hx0;have hsx:=hks _ (aq.2 rfl);obtain⟨B2,o3,rfl,hBl,x0,x1,x2,x3⟩:=Dx.at_ (i:=0) hr aL;simp only[Nat.zero_mul,Nat.add_zero,List.getElem_cons_zero]at x0 x1 x2 x3 hsx;obtain⟨A9,c9,rfl⟩:=hsx.form;have X0:=Aa x0;have X1:=Aa x1;have X2:=Aa x2;have X3:=Aa x3;have Hsx:=Aa hsx;have HC9:=Aa HC0;clear HC0;clear hs hb hk hlk hw85 hf hg hfr hfc hgr hgc hkk hl hr hP hks hxp hyp x0 x1 x2 x3 hsx;obtain⟨W7,hW7⟩:∃W7,W7=(((((((w.alloc (.cells #[.pointer (some ⟨eb,0,none⟩)] 60)).alloc (.cells #[.string ⟨a.signs.toArray⟩,.string ⟨a.base.toArray⟩,.string ⟨a.name.toArray⟩] 62)).alloc (.cells #[.string ⟨b.signs.toArray⟩,.string ⟨b.base.toArray⟩,.string ⟨b.name.toArray⟩] 62)).alloc (.cells #[.int .u8 (vv.what.toNat:Int),.string ⟨vv.text.toArray⟩,.int .i64 (vv.tag:Int),.slice (some ⟨B2,o3,none⟩) n2 c2] 40)).alloc (.cells #[.int .u8 0,.string ⟨#[]⟩,.int .i64 0,.slice none 0 0] 40)).alloc (.cells #[.int .u8 (vv.what.toNat:Int),.string ⟨vv.text.toArray⟩,.int .i64 (vv.tag:Int),.slice none 0 0] 40)).alloc (.cells #[.bool false] 4)):=⟨_,rfl⟩
 have HH:=Aa (Te w W7 eb a b vv (some ⟨B2,o3,none⟩) n2 c2 hW7);unfold D2 D9;go_enter func31,ntmps31;go_upto_region 4 with fail
 subst hn2;rw[<-hW7];clear hW7;have e1:=HH.o.a0;have e2:=HH.o.a1;have t1:a.signs.isEmpty=true:=fY;rw[Hs.o]at e1;rw[Hb.o]at e2;have hbw:=HH.o.st.bel
 have HC:=Aa (show Calls prog 52 #[D2 f.kind,D2 g.kind,D9 x' (.slice A9 x'.kids.length c9),.pointer (some ⟨w.heap.size,0,none⟩),.pointer (some ⟨w.heap.size+6,0,none⟩)] W7.drew.drew (Yt r false (w.heap.size+6) W7.drew.drew)from by
  have hL:=HH.o.st.after ((Aq W7.heap.size W7).drew.drew);exact Qcu W7.drew.drew eb w.heap.size (w.heap.size+6) (by have:=HH.o.sz;simp;omega) (by have:=HH.o.sz;simp;omega) HH.o.e0 false hL.c6 hL.f6 f.kind g.kind x' A9 _ c9 r fun W' hW'=>HC9.o W' A9 _ c9 (hL.bel.trans (hW'.mono hL.bel.size)) (Hsx.o.after (hL.bel.trans (hW'.mono hL.bel.size))))
 unfold D2 D9 at HC;have hz7:=HH.o.sz;go_upto_region 13 with fail
 refine Ge [58,59,60,61,62,63,64,65,66,67,68,69,70,71,72,73,74,75,76,77,15,16]
  (fun ix v W=>match ix with|0=>v=.pointer (some ⟨eb,0,none⟩)|1=>v=.pointer (some ⟨eb,0,none⟩)|2=>v=.pointer (some ⟨eb,0,none⟩)|3=>v=.pointer (some ⟨pb1,0,none⟩)|4=>v=.pointer (some ⟨pb1,0,none⟩)|5=>v=.pointer (some ⟨pb1,1,none⟩)|6=>v=.map (some mb1)|7=>v=.pointer (some ⟨w.heap.size+1,2,none⟩)|8=>v=.string ⟨a.name.toArray⟩|9=>v=.pointer (some ⟨xp.blk,0,none⟩)|10=>v=.pointer (some ⟨eb,0,none⟩)|11=>v=.pointer (some ⟨eb,0,none⟩)|12=>v=.pointer (some ⟨eb,1,none⟩)|13=>v=.pointer (some ⟨pb2,0,none⟩)|14=>v=.pointer (some ⟨pb2,0,none⟩)|15=>v=.pointer (some ⟨pb2,1,none⟩)|16=>v=.map (some mb2)|17=>v=.pointer (some ⟨w.heap.size+2,2,none⟩)|18=>v=.string ⟨b.name.toArray⟩|19=>v=.pointer (some ⟨yp.blk,0,none⟩)|20=>v=.pointer (some ⟨xp.blk,0,none⟩)|21=>v=.pointer (some ⟨yp.blk,0,none⟩)|_=>True)
  (fun L U W=>W=W7.drew) (rfl) ?_ ?_
 ·exact ia
 rintro L U W hL hφ hR;have e20:U 20=.pointer (some ⟨xp.blk,0,none⟩):=hφ 20 aK;have e21:U 21=.pointer (some ⟨yp.blk,0,none⟩):=hφ 21 aK;simp only[e20,e21];clear hφ;subst hR;clear hL;have e5:=HH.o.v0;have t85:=T85.o;go_upto_region 16 with fail
 clear t85;refine Ge [82,83,84,85,86,87,88,89,90,91,92,93,94,95,96,97,98,99,100,101,102,103,999]
  (fun ix v W=>match ix with|0=>v=.func (.func 52) #[] #[.pointer (some ⟨w.heap.size,0,none⟩),.pointer (some ⟨w.heap.size+6,0,none⟩)]|1=>v=.pointer (some ⟨xp.blk,0,none⟩)|2=>v=.pointer (some ⟨w.heap.size+3,2,none⟩)|3=>v=.int .i64 (vv.tag:Int)|4=>v=.pointer (some ⟨fb,fo,none⟩)|5=>v=.pointer (some ⟨fb,fo,none⟩)|6=>v=.pointer (some ⟨fb,fo+2,none⟩)|7=>v=.agg #[.string ⟨f.kind.signs.toArray⟩,.string ⟨f.kind.base.toArray⟩,.string ⟨f.kind.name.toArray⟩]|8=>v=.pointer (some ⟨yp.blk,0,none⟩)|9=>v=.pointer (some ⟨w.heap.size+3,2,none⟩)|10=>v=.int .i64 (vv.tag:Int)|11=>v=.pointer (some ⟨gb,go,none⟩)|12=>v=.pointer (some ⟨gb,go,none⟩)|13=>v=.pointer (some ⟨gb,go+2,none⟩)|14=>v=.agg #[.string ⟨g.kind.signs.toArray⟩,.string ⟨g.kind.base.toArray⟩,.string ⟨g.kind.name.toArray⟩]|15=>v=.pointer (some ⟨w.heap.size+3,3,none⟩)|16=>v=.slice (some ⟨B2,o3,none⟩) 1 c2|17=>v=.pointer (some ⟨B2,o3,none⟩)|18=>v=.agg #[.int .u8 (x'.what.toNat:Int),.string ⟨x'.text.toArray⟩,.int .i64 (x'.tag:Int),.slice A9 x'.kids.length c9]|21=>v=.pointer (some ⟨w.heap.size+5,3,none⟩)|_=>True)
  (fun L U W=>Sg w W7 W7.drew.drew (.int .u8 (vv.what.toNat:Int)) (.string ⟨vv.text.toArray⟩) (.int .i64 (vv.tag:Int)) r (L 19) (L 20) (L 22) (U 19) (U 20) W) (Sg.start) ?_ ?_
 ·repeat (first|exact Ah.nil|(refine Ah.cons ?_ ?_;rotate_left))
  all_goals
   rintro L U W hL hpre HR Hdep K hK;first|(simp[Region.binds]at hpre;done)|simp[Region.binds]at hpre|clear hpre
  iterate 3
   ·exact hG
  ·have h19:L 19=false:=(Ax Hdep.o 19 7 rfl (Ax Hdep.o 7 6 rfl (Ax Hdep.o 6 5 rfl (Ax Hdep.o 5 4 rfl (Ax Hdep.o 4 3 rfl hL)))))
   have hW:=HR.o.s0 h19;subst hW;have x0:=HH.o.v2;go_simp;first|exact hK _ _ _ rfl Ac HR.o rfl|exact kF hK HR.o
  ·have h19:L 19=false:=(Ax Hdep.o 19 7 rfl (Ax Hdep.o 7 6 rfl (Ax Hdep.o 6 5 rfl (Ax Hdep.o 5 4 rfl hL))))
   have hW:=HR.o.s0 h19;subst hW;go_simp;refine(Hfc.o _ (hbw.drew.drew)).mono ?_;rintro e w5 ⟨rfl,rfl⟩;go_simp;exact kF hK HR.o
  iterate 2
   ·exact hG
  ·have h19:L 19=false:=(Ax Hdep.o 19 7 rfl hL)
   have hW:=HR.o.s0 h19;subst hW;have k2:=(hbw.cell (p:=⟨fb,fo+2,none⟩) hfl).trans (Ab Hfr.o 2 rfl);have k3:=(hbw.cell (p:=⟨fb,fo+3,none⟩) hfl).trans (Ab Hfr.o 3 rfl);have k4:=(hbw.cell (p:=⟨fb,fo+4,none⟩) hfl).trans (Ab Hfr.o 4 rfl);go_simp;first|exact hK _ _ _ rfl Ac HR.o rfl|exact kF hK HR.o
  iterate 2
   ·exact hG
  ·have h19:L 19=false:=(Ax Hdep.o 19 14 rfl (Ax Hdep.o 14 13 rfl (Ax Hdep.o 13 12 rfl (Ax Hdep.o 12 11 rfl (Ax Hdep.o 11 10 rfl hL)))))
   have hW:=HR.o.s0 h19;subst hW;have x0:=HH.o.v2;go_simp;first|exact hK _ _ _ rfl Ac HR.o rfl|exact kF hK HR.o
  ·have h19:L 19=false:=(Ax Hdep.o 19 14 rfl (Ax Hdep.o 14 13 rfl (Ax Hdep.o 13 12 rfl (Ax Hdep.o 12 11 rfl hL))))
   have hW:=HR.o.s0 h19;subst hW;go_simp;refine(Hgc.o _ (hbw.drew.drew)).mono ?_;rintro e w5 ⟨rfl,rfl⟩;go_simp;exact kF hK HR.o
  iterate 2
   ·exact hG
  ·have h19:L 19=false:=(Ax Hdep.o 19 14 rfl hL)
   have hW:=HR.o.s0 h19;subst hW;have k2:=(hbw.cell (p:=⟨gb,go+2,none⟩) hgl).trans (Ab Hgr.o 2 rfl);have k3:=(hbw.cell (p:=⟨gb,go+3,none⟩) hgl).trans (Ab Hgr.o 3 rfl);have k4:=(hbw.cell (p:=⟨gb,go+4,none⟩) hgl).trans (Ab Hgr.o 4 rfl);go_simp;first|exact hK _ _ _ rfl Ac HR.o rfl|exact kF hK HR.o
  ·exact hG
  ·have h19:L 19=false:=(Ax Hdep.o 19 18 rfl (Ax Hdep.o 18 17 rfl (Ax Hdep.o 17 16 rfl hL)))
   have hW:=HR.o.s0 h19;subst hW;have x0:=HH.o.v3;go_simp;first|exact hK _ _ _ rfl Ac HR.o rfl|exact kF hK HR.o
  ·exact hG
  ·have h19:L 19=false:=(Ax Hdep.o 19 18 rfl hL)
   have hW:=HR.o.s0 h19;subst hW;have y0:=(hbw.cell (p:=⟨B2,o3,none⟩) hBl).trans X0.o;have y1:=(hbw.cell (p:=⟨B2,o3+1,none⟩) hBl).trans X1.o;have y2:=(hbw.cell (p:=⟨B2,o3+2,none⟩) hBl).trans X2.o;have y3:=(hbw.cell (p:=⟨B2,o3+3,none⟩) hBl).trans X3.o;go_simp;first|exact hK _ _ _ rfl Ac HR.o rfl|exact kF hK HR.o
  ·have h20:L 20=false:=Ax Hdep.o 20 19 rfl hL;have h22:L 22=false:=Ax Hdep.o 22 20 rfl h20;have hW:=HR.o.s0 hL;subst hW;go_simp;refine HC.o.mono ?_;rintro e w5 ⟨sl5,rfl,hs5,hg5,hc5,hf5⟩;obtain⟨A5,c5,rfl⟩:=hs5.form;go_simp;exact hK (D9 r.1 (.slice A5 r.1.kids.length c5)) _ _ Ac Ac (Sg.put19 (HH.o.st.after ((Aq W7.heap.size W7).drew.drew)) h20 h22 hs5 hg5 hc5 hf5) eL
  ·have l19:L 19=true:=aJ;have h22:L 22=false:=Ax Hdep.o 22 20 rfl hL;obtain⟨sl5,u19,⟨A5,n5,c5,e5⟩,hn⟩:=HR.o.put20 l19 hL h22;subst e5;unfold D9 at u19;unfold J5 at hn;simp only[u19];go_simp;exact hK _ _ _ Ac Ac hn (by simp[Act.put,hpre,u19])
  ·exact hG
  ·have l20:L 20=true:=cm;have l19:L 19=true:=Jx (Ax Hdep.o 20 19 rfl) l20;obtain⟨W8,sl5,hW,u20,hs8,hL8⟩:=HR.o.s2 l20 hL;have hLa:=hL8.after ((Aq W8.heap.size W8).alloc (Ap _) (.cells (J5 (r.1,sl5)).toArray 40));rw[<-hW]at hLa;clear hW;have x3:=hLa.st.c3;have x4:=hLa.st.bk.live 3;have x5:=hLa.st.lt;go_simp;exact hK undef _ _ Ac Ac (HR.o.put22 aM l19 l20 hL (by rw[u20])) (by simp[Act.put,hpre,u20])
 rintro L U W hL hφ hR;clear hφ;obtain⟨g8,sl8,hL8⟩:=hR.s3 (hL 22 aK);have HL8:=Aa hL8;clear hR hL hL8;obtain⟨W8,rfl⟩:∃W8:World,W8=W:=⟨_,rfl⟩
 go_wp2_with fail;have HL:=Aa (HL8.o.after (Aq _ _).drew);have HT:=Aa (Al HH.o.T (show w.heap.size+4<w.heap.size+5 by omega) HL.o.keep);refine Ge [156,157,999,9]
  (fun ix v W=>match ix with|0=>v=.agg #[.int .u8 (vv.what.toNat:Int),.string ⟨vv.text.toArray⟩,.int .i64 (vv.tag:Int),.slice (some ⟨g8,0,none⟩) 1 1]|1=>v=.bool r.2|3=>v=.bool r.2|_=>True)
  (fun L U W=>(L 2=false->W=W8.drew)/\(L 2=true->W=W8.drew.setCells (w.heap.size+4) 0 [.int .u8 (vv.what.toNat:Int),.string ⟨vv.text.toArray⟩,.int .i64 (vv.tag:Int),.slice (some ⟨g8,0,none⟩) 1 1])) (⟨fun _=>rfl,fun h=>Bool.noConfusion h⟩) ?_ ?_
 ·repeat (first|exact Ah.nil|(refine Ah.cons ?_ ?_;rotate_left))
  all_goals
   rintro L U W hL hpre HR Hdep K hK;first|(simp[Region.binds]at hpre;done)|simp[Region.binds]at hpre|clear hpre
  ·exact iC
  ·have x6:W.cell? ⟨w.heap.size+6,0,none⟩=some (.bool r.2):=by
    cases e2:L 2 with
    |false=>rw[HR.o.1 e2];exact HL.o.c6
    |true=>
     rw[HR.o.2 e2,(Bk (w.heap.size+4) _ 0 _).cell_far ⟨w.heap.size+6,0,none⟩ fO aL];exact HL.o.c6
   go_simp;first|exact hK _ _ _ rfl Ac HR.o rfl|exact kF hK HR.o
  ·have hW:=HR.o.1 hL;subst hW;have u0:U 0=.agg #[.int .u8 (vv.what.toNat:Int),.string ⟨vv.text.toArray⟩,.int .i64 (vv.tag:Int),.slice (some ⟨g8,0,none⟩) 1 1]:=cC;rw[if_pos cD];refine wp_store_mid 40 _ _ rfl (w.heap.size+4) 0 ([.int .u8 (vv.what.toNat:Int),.string ⟨vv.text.toArray⟩,.int .i64 (vv.tag:Int),.slice (some ⟨g8,0,none⟩) 1 1]:List Value).toArray rfl u0 HT.o aO bj ?_;exact hK undef _ _ Ac Ac ⟨fun h=>by simp at h,fun _=>rfl⟩ rfl
  ·exact hG
 rintro L U W hL hφ hR;have hW:=hR.2 (hL 2 aK);have u3:U 3=.bool r.2:=hφ 3 aK;simp only[u3];clear hR hL hφ u3;subst hW;go_wp2_with fail;refine aF (v:=.tuple #[.agg ([.int .u8 (vv.what.toNat:Int),.string ⟨vv.text.toArray⟩,.int .i64 (vv.tag:Int),.slice (some ⟨g8,0,none⟩) 1 1]:List Value).toArray,.bool r.2]) ?_ rfl ?_
 ·exact Ao results31 _ _ (w.heap.size+4) [.int .u8 (vv.what.toNat:Int),.string ⟨vv.text.toArray⟩,.int .i64 (vv.tag:Int),.slice (some ⟨g8,0,none⟩) 1 1] _ _ rfl rfl (aa _ _ _ _ HT.o) underlying40 rfl aO
 refine⟨.slice (some ⟨g8,0,none⟩) 1 1,rfl,?_,Ag _ aH _ _ _ HL.o.bel⟩;have h2:=(HL.o.st.done aL).grown (Bk (w.heap.size+4) [.int .u8 (vv.what.toNat:Int),.string ⟨vv.text.toArray⟩,.int .i64 (vv.tag:Int),.slice (some ⟨g8,0,none⟩) 1 1] 0 _) (fun c hc e=>by injection e with e;omega);exact h2.mono fun c hc _=>aH
theorem Qao{w w':World}{row:Option Nat}{b o n:Nat}(h:w.there b o n)(hg:w.grownBy w' row)(hb:b<w.heap.size)(hne:some b≠row):w'.there b o n:=fun j hj=>by
 obtain⟨h1,h2⟩:=h j hj;exact⟨by rw[hg.cell_far ⟨b,o+j,none⟩ hb hne];exact h1,by rw[hg.frozen_far ⟨b,o+j,none⟩ hb hne];exact h2⟩
structure Qp(W1:World)(B11:Nat)(l:Bool)(r:Vl × Bool)(l16 l17 l18:Bool)(u16 u17:Value)(W:World):Prop where
 s0:l16=false->Below W1 W1 W
 s1:l16=true->∃sl,u16=D9 r.1 sl/\Dx (fun c=>W1.heap.size<=c/\(l17=true->u17≠c)) W sl r.1.kids/\W1.grownBy W (some B11)/\W.cell? (B11,0)=some (.bool (l || r.2))/\W.frozen? (B11,0)=false
 al:l17=true->∃B,u17=.pointer (some ⟨B,0,none⟩)/\W1.heap.size<=B/\B<W.heap.size/\W.there B 0 4/\(l18=true->∃sl,u16=D9 r.1 sl/\W.rangeAt B 0 (J5 (r.1,sl)))
section
variable {W1 W W':World} {B11:Nat} {l l16 l17 l18:Bool} {r:Vl × Bool} {u16 u17:Value}
theorem Qp.start:Qp W1 B11 l r false false l18 u16 u17 W1:=⟨fun _=>Aq _ _,fun h=>Bool.noConfusion h,fun h=>Bool.noConfusion h⟩
theorem Qp.put16(h:Qp W1 B11 l r l16 l17 l18 u16 u17 W)(h16:l16=false)(h18:l18=false)(h11:B11<W1.heap.size){sl:Value}(hs:Dx (fun c=>W.heap.size<=c) W' sl r.1.kids)(hg:W.grownBy W' (some B11))(hc:W'.cell? (B11,0)=some (.bool (l || r.2)))(hf:W'.frozen? (B11,0)=false):
  Qp W1 B11 l r true l17 l18 (D9 r.1 sl) u17 W':=by
 have hb:=h.s0 h16;subst h18;refine⟨fun h=>Bool.noConfusion h,fun _=>⟨sl,rfl,hs.mono fun c hc _=>⟨ad hb.size hc,fun h17 e=>?_⟩,H6 (B0 hb _) hg,hc,hf⟩,fun h17=>?_⟩
 ·obtain⟨B,e1,_,h2,_⟩:=h.al h17;rw[e1]at e;injection e with e;injection e with e;injection e with e;have:W.heap.size<=c:=hc;omega
 obtain⟨B,e1,h1,h2,h3,_⟩:=h.al h17;exact⟨B,e1,h1,ac h2 hg.size,Qao h3 hg h2 bV,fun h=>Bool.noConfusion h⟩
theorem Qp.put17(h:Qp W1 B11 l r l16 l17 l18 u16 u17 W)(h18:l18=false)(h17:l17=false)(T:TypeId):Qp W1 B11 l r l16 true l18 u16 W.heap.size (W.alloc (.cells #[.int .u8 0,a8,.int .i64 0,.slice none 0 0] T)):=by
 have hb:=(Aq W.heap.size W).alloc (Ap _) (.cells #[.int .u8 0,a8,.int .i64 0,.slice none 0 0] T);refine⟨fun h16=>(h.s0 h16).trans (hb.mono (h.s0 h16).size),fun h16=>?_,fun _=>⟨_,rfl,?_,by simp,Cc W [.int .u8 0,a8,.int .i64 0,.slice none 0 0] T,fun h=>absurd (h18.symm.trans h) aK⟩⟩
 ·obtain⟨sl,e,hs,hg,hc,hf⟩:=h.s1 h16;have hB:B11<W.heap.size:=World.block_lt_of_cell? W _ hc;refine⟨sl,e,(hs.mono (Q:=fun c=>W1.heap.size<=c/\(true=true->(Value.pointer (W,0))≠c)) fun c hc hl=>⟨hc.1,fun _ e=>by injection e with e;injection e with e;injection e with e;omega⟩).after hb,H6 hg (B0 hb _),(hb.cell (p:=⟨B11,0,none⟩) hB).trans hc,(hb.frozen (p:=⟨B11,0,none⟩) hB).trans hf⟩
 cases e16:l16 with
 |false=>exact(h.s0 e16).size
 |true=>exact(h.s1 e16).choose_spec.2.2.1.size
theorem Qp.put18(h:Qp W1 B11 l r l16 l17 l18 u16 u17 W)(h11:B11<W1.heap.size)(h16:l16=true)(h17:l17=true):∃B sl,u17=.pointer (some ⟨B,0,none⟩)/\u16=D9 r.1 sl/\(∃A n c,sl=.slice A n c)/\W.there B 0 4/\Qp W1 B11 l r l16 l17 true u16 u17 (W.setCells B 0 (J5 (r.1,sl))):=by
 obtain⟨sl,e,hs,hg,hc,hf⟩:=h.s1 h16;obtain⟨B,eB,h1,h2,h3,_⟩:=h.al h17;have hB:B11<W.heap.size:=World.block_lt_of_cell? W _ hc;have hgs:=Bk B (J5 (r.1,sl)) 0 W;refine⟨B,sl,eB,e,by obtain⟨A,c,e⟩:=hs.form;exact⟨A,_,c,e⟩,h3,fun h=>absurd (h16.symm.trans h) aK,fun _=>⟨sl,e,hs.grown hgs fun c hc e=>?_,Se hg h1 0,(hgs.cell_far ⟨B11,0,none⟩ hB aM).trans hc,(hgs.frozen_far ⟨B11,0,none⟩ hB aM).trans hf⟩,fun _=>⟨B,eB,h1,by rw[B6];exact h2,ai h3 _ _ _,fun _=>⟨sl,e,aa _ _ _ _ h3⟩⟩⟩;injection e with e;subst e;exact hc.2 h17 eB
theorem Qp.fin(h:Qp W1 B11 l r l16 l17 l18 u16 u17 W)(h16:l16=true)(h17:l17=true)(h18:l18=true):∃B A c,u17=.pointer (some ⟨B,0,none⟩)/\W1.heap.size<=B/\B<W.heap.size/\W.rangeAt B 0 (J5 (r.1,.slice A r.1.kids.length c))/\Dx (fun c=>W1.heap.size<=c) W (.slice A r.1.kids.length c) r.1.kids/\W1.grownBy W (some B11)/\W.cell? (B11,0)=some (.bool (l || r.2))/\W.frozen? (B11,0)=false:=by
 obtain⟨sl,e,hs,hg,hc,hf⟩:=h.s1 h16;obtain⟨B,eB,h1,h2,_,h4⟩:=h.al h17;obtain⟨sl2,e2,h5⟩:=h4 h18;have e3:sl2=sl:=by
  rw[e]at e2;unfold D9 at e2;injection e2 with e2;simpa using e2.symm
 subst e3;obtain⟨A,c,rfl⟩:=hs.form;exact⟨B,A,c,eB,h1,h2,h5,hs.mono fun c hc _=>hc.1,hg,hc,hf⟩
end
end
end Go.Proofs.YtkgkoicedddkmaaGreatDoor
