/- Texts joined. Conditions: as each theorem names them. -/
import Derived.Deep.CutRange
import Derived.Deep.DeepCutAuto
import Derived.Test.YtpjijpcemejlnaaGreatDoorR36
set_option maxRecDepth 100000
set_option maxHeartbeats 32000000
set_option linter.unusedVariables false
set_option linter.unusedSimpArgs false
namespace Go.Proofs.YtpjijpcemejlnaaGreatDoor
open Go.RowKit Go.Proofs.Tryz
def Mt(r:Vl × Bool)(w:World)(e:Ending)(w':World):Prop:=∃sl,e=.returned (.tuple #[Ev r.1 sl,.bool r.2])/\Ee (fun c=>w.heap.size<=c) w' sl r.1.kids/\Below w w w'
def Qba(r:Vl × Bool)(lost:Bool)(B11:Nat)(w:World)(e:Ending)(w':World):Prop:=∃sl,e=.returned (Ev r.1 sl)/\Ee (fun c=>w.heap.size<=c) w' sl r.1.kids/\w.grownBy w' (some B11)/\w'.cell? (B11,0)=some (.bool (lost || r.2))/\w'.frozen? (B11,0)=false
theorem Kb{w w1 w2:World}{row:Option Nat}(h:w.grownBy w1 row)(k:w1.grownBy w2 row):w.grownBy w2 row:=
 ⟨k.os.trans h.os,k.tape.trans h.tape,k.output.trans h.output,ae h.size k.size,fun b hb hne=>(k.block b (ad hb h.size) hne).trans (h.block b hb hne)⟩
theorem Vo{w w':World}{b o:Nat}{vs:List Value}(h:w.grownBy w' (some o))(hb:w.heap.size<=b)(off:Nat):w.grownBy (w'.setCells b off vs) (some o):=by
 have hg:=Bq b vs off w';exact⟨hg.os.trans h.os,hg.tape.trans h.tape,hg.output.trans h.output,ae h.size hg.size,fun k hk hne=>(hg.block k (ad hk h.size) cd).trans (h.block k hk hne)⟩
theorem Qe7(w:World)(eb B4 B11:Nat)(hl4:B4<w.heap.size)(hl11:B11<w.heap.size)(c4:w.cell? (B4,0)=eb)(lost:Bool)(c11:w.cell? (B11,0)=some (.bool lost))(f11:w.frozen? (B11,0)=false)(a b:Kd)(x:Vl)(A:Option Addr)(n c:Nat)(r:Vl × Bool)
  (HL:∀W,Below w w W->Calls prog 74 #[eb,Eh a,Eh b,Ev x (.slice A n c)] W (Mt r W)):
  Calls prog 120 #[Eh a,Eh b,Ev x (.slice A n c),B4,B11] w (Qba r lost B11 w):=by
 obtain⟨W4,hW4⟩:∃W4,W4=(((w.alloc (.cells #[a.signs,a.base,a.name] 62)).alloc (.cells #[b.signs,b.base,b.name] 62)).alloc (.cells #[.int .u8 (x.what.toNat:Int),x.text,(x.tag:Int),.slice A n c] 47)).alloc (.cells #[.int .u8 0,aa,.int .i64 0,.slice none 0 0] 47):=⟨_,rfl⟩
 have hb4:Below w w W4:=by rw[hW4];exact((((Am _ _).alloc (Ao _) _).alloc aN _).alloc aO _).alloc aO _
 have HL4:=Aa (HL W4 hb4);have hz4:W4.heap.size=w.heap.size+4:=by rw[hW4];simp
 have T8:=Aa (show W4.there (w.heap.size+3) 0 4 from by
  have h:=B9 (((w.alloc (.cells #[a.signs,a.base,a.name] 62)).alloc (.cells #[b.signs,b.base,b.name] 62)).alloc (.cells #[.int .u8 (x.what.toNat:Int),x.text,(x.tag:Int),.slice A n c] 47)) [.int .u8 0,aa,.int .i64 0,.slice none 0 0] 47;rw[show ((((w.alloc (.cells #[a.signs,a.base,a.name] 62)).alloc (.cells #[b.signs,b.base,b.name] 62)).alloc (.cells #[.int .u8 (x.what.toNat:Int),x.text,(x.tag:Int),.slice A n c] 47))).heap.size=w.heap.size+3 from by simp]at h;rw[hW4];exact h)
 have Hb4:=Aa hb4;have C4:=Aa ((hb4.cell (p:=⟨B4,0,none⟩) hl4).trans c4);have C11:=Aa ((hb4.cell (p:=⟨B11,0,none⟩) hl11).trans c11);have F11:=Aa ((hb4.frozen (p:=⟨B11,0,none⟩) hl11).trans f11);have c4':=C4.o;rw[hW4]at c4';unfold Eh Ev at HL4 ⊢;clear HL hb4 c4 c11 f11;go_enter func120,ntmps120;go_wp2_with fail;rw[<-hW4];clear hW4 c4';refine HL4.o.mono ?_;rintro e w5 ⟨sl,rfl,hs5,hb5⟩;obtain⟨A5,c5,rfl⟩:=hs5.form;have Hs5:=Aa hs5;have Hb5:=Aa (Hb4.o.trans (hb5.mono Hb4.o.size));have T85:=Aa (An T8.o aI hb5);have c115:w5.cell? (B11,0)=some (.bool lost):=(hb5.cell (p:=⟨B11,0,none⟩) (show B11<W4.heap.size by omega)).trans C11.o;have f115:w5.frozen? (B11,0)=false:=(hb5.frozen (p:=⟨B11,0,none⟩) (show B11<W4.heap.size by omega)).trans F11.o;have hz5:w.heap.size+4<=w5.heap.size:=by have:=hb5.size;omega
 have hn1:¬(B11=w5.heap.size):=aI;have hn2:B11<w5.heap.size:=aI;have hn3:¬(w5.heap.size=B11):=aI;unfold Ev;have Hr:=@Aa (r.1=.mk r.1.what r.1.text r.1.tag r.1.kids) (by cases r.1;rfl);clear hb5 hs5;cases lost with
 |true=>
  have T86:=@Aa (((w5.setCell ⟨B11,0,none⟩ (.bool true)).alloc (.cells #[.int .u8 (r.1.what.toNat:Int),r.1.text,(r.1.tag:Int),.slice A5 r.1.kids.length c5] 47)).there (w.heap.size+3) 0 4) (au (aj T85.o B11 0 [.bool true]) _);go_wp2_with ((with_reducible refine Af (op:=⟨none,.store 47 _ _,_,_,_,none⟩) rfl 47 _ _ rfl (w.heap.size+3) 0 [.int .u8 (r.1.what.toNat:Int),r.1.text,(r.1.tag:Int),.slice A5 r.1.kids.length c5] ?_ ?_ ?_ ?_ ?_ ?_);(first|rfl|(simp;done));rfl;(exact T86.o);kernel_rfl;(simp[Value.oneCell']);intro w9 HS9)
  refine aG (v:=.agg ([.int .u8 (r.1.what.toNat:Int),r.1.text,(r.1.tag:Int),.slice A5 r.1.kids.length c5]:List Value).toArray) ?_ rfl ?_
  ·exact jY
  have hg5:w.grownBy w5 (some B11):=Cf Hb5.o _;have hg6:=Kb hg5 (Al w5 B11 0 (.bool true));have hal:=(Am (w5.setCell ⟨B11,0,none⟩ (.bool true)).heap.size (w5.setCell ⟨B11,0,none⟩ (.bool true))).alloc (Ao _) (.cells #[.int .u8 (r.1.what.toNat:Int),r.1.text,(r.1.tag:Int),.slice A5 r.1.kids.length c5] 47);have hg7:=Kb hg6 (Cf hal (some B11));have hg9:w.grownBy w9 (some B11):=by rw[HS9.o];exact Vo hg7 aI 0
  refine⟨.slice A5 r.1.kids.length c5,rfl,?_,hg9,?_,?_⟩
  ·have h1:Ee (fun c=>w.heap.size+4<=c) w5 (.slice A5 r.1.kids.length c5) r.1.kids:=Hs5.o.mono fun c hc _=>aI;have h2:=(h1.grown (Al w5 B11 0 (.bool true)) (fun c hc e=>by injection e with e;omega)).after hal;exact mU
  ·exact jD
  rw[HS9.o,(Bq (w.heap.size+3) [.int .u8 (r.1.what.toNat:Int),r.1.text,(r.1.tag:Int),.slice A5 r.1.kids.length c5] 0 _).frozen_far ⟨B11,0,none⟩ aO aO];simp[go_sem,f115,hn1,hn2]
 |false=>
  have T86:=@Aa (((w5.setCell ⟨B11,0,none⟩ (.bool r.2)).alloc (.cells #[.int .u8 (r.1.what.toNat:Int),r.1.text,(r.1.tag:Int),.slice A5 r.1.kids.length c5] 47)).there (w.heap.size+3) 0 4) (au (aj T85.o B11 0 [.bool r.2]) _);go_wp2_with ((with_reducible refine Af (op:=⟨none,.store 47 _ _,_,_,_,none⟩) rfl 47 _ _ rfl (w.heap.size+3) 0 [.int .u8 (r.1.what.toNat:Int),r.1.text,(r.1.tag:Int),.slice A5 r.1.kids.length c5] ?_ ?_ ?_ ?_ ?_ ?_);(first|rfl|(simp;done));rfl;(exact T86.o);kernel_rfl;(simp[Value.oneCell']);intro w9 HS9)
  refine aG (v:=.agg ([.int .u8 (r.1.what.toNat:Int),r.1.text,(r.1.tag:Int),.slice A5 r.1.kids.length c5]:List Value).toArray) ?_ rfl ?_
  ·exact jY
  have hg5:w.grownBy w5 (some B11):=Cf Hb5.o _;have hg6:=Kb hg5 (Al w5 B11 0 (.bool r.2));have hal:=(Am (w5.setCell ⟨B11,0,none⟩ (.bool r.2)).heap.size (w5.setCell ⟨B11,0,none⟩ (.bool r.2))).alloc (Ao _) (.cells #[.int .u8 (r.1.what.toNat:Int),r.1.text,(r.1.tag:Int),.slice A5 r.1.kids.length c5] 47);have hg7:=Kb hg6 (Cf hal (some B11));have hg9:w.grownBy w9 (some B11):=by rw[HS9.o];exact Vo hg7 aI 0
  refine⟨.slice A5 r.1.kids.length c5,rfl,?_,hg9,?_,?_⟩
  ·have h1:Ee (fun c=>w.heap.size+4<=c) w5 (.slice A5 r.1.kids.length c5) r.1.kids:=Hs5.o.mono fun c hc _=>aI;have h2:=(h1.grown (Al w5 B11 0 (.bool r.2)) (fun c hc e=>by injection e with e;omega)).after hal;exact mU
  ·exact jD
  rw[HS9.o,(Bq (w.heap.size+3) [.int .u8 (r.1.what.toNat:Int),r.1.text,(r.1.tag:Int),.slice A5 r.1.kids.length c5] 0 _).frozen_far ⟨B11,0,none⟩ aO aO];simp[go_sem,f115,hn1,hn2]
structure LiS(w W7 wr:World)(h0 h1 h2:Value)(l:Bool)(kv:Value)(xs:List (Vl × Value)):Prop where
 bel:Below w w wr
 keep:Below (w.heap.size+5) W7 wr
 st:Tl (w.heap.size+7) (w.heap.size+5) wr h0 h1 h2 kv kv xs
 c6:wr.cell? (w,6,0)=some (.bool l)
 f6:wr.frozen? (w,6,0)=false
section
variable {w W7 wr W W' W1:World} {h0 h1 h2 kv u8 u9 u10:Value} {l l' l8 l9 l10 l12:Bool} {xs:List (Vl × Value)} {r:Vl × Bool} {A:Option Addr} {c:Nat}
theorem LiS.after(h:LiS w W7 wr h0 h1 h2 l kv xs)(hb:Below wr wr W):LiS w W7 W h0 h1 h2 l kv xs:=by
 have hlt:w.heap.size+6<wr.heap.size:=h.st.bs;exact⟨h.bel.trans (hb.mono h.bel.size),h.keep.trans (hb.mono aI),h.st.after hb,(hb.cell (p:=⟨w.heap.size+6,0,none⟩) hlt).trans h.c6,(hb.frozen (p:=⟨w.heap.size+6,0,none⟩) hlt).trans h.f6⟩
theorem LiS.one(h:LiS w W7 wr h0 h1 h2 l kv xs)(hg:wr.grownBy W (some (w.heap.size+6)))(hc:W.cell? (w,6,0)=some (.bool l'))(hf:W.frozen? (w,6,0)=false):LiS w W7 W h0 h1 h2 l' kv xs:=
 ⟨h.bel.grown hg h.bel.size (fun k e=>by injection e with e;omega),h.keep.grown hg (by have:=h.st.bs;omega) (fun k e=>by injection e with e;omega),h.st.step hg aI aI,hc,hf⟩
structure M8(w W7 W1:World)(h0 h1 h2:Value)(l:Bool)(A:Option Addr)(c:Nat)(xs:List (Vl × Value))(r:Vl × Bool)(l8 l9 l10 l12:Bool)(u8 u9 u10:Value)(W:World):Prop where
 s0:l8=false->Below W1 W1 W
 s1:l8=true->l9=false->∃sl,u8=Ev r.1 sl/\Ee (fun c=>W1.heap.size<=c) W sl r.1.kids/\LiS w W7 W h0 h1 h2 (l || r.2) (.slice A xs.length c) xs
 s2:l9=true->l10=false->∃W8 sl,W=W8.alloc (.cells (Mf (r.1,sl)).toArray 47)/\u9=.slice (some ⟨W8.heap.size,0,none⟩) 1 1/\Ee (fun c=>W1.heap.size<=c) W8 sl r.1.kids/\LiS w W7 W8 h0 h1 h2 (l || r.2) (.slice A xs.length c) xs
 s3:l10=true->l12=false->∃sl A6 c6,u10=.slice A6 (xs.length+1) c6/\Tl (w.heap.size+7) (w.heap.size+5) W h0 h1 h2 (.slice A xs.length c) u10 (xs++[(r.1,sl)])/\Below w w W/\Below (w.heap.size+5) W7 W/\W.cell? (w,6,0)=some (.bool (l || r.2))/\W.frozen? (w,6,0)=false
 s4:l12=true->∃sl A6 c6,LiS w W7 W h0 h1 h2 (l || r.2) (.slice A6 (xs.length+1) c6) (xs++[(r.1,sl)])
theorem M8.start:M8 w W7 W1 h0 h1 h2 l A c xs r false false false false u8 u9 u10 W1:=
 ⟨fun _=>Am _ _,fun h=>Bool.noConfusion h,fun h=>Bool.noConfusion h,fun h=>Bool.noConfusion h,fun h=>Bool.noConfusion h⟩
theorem M8.c3(h:M8 w W7 W1 h0 h1 h2 l A c xs r l8 l9 l10 l12 u8 u9 u10 W)(hl:LiS w W7 W1 h0 h1 h2 l (.slice A xs.length c) xs)(h10:l10=false):W.cell? (w,5,3)=some (.slice A xs.length c):=by
 cases e8:l8 with
 |false=>exact(hl.after (h.s0 e8)).st.c3
 |true=>
  cases e9:l9 with
  |false=>obtain⟨_,_,_,hL⟩:=h.s1 e8 e9;exact hL.st.c3
  |true=>obtain⟨W8,sl,rfl,_,_,hL⟩:=h.s2 e9 h10;exact(hL.after ((Am _ _).alloc (Ao _) _)).st.c3
theorem M8.pre(h:M8 w W7 W1 h0 h1 h2 l A c xs r l8 l9 l10 l12 u8 u9 u10 W)(h8:l8=false)(h9:l9=false)(h10:l10=false)(h12:l12=false)(hb:Below W W W'):M8 w W7 W1 h0 h1 h2 l A c xs r l8 l9 l10 l12 u8 u9 u10 W':=by
 subst h8 h9 h10 h12;exact⟨fun _=>(h.s0 rfl).trans (hb.mono (h.s0 rfl).size),fun h=>Bool.noConfusion h,fun h=>Bool.noConfusion h,fun h=>Bool.noConfusion h,fun h=>Bool.noConfusion h⟩
theorem M8.put8{sl:Value}(hs0:Below W1 W1 W)(hl:LiS w W7 W1 h0 h1 h2 l (.slice A xs.length c) xs)(h9:l9=false)(h10:l10=false)(h12:l12=false)(hs:Ee (fun c=>W.heap.size<=c) W' sl r.1.kids)(hg:W.grownBy W' (some (w.heap.size+6)))(hc:W'.cell? (w,6,0)=some (.bool (l || r.2)))(hf:W'.frozen? (w,6,0)=false):
  M8 w W7 W1 h0 h1 h2 l A c xs r true l9 l10 l12 (Ev r.1 sl) u9 u10 W':=by
 subst h9 h10 h12;exact⟨fun h=>Bool.noConfusion h,fun _ _=>⟨sl,rfl,hs.mono fun c hc _=>ae hs0.size hc,(hl.after hs0).one hg hc hf⟩,fun h=>Bool.noConfusion h,fun h=>Bool.noConfusion h,fun h=>Bool.noConfusion h⟩
theorem M8.put9(h:M8 w W7 W1 h0 h1 h2 l A c xs r l8 l9 l10 l12 u8 u9 u10 W)(h8:l8=true)(h9:l9=false)(h10:l10=false)(h12:l12=false):∃sl,u8=Ev r.1 sl/\(∃A n c,sl=.slice A n c) /\
  M8 w W7 W1 h0 h1 h2 l A c xs r l8 true l10 l12 u8 (.slice (W,0) 1 1) u10 (W.alloc (.cells (Mf (r.1,sl)).toArray 47)):=by
 obtain⟨sl,e,hs,hL⟩:=h.s1 h8 h9;subst h10 h12;exact⟨sl,e,by obtain⟨A,c,e⟩:=hs.form;exact⟨A,_,c,e⟩,fun h=>absurd (h8.symm.trans h) aL,fun _ h=>Bool.noConfusion h,fun _ _=>⟨W,sl,rfl,rfl,hs,hL⟩,fun h=>Bool.noConfusion h,fun h=>Bool.noConfusion h⟩
theorem M8.put10{W8:World}{sl v:Value}(hL:LiS w W7 W8 h0 h1 h2 (l || r.2) (.slice A xs.length c) xs)(hl:LiS w W7 W1 h0 h1 h2 l (.slice A xs.length c) xs)(hs:Ee (fun c=>W1.heap.size<=c) W8 sl r.1.kids)(h8:l8=true)(h9:l9=true)(h12:l12=false)
  (hown:W.ownsRow (w.heap.size+7) 47 4 v (xs.length+1) (xs.flatMap Mf++Mf (r.1,sl))) (hg:W8.grownBy W (Value.slice A xs.length c).ownBlock) (hwh:v.ownBlock=(Value.slice A xs.length c).ownBlock\/∃k,v.ownBlock=some k/\W8.heap.size<=k):
  M8 w W7 W1 h0 h1 h2 l A c xs r l8 l9 true l12 u8 u9 v W/\∃A6 c6,v=.slice A6 (xs.length+1) c6:=by
 have hk:Ee (fun c1=>w.heap.size+7<=c1/\(Value.slice A xs.length c).ownBlock≠some c1) W8 sl r.1.kids:=hs.mono fun c1 hc _=>⟨ae hl.st.bs hc,fun e=>by have:=(hl.st.row.lt c1 e).2;omega⟩
 have hK:=hL.st.app (x:=(r.1,sl)) hk hown hg hwh;have hv:∃A6 c6,v=.slice A6 (xs.length+1) c6:=by
  rcases hown.2 with⟨_,e0⟩|⟨g,cap,cur,e,_⟩
  ·omega
  exact⟨_,cap,e⟩
 obtain⟨A6,c6,e6⟩:=hv;have hlo:∀k,(Value.slice A xs.length c).ownBlock=some k->w.heap.size+7<=k:=fun k e=>(hL.st.row.lt k e).1;have hne:some (w.heap.size+6)≠(Value.slice A xs.length c).ownBlock:=fun e=>by have:=hlo _ e.symm;omega
 subst h12;exact⟨⟨fun h=>absurd (h8.symm.trans h) aL,fun _ h=>absurd (h9.symm.trans h) aL,fun _ h=>Bool.noConfusion h,fun _ _=>⟨sl,A6,c6,e6,hK,hL.bel.grown hg hL.bel.size (fun k e=>by have:=hlo k e;omega),hL.keep.grown hg (by have:=hL.st.bs;omega) (fun k e=>by have:=hlo k e;omega),hg.cell hL.c6 hne,(hg.frozen_far ⟨w.heap.size+6,0,none⟩ (show w.heap.size+6<W8.heap.size from hL.st.bs) hne).trans hL.f6⟩,fun h=>Bool.noConfusion h⟩,A6,c6,e6⟩
theorem M8.put12(h:M8 w W7 W1 h0 h1 h2 l A c xs r l8 l9 l10 l12 u8 u9 u10 W)(h8:l8=true)(h9:l9=true)(h10:l10=true)(h12:l12=false)(hW:W'=W.setCell ⟨w.heap.size+5,3,none⟩ u10):M8 w W7 W1 h0 h1 h2 l A c xs r l8 l9 l10 true u8 u9 u10 W':=by
 subst hW;obtain⟨sl,A6,c6,e6,hK,hb,hk,hc,hf⟩:=h.s3 h10 h12;have hg:=Al W (w.heap.size+5) 3 u10;have hS:=hK.store;rw[e6]at hS hg ⊢;have hlt:w.heap.size+6<W.heap.size:=hK.bs;exact⟨fun h=>absurd (h8.symm.trans h) aL,fun _ h=>absurd (h9.symm.trans h) aL,fun _ h=>absurd (h10.symm.trans h) aL,fun _ h=>Bool.noConfusion h,fun _=>⟨sl,A6,c6,hb.setCell (p:=⟨w.heap.size+5,3,none⟩) (show w.heap.size<=w.heap.size+5 by omega) _,hk.setCell (p:=⟨w.heap.size+5,3,none⟩) (Ao (w.heap.size+5)) _,hS,hg.cell hc aN,(hg.frozen_far ⟨w.heap.size+6,0,none⟩ hlt aN).trans hf⟩⟩
end
section
attribute [local go_sem] Qm0 Ql8 Qlz Qj6 ByteArray.mk_append_mk
structure EvW(W:World)(eb:Nat)(p1 p2:Value)(xs ys:List PT):Prop where
 lt:eb<W.heap.size
 c0:W.cell? (eb,0)=some p1
 c1:W.cell? (eb,1)=some p2
 s1:Sw W p1 xs
 s2:Sw W p2 ys
theorem EvW.after{W W':World}{eb:Nat}{p1 p2:Value}{xs ys:List PT}(h:EvW W eb p1 p2 xs ys)(hb:Below W W W'):EvW W' eb p1 p2 xs ys:=
 ⟨ad h.lt hb.size,(hb.cell (p:=⟨eb,0,none⟩) h.lt).trans h.c0,(hb.cell (p:=⟨eb,1,none⟩) h.lt).trans h.c1,h.s1.below hb,h.s2.below hb⟩
structure LkT(w:World)(eb:Nat)(an bn:List UInt8)(xb yb pb1 mb1 pb2 mb2:Nat):Prop where
 le:eb<w.heap.size
 l1:pb1<w.heap.size
 l2:pb2<w.heap.size
 e0:w.cell? (eb,0)=pb1
 e1:w.cell? (eb,1)=pb2
 m1:w.cell? (pb1,1)=some (.map (some mb1))
 m2:w.cell? (pb2,1)=some (.map (some mb2))
 k1:∀W,Below w w W->(Instr.lookup 156 (.map (some mb1)) an false).run prog W=.ok xb W
 k2:∀W,Below w w W->(Instr.lookup 156 (.map (some mb2)) bn false).run prog W=.ok yb W
theorem Qlm{w:World}{eb:Nat}{p1 p2:Value}{xs ys:List PT}(h:EvW w eb p1 p2 xs ys){an bn:List UInt8}{x y:PT}(hx:Fa xs an=some x)(hy:Fa ys bn=some y)(ha:an.length<=1000)(hb:bn.length<=1000):∃pb1 mb1 pb2 mb2,p1=.pointer (some ⟨pb1,0,none⟩)/\p2=.pointer (some ⟨pb2,0,none⟩)/\LkT w eb an bn x.blk y.blk pb1 mb1 pb2 mb2:=by
 obtain⟨pb1,_,_,mb1,e1,q0,_,q2,_,q4,_,_⟩:=h.s1;obtain⟨pb2,_,_,mb2,e2,s0,_,s2,_,s4,_,_⟩:=h.s2;refine⟨pb1,mb1,pb2,mb2,e1,e2,h.lt,q0,s0,h.c0.trans (by rw[e1]),h.c1.trans (by rw[e2]),q2,s2,fun W hW=>?_,fun W hW=>?_⟩
 ·have:=Fy (Dq.below q4 hW) an aI;rw[hx]at this;exact this
 have:=Fy (Dq.below s4 hW) bn aI;rw[hy]at this;exact this
structure LiH(w W7:World)(eb:Nat)(a b:Kd)(vv:Vl)(A2:Option Addr)(n2 c2:Nat):Prop where
 sz:W7.heap.size=w.heap.size+7
 T:W7.there (w.heap.size+4) 0 4
 e0:W7.cell? (w,0)=eb
 a0:W7.cell? (w,1,0)=a.signs
 a1:W7.cell? (w,1,1)=a.base
 a2:W7.cell? (w,1,2)=a.name
 b2:W7.cell? (w,2,2)=b.name
 v0:W7.cell? (w,3,0)=some (.int .u8 (vv.what.toNat:Int))
 v1:W7.cell? (w,3,1)=vv.text
 v2:W7.cell? (w,3,2)=(vv.tag:Int)
 v3:W7.cell? (w,3,3)=some (.slice A2 n2 c2)
 st:LiS w W7 W7 (.int .u8 (vv.what.toNat:Int)) vv.text (vv.tag:Int) false (.slice none 0 0) []
theorem Xt(w W7:World)(eb:Nat)(a b:Kd)(vv:Vl)(A2:Option Addr)(n2 c2:Nat)(h:W7=(((((((w.alloc (.cells #[eb] 117)).alloc (.cells #[a.signs,a.base,a.name] 62)).alloc (.cells #[.string ⟨b.signs.toArray⟩,.string ⟨b.base.toArray⟩,.string ⟨b.name.toArray⟩] 62)).alloc (.cells #[.int .u8 (vv.what.toNat:Int),vv.text,(vv.tag:Int),.slice A2 n2 c2] 47)).alloc (.cells #[.int .u8 0,aa,.int .i64 0,.slice none 0 0] 47)).alloc (.cells #[.int .u8 (vv.what.toNat:Int),vv.text,(vv.tag:Int),.slice none 0 0] 47)).alloc (.cells #[.bool false] 4))):LiH w W7 eb a b vv A2 n2 c2:=by
 obtain⟨W5,hW5⟩:∃W5,W5=((((w.alloc (.cells #[eb] 117)).alloc (.cells #[a.signs,a.base,a.name] 62)).alloc (.cells #[.string ⟨b.signs.toArray⟩,.string ⟨b.base.toArray⟩,.string ⟨b.name.toArray⟩] 62)).alloc (.cells #[.int .u8 (vv.what.toNat:Int),vv.text,(vv.tag:Int),.slice A2 n2 c2] 47)).alloc (.cells #[.int .u8 0,aa,.int .i64 0,.slice none 0 0] 47):=⟨_,rfl⟩
 obtain⟨W6,hW6⟩:∃W6,W6=W5.alloc (.cells #[.int .u8 (vv.what.toNat:Int),vv.text,(vv.tag:Int),.slice none 0 0] 47):=⟨_,rfl⟩
 have hW7:W7=W6.alloc (.cells #[.bool false] 4):=by rw[h,hW6,hW5]
 clear h;have hz5:W5.heap.size=w.heap.size+5:=dK;have hz6:W6.heap.size=w.heap.size+6:=by rw[hW6];simp;omega
 have hz7:W7.heap.size=w.heap.size+7:=by rw[hW7];simp;omega
 have hb5:Below w w W5:=ie;have hb56:Below W5 W5 W6:=eH;have hb67:Below W6 W6 W7:=gN;have hc57:∀b o,b<w.heap.size+5->W7.cell? ⟨b,o,none⟩=W5.cell? ⟨b,o,none⟩:=fun b o hb=>(hb67.cell (p:=⟨b,o,none⟩) (show b<W6.heap.size by omega)).trans (hb56.cell (p:=⟨b,o,none⟩) (show b<W5.heap.size by omega));have hT:W5.there (w.heap.size+4) 0 4:=by
  have h:=B9 ((((w.alloc (.cells #[eb] 117)).alloc (.cells #[a.signs,a.base,a.name] 62)).alloc (.cells #[.string ⟨b.signs.toArray⟩,.string ⟨b.base.toArray⟩,.string ⟨b.name.toArray⟩] 62)).alloc (.cells #[.int .u8 (vv.what.toNat:Int),vv.text,(vv.tag:Int),.slice A2 n2 c2] 47)) [.int .u8 0,aa,.int .i64 0,.slice none 0 0] 47;rw[<-hW5]at h;simpa using h
 refine⟨hz7,An (An hT aI hb56) aI hb67,?_,?_,?_,?_,?_,?_,?_,?_,?_,?_⟩;iterate 9
  ·rw[hc57 _ _ aI,hW5];go_simp
 have hB:Qa W6 (w.heap.size+5):=by rw[hW6,<-hz5];exact Qa.new _ _ _
 have hc:∀o u,(#[.int .u8 (vv.what.toNat:Int),vv.text,(vv.tag:Int),.slice none 0 0]:Array Value)[o]?=some u->W7.cell? ⟨w.heap.size+5,o,none⟩=some u:=fun o u hu=>by
  exact mV
 refine⟨(hb5.trans (hb56.mono aI)).trans (hb67.mono aI),Am _ _,⟨by omega,by omega,by omega,hB.belowAt aI hb67,hc 0 _ rfl,hc 1 _ rfl,hc 2 _ rfl,hc 3 _ rfl,World.ownsRow_nil _ _ _ _,by simp⟩,?_,?_⟩
 ·rw[hW7,<-hz6];simp[World.cell?_alloc_new]
 rw[hW7,<-hz6];simp[go_sem]
theorem Qf8(P:Nat->Prop)(w:World)(A:Option Addr)(c:Nat):Ee P w (.slice A 0 c) []:=
 .mk A c [] rfl rfl aN ⟨rfl,ah _,fun h=>absurd h aN⟩ (fun _ _ h=>absurd h aN) aN
theorem Zb(w:World)(eb:Nat)(a b:Kd)(hs:a.signs=[])(hb:a.base≠[64])(vv:Vl)(hk:vv.kids=[])(A2:Option Addr)(c2:Nat):
  Calls prog 74 #[eb,Eh a,Eh b,Ev vv (.slice A2 0 c2)] w (Mt (vv,false) w):=by
 obtain⟨n2,hn2⟩:∃n2,n2=0:=⟨_,rfl⟩
 have Hs:=Aa hs;have Hb:=Aa hb;have Hk:=Aa hk;clear hs hb hk;obtain⟨W7,hW7⟩:∃W7,W7=(((((((w.alloc (.cells #[eb] 117)).alloc (.cells #[a.signs,a.base,a.name] 62)).alloc (.cells #[b.signs,b.base,b.name] 62)).alloc (.cells #[.int .u8 (vv.what.toNat:Int),vv.text,(vv.tag:Int),.slice A2 n2 c2] 47)).alloc (.cells #[.int .u8 0,aa,.int .i64 0,.slice none 0 0] 47)).alloc (.cells #[.int .u8 (vv.what.toNat:Int),vv.text,(vv.tag:Int),.slice none 0 0] 47)).alloc (.cells #[.bool false] 4)):=⟨_,rfl⟩
 have HH:=Aa (Xt w W7 eb a b vv A2 n2 c2 hW7);unfold Eh Ev;go_enter func74,ntmps74;go_upto_region 4 with fail
 subst hn2;rw[<-hW7];clear hW7;have e1:=HH.o.a0;have e2:=HH.o.a1;have e3:=HH.o.v0;have e4:=HH.o.v1;have e5:=HH.o.v2;have e6:=HH.o.v3;have t1:a.signs.isEmpty=true:=gz;have t2:(a.base == [64])=false:=by simpa using Hb.o
 have HT:=Aa HH.o.T;rw[Hs.o]at e1;go_wp2_with ((with_reducible refine Af (op:=⟨none,.store 47 _ _,_,_,_,none⟩) rfl 47 _ _ rfl (w.heap.size+4) 0 [.int .u8 (vv.what.toNat:Int),vv.text,(vv.tag:Int),.slice A2 0 c2] ?_ ?_ ?_ ?_ ?_ ?_);(first|rfl|(simp;done));rfl;(exact HT.o);kernel_rfl;(simp[Value.oneCell']);intro w9 HS9)
 refine aG (v:=.tuple #[.agg ([.int .u8 (vv.what.toNat:Int),vv.text,(vv.tag:Int),.slice A2 0 c2]:List Value).toArray,.bool false]) ?_ rfl ?_
 ·exact As results74 _ _ (w.heap.size+4) [.int .u8 (vv.what.toNat:Int),vv.text,(vv.tag:Int),.slice A2 0 c2] _ _ rfl rfl (by rw[HS9.o];exact ac _ _ _ _ HT.o) underlying47 rfl aP
 refine⟨.slice A2 0 c2,rfl,by rw[Hk.o];exact Qf8 _ _ _ _,?_⟩;rw[HS9.o];exact Aj _ aI _ _ _ HH.o.st.bel
theorem Qim(w:World)(eb:Nat)(a b:Kd)(hs:a.signs=[])(hb:a.base=[64])(vv:Vl)(hw85:vv.what≠85)(hw82:vv.what≠82)(hk:vv.kids=[])(A2:Option Addr)(c2:Nat)(xb yb pb1 mb1 pb2 mb2:Nat)(hlk:LkT w eb a.name b.name xb yb pb1 mb1 pb2 mb2):
  Calls prog 74 #[eb,Eh a,Eh b,Ev vv (.slice A2 0 c2)] w (Mt (vv,false) w):=by
 obtain⟨n2,hn2⟩:∃n2,n2=0:=⟨_,rfl⟩
 have Hs:=Aa hs;have Hb:=Aa hb;have Hk:=Aa hk;clear hs hb hk;have t85:((vv.what.toNat:Int) == 85)=false:=by have:=Ap hw85;simpa using this
 have t82:((vv.what.toNat:Int) == 82)=false:=by have:=Ap hw82;simpa using this
 have HLk:=Aa hlk;have ht:vv.text=vv.text:=rfl;clear hw85 hw82 hlk;obtain⟨W7,hW7⟩:∃W7,W7=(((((((w.alloc (.cells #[eb] 117)).alloc (.cells #[a.signs,a.base,a.name] 62)).alloc (.cells #[b.signs,b.base,b.name] 62)).alloc (.cells #[.int .u8 (vv.what.toNat:Int),vv.text,(vv.tag:Int),.slice A2 n2 c2] 47)).alloc (.cells #[.int .u8 0,aa,.int .i64 0,.slice none 0 0] 47)).alloc (.cells #[.int .u8 (vv.what.toNat:Int),vv.text,(vv.tag:Int),.slice none 0 0] 47)).alloc (.cells #[.bool false] 4)):=⟨_,rfl⟩
 have HH:=Aa (Xt w W7 eb a b vv A2 n2 c2 hW7);unfold Eh Ev;go_enter func74,ntmps74;go_upto_region 4 with fail
 subst hn2;rw[<-hW7];clear hW7;have e1:=HH.o.a0;have e2:=HH.o.a1;have e3:=HH.o.v0;have t1:a.signs.isEmpty=true:=gz;rw[Hs.o]at e1;rw[Hb.o]at e2;go_upto_region 13 with fail
 refine Gd [58,59,60,61,62,63,64,65,66,67,68,69,70,71,72,73,74,75,76,77,15,16]
  (fun ix v W=>match ix with|0=>v=eb|1=>v=eb|2=>v=eb|3=>v=pb1|4=>v=pb1|5=>v=(pb1,1)|6=>v=.map (some mb1)|7=>v=(w,1,2)|8=>v=a.name|9=>v=xb|10=>v=eb|11=>v=eb|12=>v=(eb,1)|13=>v=pb2|14=>v=pb2|15=>v=(pb2,1)|16=>v=.map (some mb2)|17=>v=(w,2,2)|18=>v=b.name|19=>v=yb|20=>v=xb|21=>v=yb|_=>True)
  (fun L U W=>W=W7.drew) (rfl) ?_ ?_
 ·exact iy
 rintro L U W hL hφ hR;have e20:U 20=xb:=hφ 20 aL;have e21:U 21=yb:=hφ 21 aL;simp only[e20,e21];clear hφ;subst hR;clear hL;have e5:=HH.o.v0;go_wp2_with fail;have HL:=Aa (HH.o.st.after (Am _ _).drew);have HT:=Aa (An HH.o.T (show w.heap.size+4<w.heap.size+5 by omega) HL.o.keep.drew);refine Gd [156,157,999,9]
  (fun ix v W=>match ix with|0=>v=.agg #[.int .u8 (vv.what.toNat:Int),vv.text,(vv.tag:Int),.slice none 0 0]|1=>v=.bool false|3=>v=.bool false|_=>True)
  (fun L U W=>(L 2=false->W=W7.drew.drew)/\(L 2=true->W=W7.drew.drew.setCells (w.heap.size+4) 0 [.int .u8 (vv.what.toNat:Int),vv.text,(vv.tag:Int),.slice none 0 0])) (⟨fun _=>rfl,fun h=>Bool.noConfusion h⟩) ?_ ?_
 ·repeat (first|exact Ai.nil|(refine Ai.cons ?_ ?_;rotate_left))
  all_goals
   rintro L U W hL hpre HR Hdep K hK;first|(simp[Region.binds]at hpre;done)|simp[Region.binds]at hpre|clear hpre
  ·exact j6
  ·have x6:W.cell? (w,6,0)=some (.bool false):=by
    cases e2:L 2 with
    |false=>rw[HR.o.1 e2];exact HL.o.c6
    |true=>
     exact mW
   exact lR
  ·have hW:=HR.o.1 hL;subst hW;have u0:U 0=.agg #[.int .u8 (vv.what.toNat:Int),vv.text,(vv.tag:Int),.slice none 0 0]:=cO;rw[if_pos cC];refine wp_store_mid 47 _ _ rfl (w.heap.size+4) 0 ([.int .u8 (vv.what.toNat:Int),vv.text,(vv.tag:Int),.slice none 0 0]:List Value).toArray rfl u0 HT.o aP bu ?_;exact mX
  ·exact ii
 rintro L U W hL hφ hR;have hW:=hR.2 (hL 2 aL);have u3:U 3=.bool false:=hφ 3 aL;simp only[u3];clear hR hL hφ u3;subst hW;go_wp2_with fail;refine aG (v:=.tuple #[.agg ([.int .u8 (vv.what.toNat:Int),vv.text,(vv.tag:Int),.slice none 0 0]:List Value).toArray,.bool false]) ?_ rfl ?_
 ·exact As results74 _ _ (w.heap.size+4) [.int .u8 (vv.what.toNat:Int),vv.text,(vv.tag:Int),.slice none 0 0] _ _ rfl rfl (ac _ _ _ _ HT.o) underlying47 rfl aP
 refine⟨.slice none 0 0,rfl,by rw[Hk.o];exact Qf8 _ _ _ _,?_⟩;exact Aj _ aI _ _ _ HL.o.bel.drew
theorem Xw(w0:World)(x:PT)(hx:Rl w0 x)(n:Nat)(hn:n<=1000000000)(f:Fd)(hf:Au x.ty.fields n=some f):∃b o,b<w0.heap.size/\w0.rangeAt b o (Tf f)/\∀W,Below w0 w0 W ->
  Calls prog 62 #[x.blk,.int .i64 n] W fun e w'=>e=.returned (.pointer (some ⟨b,o,none⟩))/\W=w':=by
 obtain⟨z0,_,_,_,z3,_,A,c,hfv,hl,hr⟩:=hx;rw[hfv]at z3;unfold Au at hf;obtain⟨hp,j,hj,hfj,hlt⟩:=List.find?_eq_some_iff_getElem.1 hf;obtain⟨b,off,rfl,hbl,hrg⟩:=Rk.range hr hj;rw[hfj]at hrg;refine⟨b,off+j*6,hbl,hrg,fun W hW=>?_⟩;have c2:W.cell? (x.blk,2)=some (.slice (some ⟨b,off,none⟩) x.ty.fields.length c):=(hW.cell (p:=⟨x.blk,2,none⟩) z0).trans z3;have Hr:=Aa hr;have Hb:=Aa hW;have Hlt:=Aa hlt;have Htag:=@Aa (f.tag=n) ez;have Hfj:=Aa hfj;clear hr hfv z3 hW hlt hp hfj hf hrg;go_enter func62,ntmps62;go_wp2_with fail;go_loop [11] (fun i=>∃k:Nat,i=.int .i64 k/\k<=j) (fun i=>x.ty.fields.length - (intOf i).toNat)
 case atStart=>exact⟨0,rfl,ah _⟩
 case round=>
  obtain⟨k,rfl,hk⟩:=hrel;have hkl:k<x.ty.fields.length:=aI;obtain⟨b',off',e',hbl',hrg'⟩:=Rk.range Hr.o hkl;injection e' with e';injection e' with e1 e2;subst e1 e2;have c0:W.cell? ⟨b,off+k*6,none⟩=some (.int .i64 ((x.ty.fields[k]).tag:Int)):=by simpa using Ac (Ah hrg' hbl' Hb.o) 0 rfl
  have k1:(0:Int)<=(k:Int):=aI;have k2:(k:Int)<(x.ty.fields.length:Int):=aI;clear hrg';by_cases he:k=j
  ·subst he;rw[Hfj.o,Htag.o]at c0;have t1:((n:Int) == (n:Int))=true:=aN;go_wp2_with fail;exact kN
  ·have hne:(x.ty.fields[k]).tag≠n:=by have:=Hlt.o k aI;simpa using this
   have t1:(((x.ty.fields[k]).tag:Int) == (n:Int))=false:=co;generalize (x.ty.fields[k]).tag=tk at *;clear hne;go_wp2_with fail;go_round
   case rel=>exact⟨k+1,by go_num,by omega⟩
   case measure=>simp[intOf];omega
theorem Tl.single{base B:Nat}{W:World}{h0 h1 h2:Value}(h:Tl base B W h0 h1 h2 (.slice none 0 0) (.slice none 0 0) []){y:Vl}{sl:Value}(hs:Ee (fun c=>base<=c) W sl y.kids):
  Tl base B (W.alloc (.cells (Mf (y,sl)).toArray 47)) h0 h1 h2 (.slice none 0 0) (.slice (W,0) 1 1) [(y,sl)]:=by
 have hb:=(Am W.heap.size W).alloc (Ao _) (.cells (Mf (y,sl)).toArray 47);have h2:=h.after hb;refine⟨h2.lt,h2.bs,h2.hB,h2.bk,h2.c0,h2.c1,h2.c2,h2.c3,⟨rfl,.inr ⟨W.heap.size,1,(Mf (y,sl)).toArray,rfl,h.bs,heap_alloc_new _ _,Ao _,by unfold maxLen;omega,rfl,rfl⟩⟩,fun x hx=>?_⟩;simp at hx;subst hx;exact(hs.mono (Q:=fun c=>base<=c/\(Value.slice (W,0) 1 1).ownBlock≠some c) fun c hc hl=>⟨hc,by simp[Value.ownBlock];omega⟩).after hb
structure Vm(w W7 W1:World)(h0 h1 h2:Value)(r:Vl × Bool)(l19 l20 l22:Bool)(u19 u20:Value)(W:World):Prop where
 s0:l19=false->W=W1
 s1:l19=true->l20=false->∃sl,u19=Ev r.1 sl/\Ee (fun c=>W1.heap.size<=c) W sl r.1.kids/\LiS w W7 W h0 h1 h2 r.2 (.slice none 0 0) []
 s2:l20=true->l22=false->∃W8 sl,W=W8.alloc (.cells (Mf (r.1,sl)).toArray 47)/\u20=.slice (some ⟨W8.heap.size,0,none⟩) 1 1/\Ee (fun c=>W1.heap.size<=c) W8 sl r.1.kids/\LiS w W7 W8 h0 h1 h2 r.2 (.slice none 0 0) []
 s3:l22=true->∃g sl,LiS w W7 W h0 h1 h2 r.2 (.slice (some ⟨g,0,none⟩) 1 1) [(r.1,sl)]
section
variable {w W7 W W' W1:World} {h0 h1 h2 u19 u20:Value} {l19 l20 l22:Bool} {r:Vl × Bool}
theorem Vm.start:Vm w W7 W1 h0 h1 h2 r false false false u19 u20 W1:=⟨fun _=>rfl,fun h=>Bool.noConfusion h,fun h=>Bool.noConfusion h,fun h=>Bool.noConfusion h⟩
theorem Vm.put19{sl:Value}(hl:LiS w W7 W1 h0 h1 h2 false (.slice none 0 0) [])(h20:l20=false)(h22:l22=false)(hs:Ee (fun c=>W1.heap.size<=c) W sl r.1.kids)(hg:W1.grownBy W (some (w.heap.size+6)))(hc:W.cell? (w,6,0)=some (.bool (false || r.2)))(hf:W.frozen? (w,6,0)=false):
  Vm w W7 W1 h0 h1 h2 r true l20 l22 (Ev r.1 sl) u20 W:=by
 subst h20 h22;exact⟨fun h=>Bool.noConfusion h,fun _ _=>⟨sl,rfl,hs,hl.one hg (by simpa using hc) hf⟩,fun h=>Bool.noConfusion h,fun h=>Bool.noConfusion h⟩
theorem Vm.put20(h:Vm w W7 W1 h0 h1 h2 r l19 l20 l22 u19 u20 W)(h19:l19=true)(h20:l20=false)(h22:l22=false):∃sl,u19=Ev r.1 sl/\(∃A n c,sl=.slice A n c) /\
  Vm w W7 W1 h0 h1 h2 r l19 true l22 u19 (.slice (W,0) 1 1) (W.alloc (.cells (Mf (r.1,sl)).toArray 47)):=by
 obtain⟨sl,e,hs,hL⟩:=h.s1 h19 h20;subst h22;exact⟨sl,e,by obtain⟨A,c,e⟩:=hs.form;exact⟨A,_,c,e⟩,fun h=>absurd (h19.symm.trans h) aL,fun _ h=>Bool.noConfusion h,fun _ _=>⟨W,sl,rfl,rfl,hs,hL⟩,fun h=>Bool.noConfusion h⟩
theorem Vm.put22(h:Vm w W7 W1 h0 h1 h2 r l19 l20 l22 u19 u20 W)(hb1:w.heap.size+7<=W1.heap.size)(h19:l19=true)(h20:l20=true)(h22:l22=false)(hW:W'=W.setCell ⟨w.heap.size+5,3,none⟩ u20):Vm w W7 W1 h0 h1 h2 r l19 l20 true u19 u20 W':=by
 subst hW;obtain⟨W8,sl,rfl,eu,hs,hL⟩:=h.s2 h20 h22;have hb8:=(Am W8.heap.size W8).alloc (Ao _) (.cells (Mf (r.1,sl)).toArray 47);have hK:=(hL.st.single (hs.mono fun c hc _=>ae hb1 hc)).store;have hL2:=hL.after hb8;have hlt:w.heap.size+6<W8.heap.size:=hL.st.bs;have hg:=Al (W8.alloc (.cells (Mf (r.1,sl)).toArray 47)) (w.heap.size+5) 3 u20;rw[<-eu]at hK;refine⟨fun h=>absurd (h19.symm.trans h) aL,fun _ h=>absurd (h20.symm.trans h) aL,fun _ h=>Bool.noConfusion h,fun _=>⟨W8.heap.size,sl,hL2.bel.setCell (p:=⟨w.heap.size+5,3,none⟩) (show w.heap.size<=w.heap.size+5 by omega) _,hL2.keep.setCell (p:=⟨w.heap.size+5,3,none⟩) (Ao (w.heap.size+5)) _,eu ▸ hK,hg.cell hL2.c6 aN,(hg.frozen_far ⟨w.heap.size+6,0,none⟩ aO aN).trans hL2.f6⟩⟩
end
theorem Qjq(P:Nat->Prop)(w:World)(eb:Nat)(a b:Kd)(hs:a.signs=[])(hb:a.base=[64])(vv x:Vl)(hw85:vv.what=85)(hk:vv.kids=[x])(A2:Option Addr)(c2:Nat)(hiv:Ee P w (.slice A2 1 c2) [x])(xp yp:PT)(pb1 mb1 pb2 mb2:Nat)(hlk:LkT w eb a.name b.name xp.blk yp.blk pb1 mb1 pb2 mb2)
  (hxp:Rl w xp) (hyp:Rl w yp) (f g:Fd) (htag:vv.tag<=1000000000) (hf:Au xp.ty.fields vv.tag=some f) (hg:Au yp.ty.fields vv.tag=some g) (r:Vl × Bool)
  (HC0:∀W A n c,Below w.heap.size w W->Ee P W (.slice A n c) x.kids->Calls prog 74 #[.pointer (some ⟨eb,0,none⟩),Eh f.kind,Eh g.kind,Ev x (.slice A n c)] W (Mt r W)):
  Calls prog 74 #[.pointer (some ⟨eb,0,none⟩),Eh a,Eh b,Ev vv (.slice A2 1 c2)] w (Mt (.mk vv.what vv.text vv.tag [r.1],r.2) w):=by
 obtain⟨n2,hn2⟩:∃n2,n2=1:=⟨_,rfl⟩
 have Hs:=Aa hs;have Hb:=Aa hb;have HLk:=Aa hlk;have T85:=@Aa (((vv.what.toNat:Int) == 85)=true) (by rw[hw85];rfl);obtain⟨fb,fo,hfl,hfr,hfc⟩:=Xw w xp hxp vv.tag htag f hf;obtain⟨gb,go,hgl,hgr,hgc⟩:=Xw w yp hyp vv.tag htag g hg;have Hfr:=Aa hfr;have Hfc:=Aa hfc;have Hgr:=Aa hgr;have Hgc:=Aa hgc;obtain⟨A',c',ks,hv,hkk,hl,hr,hP,hks⟩:=hiv;injection hv with hv1 hv2 hv3;subst hv1 hv3;obtain⟨⟨x',sx⟩,rfl⟩:=List.length_eq_one_iff.1 hv2.symm;clear hv2;have hx0:x'=x:=by simp[Bi]at hkk;exact hkk.symm
 subst hx0;have hsx:=hks _ (ar.2 rfl);obtain⟨B2,o3,rfl,hBl,x0,x1,x2,x3⟩:=Ee.at_ (i:=0) hr aN;simp only[Nat.zero_mul,Nat.add_zero,List.getElem_cons_zero]at x0 x1 x2 x3 hsx;obtain⟨A9,c9,rfl⟩:=hsx.form;have X0:=Aa x0;have X1:=Aa x1;have X2:=Aa x2;have X3:=Aa x3;have Hsx:=Aa hsx;have HC9:=Aa HC0;clear HC0;clear hs hb hk hlk hw85 hf hg hfr hfc hgr hgc hkk hl hr hP hks hxp hyp x0 x1 x2 x3 hsx;obtain⟨W7,hW7⟩:∃W7,W7=(((((((w.alloc (.cells #[.pointer (some ⟨eb,0,none⟩)] 117)).alloc (.cells #[.string ⟨a.signs.toArray⟩,.string ⟨a.base.toArray⟩,.string ⟨a.name.toArray⟩] 62)).alloc (.cells #[.string ⟨b.signs.toArray⟩,.string ⟨b.base.toArray⟩,.string ⟨b.name.toArray⟩] 62)).alloc (.cells #[.int .u8 (vv.what.toNat:Int),.string ⟨vv.text.toArray⟩,.int .i64 (vv.tag:Int),.slice (some ⟨B2,o3,none⟩) n2 c2] 47)).alloc (.cells #[.int .u8 0,.string ⟨#[]⟩,.int .i64 0,.slice none 0 0] 47)).alloc (.cells #[.int .u8 (vv.what.toNat:Int),.string ⟨vv.text.toArray⟩,.int .i64 (vv.tag:Int),.slice none 0 0] 47)).alloc (.cells #[.bool false] 4)):=⟨_,rfl⟩
 have HH:=Aa (Xt w W7 eb a b vv (some ⟨B2,o3,none⟩) n2 c2 hW7);unfold Eh Ev;go_enter func74,ntmps74;go_upto_region 4 with fail
 subst hn2;rw[<-hW7];clear hW7;have e1:=HH.o.a0;have e2:=HH.o.a1;have t1:a.signs.isEmpty=true:=gz;rw[Hs.o]at e1;rw[Hb.o]at e2;have hbw:=HH.o.st.bel
 have HC:=Aa (show Calls prog 120 #[Eh f.kind,Eh g.kind,Ev x' (.slice A9 x'.kids.length c9),.pointer (some ⟨w.heap.size,0,none⟩),.pointer (some ⟨w.heap.size+6,0,none⟩)] W7.drew.drew (Qba r false (w.heap.size+6) W7.drew.drew)from by
  have hL:=HH.o.st.after ((Am W7.heap.size W7).drew.drew);exact Qe7 W7.drew.drew eb w.heap.size (w.heap.size+6) (by have:=HH.o.sz;simp;omega) (by have:=HH.o.sz;simp;omega) HH.o.e0 false hL.c6 hL.f6 f.kind g.kind x' A9 _ c9 r fun W' hW'=>HC9.o W' A9 _ c9 (hL.bel.trans (hW'.mono hL.bel.size)) (Hsx.o.after (hL.bel.trans (hW'.mono hL.bel.size))))
 unfold Eh Ev at HC;have hz7:=HH.o.sz;go_upto_region 13 with fail
 refine Gd [58,59,60,61,62,63,64,65,66,67,68,69,70,71,72,73,74,75,76,77,15,16]
  (fun ix v W=>match ix with|0=>v=.pointer (some ⟨eb,0,none⟩)|1=>v=.pointer (some ⟨eb,0,none⟩)|2=>v=.pointer (some ⟨eb,0,none⟩)|3=>v=.pointer (some ⟨pb1,0,none⟩)|4=>v=.pointer (some ⟨pb1,0,none⟩)|5=>v=.pointer (some ⟨pb1,1,none⟩)|6=>v=.map (some mb1)|7=>v=.pointer (some ⟨w.heap.size+1,2,none⟩)|8=>v=.string ⟨a.name.toArray⟩|9=>v=.pointer (some ⟨xp.blk,0,none⟩)|10=>v=.pointer (some ⟨eb,0,none⟩)|11=>v=.pointer (some ⟨eb,0,none⟩)|12=>v=.pointer (some ⟨eb,1,none⟩)|13=>v=.pointer (some ⟨pb2,0,none⟩)|14=>v=.pointer (some ⟨pb2,0,none⟩)|15=>v=.pointer (some ⟨pb2,1,none⟩)|16=>v=.map (some mb2)|17=>v=.pointer (some ⟨w.heap.size+2,2,none⟩)|18=>v=.string ⟨b.name.toArray⟩|19=>v=.pointer (some ⟨yp.blk,0,none⟩)|20=>v=.pointer (some ⟨xp.blk,0,none⟩)|21=>v=.pointer (some ⟨yp.blk,0,none⟩)|_=>True)
  (fun L U W=>W=W7.drew) (rfl) ?_ ?_
 ·exact iy
 rintro L U W hL hφ hR;have e20:U 20=.pointer (some ⟨xp.blk,0,none⟩):=hφ 20 aL;have e21:U 21=.pointer (some ⟨yp.blk,0,none⟩):=hφ 21 aL;simp only[e20,e21];clear hφ;subst hR;clear hL;have e5:=HH.o.v0;have t85:=T85.o;go_upto_region 16 with fail
 clear t85;refine Gd [82,83,84,85,86,87,88,89,90,91,92,93,94,95,96,97,98,99,100,101,102,103,999]
  (fun ix v W=>match ix with|0=>v=.func (.func 120) #[] #[.pointer (some ⟨w.heap.size,0,none⟩),.pointer (some ⟨w.heap.size+6,0,none⟩)]|1=>v=.pointer (some ⟨xp.blk,0,none⟩)|2=>v=.pointer (some ⟨w.heap.size+3,2,none⟩)|3=>v=.int .i64 (vv.tag:Int)|4=>v=.pointer (some ⟨fb,fo,none⟩)|5=>v=.pointer (some ⟨fb,fo,none⟩)|6=>v=.pointer (some ⟨fb,fo+2,none⟩)|7=>v=.agg #[.string ⟨f.kind.signs.toArray⟩,.string ⟨f.kind.base.toArray⟩,.string ⟨f.kind.name.toArray⟩]|8=>v=.pointer (some ⟨yp.blk,0,none⟩)|9=>v=.pointer (some ⟨w.heap.size+3,2,none⟩)|10=>v=.int .i64 (vv.tag:Int)|11=>v=.pointer (some ⟨gb,go,none⟩)|12=>v=.pointer (some ⟨gb,go,none⟩)|13=>v=.pointer (some ⟨gb,go+2,none⟩)|14=>v=.agg #[.string ⟨g.kind.signs.toArray⟩,.string ⟨g.kind.base.toArray⟩,.string ⟨g.kind.name.toArray⟩]|15=>v=.pointer (some ⟨w.heap.size+3,3,none⟩)|16=>v=.slice (some ⟨B2,o3,none⟩) 1 c2|17=>v=.pointer (some ⟨B2,o3,none⟩)|18=>v=.agg #[.int .u8 (x'.what.toNat:Int),.string ⟨x'.text.toArray⟩,.int .i64 (x'.tag:Int),.slice A9 x'.kids.length c9]|21=>v=.pointer (some ⟨w.heap.size+5,3,none⟩)|_=>True)
  (fun L U W=>Vm w W7 W7.drew.drew (.int .u8 (vv.what.toNat:Int)) (.string ⟨vv.text.toArray⟩) (.int .i64 (vv.tag:Int)) r (L 19) (L 20) (L 22) (U 19) (U 20) W) (Vm.start) ?_ ?_
 ·repeat (first|exact Ai.nil|(refine Ai.cons ?_ ?_;rotate_left))
  all_goals
   rintro L U W hL hpre HR Hdep K hK;first|(simp[Region.binds]at hpre;done)|simp[Region.binds]at hpre|clear hpre
  iterate 3
   ·exact ii
  ·have h19:L 19=false:=(At Hdep.o 19 7 rfl (At Hdep.o 7 6 rfl (At Hdep.o 6 5 rfl (At Hdep.o 5 4 rfl (At Hdep.o 4 3 rfl hL)))))
   exact mY
  ·have h19:L 19=false:=(At Hdep.o 19 7 rfl (At Hdep.o 7 6 rfl (At Hdep.o 6 5 rfl (At Hdep.o 5 4 rfl hL))))
   have hW:=HR.o.s0 h19;subst hW;go_simp;refine(Hfc.o _ (hbw.drew.drew)).mono ?_;rintro e w5 ⟨rfl,rfl⟩;exact lP
  iterate 2
   ·exact ii
  ·have h19:L 19=false:=(At Hdep.o 19 7 rfl hL)
   have hW:=HR.o.s0 h19;subst hW;exact mZ
  iterate 2
   ·exact ii
  ·have h19:L 19=false:=(At Hdep.o 19 14 rfl (At Hdep.o 14 13 rfl (At Hdep.o 13 12 rfl (At Hdep.o 12 11 rfl (At Hdep.o 11 10 rfl hL)))))
   exact mY
  ·have h19:L 19=false:=(At Hdep.o 19 14 rfl (At Hdep.o 14 13 rfl (At Hdep.o 13 12 rfl (At Hdep.o 12 11 rfl hL))))
   have hW:=HR.o.s0 h19;subst hW;go_simp;refine(Hgc.o _ (hbw.drew.drew)).mono ?_;rintro e w5 ⟨rfl,rfl⟩;exact lP
  iterate 2
   ·exact ii
  ·have h19:L 19=false:=(At Hdep.o 19 14 rfl hL)
   have hW:=HR.o.s0 h19;subst hW;exact n6
  ·exact ii
  ·have h19:L 19=false:=(At Hdep.o 19 18 rfl (At Hdep.o 18 17 rfl (At Hdep.o 17 16 rfl hL)))
   have hW:=HR.o.s0 h19;subst hW;have x0:=HH.o.v3;exact lR
  ·exact ii
  ·have h19:L 19=false:=(At Hdep.o 19 18 rfl hL)
   have hW:=HR.o.s0 h19;subst hW;have y0:=(hbw.cell (p:=⟨B2,o3,none⟩) hBl).trans X0.o;have y1:=(hbw.cell (p:=⟨B2,o3+1,none⟩) hBl).trans X1.o;have y2:=(hbw.cell (p:=⟨B2,o3+2,none⟩) hBl).trans X2.o;have y3:=(hbw.cell (p:=⟨B2,o3+3,none⟩) hBl).trans X3.o;exact lR
  ·have h20:L 20=false:=At Hdep.o 20 19 rfl hL;have h22:L 22=false:=At Hdep.o 22 20 rfl h20;have hW:=HR.o.s0 hL;subst hW;go_simp;refine HC.o.mono ?_;rintro e w5 ⟨sl5,rfl,hs5,hg5,hc5,hf5⟩;obtain⟨A5,c5,rfl⟩:=hs5.form;go_simp;exact hK (Ev r.1 (.slice A5 r.1.kids.length c5)) _ _ Ab Ab (Vm.put19 (HH.o.st.after ((Am W7.heap.size W7).drew.drew)) h20 h22 hs5 hg5 hc5 hf5) eX
  ·have l19:L 19=true:=aM;have h22:L 22=false:=At Hdep.o 22 20 rfl hL;obtain⟨sl5,u19,⟨A5,n5,c5,e5⟩,hn⟩:=HR.o.put20 l19 hL h22;subst e5;unfold Ev at u19;unfold Mf at hn;simp only[u19];go_simp;exact hK _ _ _ Ab Ab hn (by simp[Act.put,hpre,u19])
  ·exact ii
  ·have l20:L 20=true:=bG;have l19:L 19=true:=G7 (At Hdep.o 20 19 rfl) l20;obtain⟨W8,sl5,hW,u20,hs8,hL8⟩:=HR.o.s2 l20 hL;have hLa:=hL8.after ((Am W8.heap.size W8).alloc (Ao _) (.cells (Mf (r.1,sl5)).toArray 47));rw[<-hW]at hLa;clear hW;have x3:=hLa.st.c3;have x4:=hLa.st.bk.live 3;have x5:=hLa.st.lt;go_simp;exact hK undef _ _ Ab Ab (HR.o.put22 aO l19 l20 hL (by rw[u20])) (by simp[Act.put,hpre,u20])
 rintro L U W hL hφ hR;clear hφ;obtain⟨g8,sl8,hL8⟩:=hR.s3 (hL 22 aL);have HL8:=Aa hL8;clear hR hL hL8;obtain⟨W8,rfl⟩:∃W8:World,W8=W:=⟨_,rfl⟩
 go_wp2_with fail;have HL:=Aa (HL8.o.after (Am _ _).drew);have HT:=Aa (An HH.o.T (show w.heap.size+4<w.heap.size+5 by omega) HL.o.keep);refine Gd [156,157,999,9]
  (fun ix v W=>match ix with|0=>v=.agg #[.int .u8 (vv.what.toNat:Int),.string ⟨vv.text.toArray⟩,.int .i64 (vv.tag:Int),.slice (some ⟨g8,0,none⟩) 1 1]|1=>v=.bool r.2|3=>v=.bool r.2|_=>True)
  (fun L U W=>(L 2=false->W=W8.drew)/\(L 2=true->W=W8.drew.setCells (w.heap.size+4) 0 [.int .u8 (vv.what.toNat:Int),.string ⟨vv.text.toArray⟩,.int .i64 (vv.tag:Int),.slice (some ⟨g8,0,none⟩) 1 1])) (⟨fun _=>rfl,fun h=>Bool.noConfusion h⟩) ?_ ?_
 ·repeat (first|exact Ai.nil|(refine Ai.cons ?_ ?_;rotate_left))
  all_goals
   rintro L U W hL hpre HR Hdep K hK;first|(simp[Region.binds]at hpre;done)|simp[Region.binds]at hpre|clear hpre
  ·exact j6
  ·have x6:W.cell? ⟨w.heap.size+6,0,none⟩=some (.bool r.2):=by
    cases e2:L 2 with
    |false=>rw[HR.o.1 e2];exact HL.o.c6
    |true=>
     exact mW
   exact lR
  ·have hW:=HR.o.1 hL;subst hW;have u0:U 0=.agg #[.int .u8 (vv.what.toNat:Int),.string ⟨vv.text.toArray⟩,.int .i64 (vv.tag:Int),.slice (some ⟨g8,0,none⟩) 1 1]:=cO;rw[if_pos cC];refine wp_store_mid 47 _ _ rfl (w.heap.size+4) 0 ([.int .u8 (vv.what.toNat:Int),.string ⟨vv.text.toArray⟩,.int .i64 (vv.tag:Int),.slice (some ⟨g8,0,none⟩) 1 1]:List Value).toArray rfl u0 HT.o aP bu ?_;exact mX
  ·exact ii
 rintro L U W hL hφ hR;have hW:=hR.2 (hL 2 aL);have u3:U 3=.bool r.2:=hφ 3 aL;simp only[u3];clear hR hL hφ u3;subst hW;go_wp2_with fail;refine aG (v:=.tuple #[.agg ([.int .u8 (vv.what.toNat:Int),.string ⟨vv.text.toArray⟩,.int .i64 (vv.tag:Int),.slice (some ⟨g8,0,none⟩) 1 1]:List Value).toArray,.bool r.2]) ?_ rfl ?_
 ·exact As results74 _ _ (w.heap.size+4) [.int .u8 (vv.what.toNat:Int),.string ⟨vv.text.toArray⟩,.int .i64 (vv.tag:Int),.slice (some ⟨g8,0,none⟩) 1 1] _ _ rfl rfl (ac _ _ _ _ HT.o) underlying47 rfl aP
 refine⟨.slice (some ⟨g8,0,none⟩) 1 1,rfl,?_,Aj _ aI _ _ _ HL.o.bel⟩;have h2:=(HL.o.st.done aN).grown (Bq (w.heap.size+4) [.int .u8 (vv.what.toNat:Int),.string ⟨vv.text.toArray⟩,.int .i64 (vv.tag:Int),.slice (some ⟨g8,0,none⟩) 1 1] 0 _) (fun c hc e=>by injection e with e;omega);exact h2.mono fun c hc _=>aI
theorem Qcm{w w':World}{row:Option Nat}{b o n:Nat}(h:w.there b o n)(hg:w.grownBy w' row)(hb:b<w.heap.size)(hne:some b≠row):w'.there b o n:=fun j hj=>by
 obtain⟨h1,h2⟩:=h j hj;exact⟨by rw[hg.cell_far ⟨b,o+j,none⟩ hb hne];exact h1,by rw[hg.frozen_far ⟨b,o+j,none⟩ hb hne];exact h2⟩
structure Ss(W1:World)(B11:Nat)(l:Bool)(r:Vl × Bool)(l16 l17 l18:Bool)(u16 u17:Value)(W:World):Prop where
 s0:l16=false->Below W1 W1 W
 s1:l16=true->∃sl,u16=Ev r.1 sl/\Ee (fun c=>W1.heap.size<=c/\(l17=true->u17≠c)) W sl r.1.kids/\W1.grownBy W (some B11)/\W.cell? (B11,0)=some (.bool (l || r.2))/\W.frozen? (B11,0)=false
 al:l17=true->∃B,u17=.pointer (some ⟨B,0,none⟩)/\W1.heap.size<=B/\B<W.heap.size/\W.there B 0 4/\(l18=true->∃sl,u16=Ev r.1 sl/\W.rangeAt B 0 (Mf (r.1,sl)))
section
variable {W1 W W':World} {B11:Nat} {l l16 l17 l18:Bool} {r:Vl × Bool} {u16 u17:Value}
theorem Ss.start:Ss W1 B11 l r false false l18 u16 u17 W1:=⟨fun _=>Am _ _,fun h=>Bool.noConfusion h,fun h=>Bool.noConfusion h⟩
theorem Ss.put16(h:Ss W1 B11 l r l16 l17 l18 u16 u17 W)(h16:l16=false)(h18:l18=false)(h11:B11<W1.heap.size){sl:Value}(hs:Ee (fun c=>W.heap.size<=c) W' sl r.1.kids)(hg:W.grownBy W' (some B11))(hc:W'.cell? (B11,0)=some (.bool (l || r.2)))(hf:W'.frozen? (B11,0)=false):
  Ss W1 B11 l r true l17 l18 (Ev r.1 sl) u17 W':=by
 have hb:=h.s0 h16;subst h18;refine⟨fun h=>Bool.noConfusion h,fun _=>⟨sl,rfl,hs.mono fun c hc _=>⟨ae hb.size hc,fun h17 e=>?_⟩,Kb (Cf hb _) hg,hc,hf⟩,fun h17=>?_⟩
 ·obtain⟨B,e1,_,h2,_⟩:=h.al h17;rw[e1]at e;injection e with e;injection e with e;injection e with e;have:W.heap.size<=c:=hc;omega
 obtain⟨B,e1,h1,h2,h3,_⟩:=h.al h17;exact⟨B,e1,h1,ad h2 hg.size,Qcm h3 hg h2 cd,fun h=>Bool.noConfusion h⟩
theorem Ss.put17(h:Ss W1 B11 l r l16 l17 l18 u16 u17 W)(h18:l18=false)(h17:l17=false)(T:TypeId):Ss W1 B11 l r l16 true l18 u16 W.heap.size (W.alloc (.cells #[.int .u8 0,aa,.int .i64 0,.slice none 0 0] T)):=by
 have hb:=(Am W.heap.size W).alloc (Ao _) (.cells #[.int .u8 0,aa,.int .i64 0,.slice none 0 0] T);refine⟨fun h16=>(h.s0 h16).trans (hb.mono (h.s0 h16).size),fun h16=>?_,fun _=>⟨_,rfl,?_,by simp,B9 W [.int .u8 0,aa,.int .i64 0,.slice none 0 0] T,fun h=>absurd (h18.symm.trans h) aL⟩⟩
 ·obtain⟨sl,e,hs,hg,hc,hf⟩:=h.s1 h16;have hB:B11<W.heap.size:=World.block_lt_of_cell? W _ hc;refine⟨sl,e,(hs.mono (Q:=fun c=>W1.heap.size<=c/\(true=true->(Value.pointer (W,0))≠c)) fun c hc hl=>⟨hc.1,fun _ e=>by injection e with e;injection e with e;injection e with e;omega⟩).after hb,Kb hg (Cf hb _),(hb.cell (p:=⟨B11,0,none⟩) hB).trans hc,(hb.frozen (p:=⟨B11,0,none⟩) hB).trans hf⟩
 cases e16:l16 with
 |false=>exact(h.s0 e16).size
 |true=>exact(h.s1 e16).choose_spec.2.2.1.size
theorem Ss.put18(h:Ss W1 B11 l r l16 l17 l18 u16 u17 W)(h11:B11<W1.heap.size)(h16:l16=true)(h17:l17=true):∃B sl,u17=.pointer (some ⟨B,0,none⟩)/\u16=Ev r.1 sl/\(∃A n c,sl=.slice A n c)/\W.there B 0 4/\Ss W1 B11 l r l16 l17 true u16 u17 (W.setCells B 0 (Mf (r.1,sl))):=by
 obtain⟨sl,e,hs,hg,hc,hf⟩:=h.s1 h16;obtain⟨B,eB,h1,h2,h3,_⟩:=h.al h17;have hB:B11<W.heap.size:=World.block_lt_of_cell? W _ hc;have hgs:=Bq B (Mf (r.1,sl)) 0 W;refine⟨B,sl,eB,e,by obtain⟨A,c,e⟩:=hs.form;exact⟨A,_,c,e⟩,h3,fun h=>absurd (h16.symm.trans h) aL,fun _=>⟨sl,e,hs.grown hgs fun c hc e=>?_,Vo hg h1 0,(hgs.cell_far ⟨B11,0,none⟩ hB aO).trans hc,(hgs.frozen_far ⟨B11,0,none⟩ hB aO).trans hf⟩,fun _=>⟨B,eB,h1,by rw[Cg];exact h2,aj h3 _ _ _,fun _=>⟨sl,e,ac _ _ _ _ h3⟩⟩⟩;injection e with e;subst e;exact hc.2 h17 eB
theorem Ss.fin(h:Ss W1 B11 l r l16 l17 l18 u16 u17 W)(h16:l16=true)(h17:l17=true)(h18:l18=true):∃B A c,u17=.pointer (some ⟨B,0,none⟩)/\W1.heap.size<=B/\B<W.heap.size/\W.rangeAt B 0 (Mf (r.1,.slice A r.1.kids.length c))/\Ee (fun c=>W1.heap.size<=c) W (.slice A r.1.kids.length c) r.1.kids/\W1.grownBy W (some B11)/\W.cell? (B11,0)=some (.bool (l || r.2))/\W.frozen? (B11,0)=false:=by
 obtain⟨sl,e,hs,hg,hc,hf⟩:=h.s1 h16;obtain⟨B,eB,h1,h2,_,h4⟩:=h.al h17;obtain⟨sl2,e2,h5⟩:=h4 h18;have e3:sl2=sl:=by
  rw[e]at e2;unfold Ev at e2;injection e2 with e2;simpa using e2.symm
 subst e3;obtain⟨A,c,rfl⟩:=hs.form;exact⟨B,A,c,eB,h1,h2,h5,hs.mono fun c hc _=>hc.1,hg,hc,hf⟩
end
end
end Go.Proofs.YtpjijpcemejlnaaGreatDoor
