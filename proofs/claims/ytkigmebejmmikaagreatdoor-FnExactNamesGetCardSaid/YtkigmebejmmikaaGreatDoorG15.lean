/- Texts joined. Conditions: as each theorem names them. -/
import Derived.Laws.EntriesVeiled
import Derived.Test.YtkigmebejmmikaaGreatDoorG14
set_option maxRecDepth 100000
set_option maxHeartbeats 32000000
set_option linter.unusedVariables false
set_option linter.unusedSimpArgs false
namespace Go.Proofs.YtkigmebejmmikaaGreatDoor
open Go.RowKit Go.Proofs.Tryz
theorem Qg2{w:World}{base k n g c:Nat}{e:TypeId}{xs:List Value}(h:w.ownsRow base e k (.slice (g,0) n c) n xs){j:Nat}(hj:j<xs.length)(u:Value):(w.setCell ⟨g,j,none⟩ u).ownsRow base e k (.slice (g,0) n c) n (xs.set j u):=by
 obtain⟨h1,⟨h2,_⟩|⟨g',cap,cur,e1,hb,hh,hnc,hcm,hcs,htk⟩⟩:=h
 ·cases h2
 injection e1 with e1 e2 e3;injection e1 with e1;injection e1 with e1;subst e1 e3;refine⟨by simpa using h1,.inr ⟨g,c,cur.setIfInBounds j u,rfl,hb,heap_setCell_same w g j cur e u hh,hnc,hcm,by simpa using hcs,?_⟩⟩;rw[Array.toList_setIfInBounds,List.take_set,htk]
theorem Qai{base k n g c:Nat}{e:TypeId}:∀(us zs ys:List Value) (w:World),w.ownsRow base e k (.slice (g,0) n c) n (ys++zs)->zs.length=us.length->(w.setCells g ys.length us).ownsRow base e k (.slice (g,0) n c) n (ys++us)
 |[],[],ys,w,h,_=>h
 |u::us,z::zs,ys,w,h,hl=>by
  have h1:=Qg2 h (j:=ys.length) aI u;have e1:(ys++z::zs).set ys.length u=(ys++[u])++zs:=aI;rw[e1]at h1;have h2:=Qai us zs (ys++[u]) _ h1 eG;simp only[ag,List.length_cons,List.length_nil,aj,List.append_assoc,List.singleton_append]at h2;exact h2
theorem Tl{w:World}{base k n:Nat}{e:TypeId}{v:Value}{xs:List Value}(h:w.ownsRow base e k v (n+1) xs):∃g c,v=.slice (some ⟨g,0,none⟩) (n+1) c:=by
 rcases h.2 with⟨_,h0⟩|⟨g,cap,cur,rfl,_⟩
 ·cases h0
 exact⟨_,_,rfl⟩
theorem Qdh{w:World}{base k n g c:Nat}{e:TypeId}{xs zs:List Value}(h:w.ownsRow base e k (.slice (g,0) n c) n (xs++zs)):w.there g xs.length zs.length:=by
 obtain⟨h1,⟨h2,_⟩|⟨g',cap,cur,e1,hb,hh,hnc,hcm,hcs,htk⟩⟩:=h
 ·cases h2
 injection e1 with e1 e2 e3;injection e1 with e1;injection e1 with e1;subst e1 e3;have hlt:(xs++zs).length<=cur.size:=by
  have:=congrArg List.length htk;rw[List.length_take]at this;simp at this ⊢;omega
 intro j hj;refine⟨?_,frozen_of_row w g (xs.length+j) cur e hh⟩;have:xs.length+j<cur.size:=by simp at hlt;omega
 simp[World.cell?,hh,this]
section
variable {P:Program}
theorem Yu(W:World){o:Oper}{a:Act}{K:Act->World->Prop}{Q:Exit->Act->World->Prop}(s x:Operand)(t:TypeId)
  (ho:o.op=.call {callee:=.builtin .append,args:=#[s,x],argTypes:=#[t,t]})
  (base:Nat) (e:TypeId) (z:Value) (k bytes:Nat) (ht:P.underlying t=some (.slice e)) (hinfo:(P.info? e).map (fun i=>(i.zero,i.size,i.bytes))=some (some z,k,bytes))
  (hzs:z.cells.size=k) (hk:0<k) (us:List Value) (hul:us.length=k) (hu:∀u∈us,u.oneCell'=true) (v:Value) (n:Nat) (xs:List Value) (zb:Nat) (hs:a.eval s=v) (hx:a.eval x=.slice (zb,0) 1 1)
  (hz:W.rangeAt zb 0 us) (hown:W.ownsRow base e k v n xs) (h63:n+1<=maxLen) (hbytes:(n+1)*bytes<=140737488355328) (hbase:base<=W.heap.size)
  (h:∀v' w',w'.ownsRow base e k v' (n+1) (xs++us)->W.grownBy w' v.ownBlock->(v'.ownBlock=v.ownBlock\/∃k,v'.ownBlock=some k/\W.heap.size<=k)->K (a.put o.dst v') w'):Oper.wp P o a W K Q:=by
 obtain⟨i0,hi,hz0,hz1,hz2⟩:=info_parts hinfo
 obtain⟨v',w',hrun,r1,r2,r3⟩:=Ja (P:=P) W base t o.type e i0 z k bytes ht hi hz0 hz1 hz2 hzs hk v n xs hown ⟨zb,0,none⟩ 1 1 us aE (by
  intro j y hj;have e1:(⟨zb,0,none⟩:Addr).add j=⟨zb,0+j,none⟩:=bj;rw[e1];exact hz j y hj) hu aH h63 hbytes hbase
 unfold Oper.wp;simp[execOp,ho,resolve,invoke,builtin,hs,hx,hrun,Result.andThen];exact h v' w' r1 r2 r3
end
structure C7(X:Nat->Prop)(vo:Value)(w w':World)(vo':Value):Prop where
 os:w'.os=w.os
 tape:w'.tape=w.tape
 output:w'.output=w.output
 size:w.heap.size<=w'.heap.size
 block:∀b,b<w.heap.size->¬X b->some b≠vo.ownBlock->w'.heap[b]?=w.heap[b]?
 own:vo'.ownBlock=vo.ownBlock\/∃k,vo'.ownBlock=some k/\w.heap.size<=k
section
variable {X Y:Nat->Prop} {v1 v2 v3 vo vo':Value} {a b c w w':World}
theorem C7.of_gw(h:Gw vo vo' w w'):C7 X vo w w' vo':=⟨h.gr.os,h.gr.tape,h.gr.output,h.gr.size,fun b hb _ hne=>h.gr.block b hb hne,h.own⟩
theorem C7.of_below(h:Below w w w'):C7 X vo w w' vo:=.of_gw (Gw.of h)
theorem C7.refl(vo:Value)(w:World):C7 X vo w w vo:=.of_gw (Gw.refl vo w)
theorem C7.trans(h:C7 X v1 a b v2)(k:C7 X v2 b c v3):C7 X v1 a c v3:=by
 refine⟨k.os.trans h.os,k.tape.trans h.tape,k.output.trans h.output,ac h.size k.size,fun x hx h1 h3=>(k.block x (ab hx h.size) h1 ?_).trans (h.block x hx h1 h3),?_⟩
 ·rcases h.own with e|⟨y,e,hy⟩
  ·rw[e];exact h3
  rw[e];intro he;injection he with he;omega
 rcases k.own with e|⟨y,e,hy⟩
 ·rw[e];exact h.own
 exact .inr ⟨y,e,ac h.size hy⟩
theorem C7.more(h:C7 X vo w w' vo')(hx:∀b,X b->Y b):C7 Y vo w w' vo':=⟨h.os,h.tape,h.output,h.size,fun b hb hn hv=>h.block b hb (fun h=>hn (hx b h)) hv,h.own⟩
theorem C7.set{B o:Nat}(hB:X B)(x:Value):C7 X vo w (w.setCell ⟨B,o,none⟩ x) vo:=
 ⟨rfl,rfl,rfl,by simp,fun k hk h1 _=>Below.heap_setCell w ⟨B,o,none⟩ x k (fun e=>h1 (e ▸ hB)),.inl rfl⟩
theorem C7.row{g o:Nat}(hg:vo'.ownBlock=some g)(h:C7 X vo w w' vo')(us:List Value):C7 X vo w (w'.setCells g o us) vo':=by
 have hh:∀(us:List Value) (o:Nat) (W:World),(W.setCells g o us).os=W.os/\(W.setCells g o us).tape=W.tape/\(W.setCells g o us).output=W.output:=by
  intro us;induction us with
  |nil=>intro o W;exact⟨rfl,rfl,rfl⟩
  |cons u us ih=>intro o W;exact ih (o+1) _
 obtain⟨e1,e2,e3⟩:=hh us o w';refine⟨e1.trans h.os,e2.trans h.tape,e3.trans h.output,by rw[Cm];exact h.size,fun k hk h1 h3=>?_,h.own⟩;refine((D8 g us o w').block k (ab hk h.size) ?_).trans (h.block k hk h1 h3);intro e;injection e with e;subst e;rcases h.own with e|⟨y,e,hy⟩
 ·rw[hg]at e;exact h3 e
 rw[hg]at e;exact iT
theorem C7.cell(h:C7 X vo w w' vo'){b o:Nat}{u:Value}(hu:w.cell? ⟨b,o,none⟩=some u)(hb:b<w.heap.size)(h1:¬X b)(h3:some b≠vo.ownBlock):w'.cell? ⟨b,o,none⟩=some u:=(World.cell?_of_block (h.block b hb h1 h3)).trans hu
theorem C7.under{lo:Nat}(h:C7 X vo w w' vo')(hl:lo<=w.heap.size)(hX:∀b,X b->lo<=b)(hv:∀k,vo.ownBlock=some k->lo<=k):Below lo w w':=
 ⟨h.os,h.tape,h.output,h.size,fun k hk=>h.block k (ab hk hl) (fun e=>by have:=hX k e;omega) fun e=>by have:=hv k e.symm;omega⟩
end
def Ju:List Value:=[.int .u8 0,a8,.int .i64 0,.slice none 0 0]
structure Qi(base B:Nat)(v0:Value)(n:Nat)(xs ec:List Value)(W1:World)(l4 l5 l7 l9:Bool)(u4 u5:Value)(W:World):Prop where
 h5:l5=false->l7=false/\l9=false/\Below W1 W1 W
 h4:l4=true->l5=false->∃z,u4=.slice (some ⟨z,0,none⟩) 1 1/\z<W.heap.size/\W.rangeAt z 0 Ju
 h6:l5=true->∃g c,u5=.slice (some ⟨g,0,none⟩) (n+1) c/\W.ownsRow base 42 4 (.slice (some ⟨g,0,none⟩) (n+1) c) (n+1) (xs++if l7 then ec else Ju)/\C7 (·=B) v0 W1 W (.slice (some ⟨g,0,none⟩) (n+1) c) /\
  W.cell? (B,3)=some (if l9 then .slice (some ⟨g,0,none⟩) (n+1) c else v0)/\(∀o,o<3->W.cell? ⟨B,o,none⟩=W1.cell? ⟨B,o,none⟩)/\Mu W B
section
variable {base B n:Nat} {v0 u4 u5:Value} {xs ec:List Value} {W1 W W':World} {l4 l5 l7 l9:Bool}
theorem Qi.start(h:Below W1 W1 W):Qi base B v0 n xs ec W1 false false false false u4 u5 W:=⟨fun _=>⟨rfl,rfl,h⟩,by simp,by simp⟩
theorem Qi.below(h:Qi base B v0 n xs ec W1 l4 l5 l7 l9 u4 u5 W)(hB:B<W1.heap.size)(hb:Below W W W'):Qi base B v0 n xs ec W1 l4 l5 l7 l9 u4 u5 W':=by
 refine⟨fun e=>?_,fun e e5=>?_,fun e=>?_⟩
 ·obtain⟨h1,h2,h3⟩:=h.h5 e;exact⟨h1,h2,h3.trans (hb.mono h3.size)⟩
 ·obtain⟨z,h1,h2,h3⟩:=h.h4 e e5;exact⟨z,h1,ab h2 hb.size,Av h3 h2 hb⟩
 obtain⟨g,c,h1,h2,h3,h4,h5,h6⟩:=h.h6 e;have hBW:B<W.heap.size:=ab hB h3.size;exact⟨g,c,h1,Bm h2 hb,h3.trans (C7.of_below hb),(hb.cell (p:=⟨B,3,none⟩) hBW).trans h4,fun o ho=>(hb.cell (p:=⟨B,o,none⟩) hBW).trans (h5 o ho),h6.belowAt hBW hb⟩
theorem Qi.kept(h:Qi base B v0 n xs ec W1 l4 l5 l7 l9 u4 u5 W):∃vo',C7 (·=B) v0 W1 W vo':=by
 cases l5
 ·exact⟨_,C7.of_below (h.h5 rfl).2.2⟩
 obtain⟨g,c,_,_,k,_⟩:=h.h6 rfl;exact⟨_,k⟩
theorem Qi.other{ec':List Value}(h:Qi base B v0 n xs ec W1 l4 l5 false l9 u4 u5 W):Qi base B v0 n xs ec' W1 l4 l5 false l9 u4 u5 W:=⟨h.h5,h.h4,h.h6⟩
theorem Qi.zero(h:Qi base B v0 n xs ec W1 false l5 l7 l9 u4 u5 W)(e5:l5=false)(T:TypeId):Qi base B v0 n xs ec W1 true l5 l7 l9 (.slice (W,0) 1 1) u5 (W.alloc (.cells Ju.toArray T)):=by
 subst e5;obtain⟨h1,h2,h3⟩:=h.h5 rfl;exact⟨fun _=>⟨h1,h2,h3.alloc h3.size _⟩,fun _ _=>⟨W.heap.size,rfl,by simp,Ch W Ju T⟩,by simp⟩
theorem Qi.app(h:Qi base B v0 n xs ec W1 l4 false l7 l9 u4 u5 W){g c:Nat}(hB:B<W1.heap.size)(hc:W1.cell? (B,3)=some v0)(hk:Mu W1 B)(hne:some B≠v0.ownBlock)(hown:W'.ownsRow base 42 4 (.slice (g,0) (n+1) c) (n+1) (xs++Ju))(hg:W.grownBy W' v0.ownBlock)
  (hw:(Value.slice (g,0) (n+1) c).ownBlock=v0.ownBlock\/∃k,(Value.slice (g,0) (n+1) c).ownBlock=some k/\W.heap.size<=k):Qi base B v0 n xs ec W1 l4 true l7 l9 u4 (.slice (g,0) (n+1) c) W':=by
 obtain⟨rfl,rfl,h3⟩:=h.h5 rfl;have kk:C7 (·=B) v0 W1 W' (.slice (g,0) (n+1) c):=(C7.of_below h3).trans (C7.of_gw ⟨hg,hw⟩);have hBW:B<W.heap.size:=ab hB h3.size;have hcc:∀o,W'.cell? ⟨B,o,none⟩=W1.cell? ⟨B,o,none⟩:=fun o=>(World.cell?_of_block (a:=⟨B,o,none⟩) (hg.block B hBW hne)).trans (h3.cell (p:=⟨B,o,none⟩) hB);refine⟨by simp,fun _ h=>by simp at h,fun _=>⟨g,c,rfl,hown,kk,(hcc 3).trans hc,fun o _=>hcc o,?_⟩⟩;exact(hk.belowAt hB h3).grown hBW hg hne
theorem Qi.elem(h:Qi base B v0 n xs ec W1 l4 true false l9 u4 u5 W){g c:Nat}(hx:xs.length=n*4)(hec:ec.length=4)(hB:B<W1.heap.size)(hBb:B<base)(hu:u5=.slice (g,0) (n+1) c):W.there g (n*4) 4/\Qi base B v0 n xs ec W1 l4 true true l9 u4 u5 (W.setCells g (n*4) ec):=by
 obtain⟨g',c',h1,h2,h3,h4,h5,h6⟩:=h.h6 rfl;rw[h1]at hu;injection hu with hu _ hc;injection hu with hu;injection hu with hu;subst hu hc;have hgb:=(h2.lt g' rfl).1;have hne:B≠g':=aE;have hBW:B<W.heap.size:=ab hB h3.size;have e4:=Qdh h2;have e5:=Qai ec Ju xs W h2 (by rw[hec];rfl);rw[hx]at e4 e5;have hbk:=(D8 g' ec (n*4) W).block B hBW (by intro e;injection e with e;exact hne e);have hcc:∀o,(W.setCells g' (n*4) ec).cell? ⟨B,o,none⟩=W.cell? ⟨B,o,none⟩:=fun o=>World.cell?_of_block (a:=⟨B,o,none⟩) hbk;obtain⟨cs,T,hcs⟩:=h6;exact⟨e4,by simp,by simp,fun _=>⟨g',c',h1,e5,h3.row rfl ec,(hcc 3).trans h4,fun o ho=>(hcc o).trans (h5 o ho),cs,T,hbk.trans hcs⟩⟩
theorem Qi.head(h:Qi base B v0 n xs ec W1 l4 true l7 false u4 u5 W)(hBb:B<base):Qi base B v0 n xs ec W1 l4 true l7 true u4 u5 (W.setCell ⟨B,3,none⟩ u5):=by
 obtain⟨g,c,h1,h2,h3,h4,h5,h6⟩:=h.h6 rfl;have hgb:=(h2.lt g rfl).1;have hf:=h6.live 3;refine⟨by simp,by simp,fun _=>⟨g,c,h1,?_,h3.trans (C7.set (X:=(·=B)) rfl _),?_,fun o ho=>?_,h6.set _⟩⟩
 ·have hgB:(Value.slice (g,0) (n+1) c).ownBlock≠some B:=fun e=>by
   have e2:g=B:=Option.some.inj e;omega
  exact h2.kept (Ap W B 3 u5) (.inr hgB)
 ·rw[h1];simp[go_sem,h4,hf]
 rw[World.cell?_setCell_other _ _ _ _ (by intro e;injection e with e1 e2;omega)];exact h5 o ho
end
section
attribute [local go_sem] Qjy Qiu Qil Qgp ByteArray.mk_append_mk
structure PtS(X:Nat->Prop)(base B:Nat)(W:World)(u:Value)(xs:List (Vl × Value)):Prop where
 lt:B<W.heap.size
 bs:base<=W.heap.size
 hB:B<base
 bk:Mu W B
 c0:W.cell? (B,0)=some (.int .u8 82)
 c1:W.cell? (B,1)=a8
 c2:W.cell? (B,2)=some (.int .i64 0)
 c3:W.cell? (B,3)=some u
 row:W.ownsRow base 42 4 u xs.length (xs.flatMap Dx)
 kids:∀x∈xs,D1 (fun c=>¬X c/\u.ownBlock≠some c) W x.2 x.1.kids
theorem PtS.after{X:Nat->Prop}{base B:Nat}{W W':World}{u:Value}{xs:List (Vl × Value)}(h:PtS X base B W u xs)(hb:Below W W W'):PtS X base B W' u xs:=by
 exact iQ
theorem PtS.flag{X:Nat->Prop}{base B D:Nat}{W:World}{u v:Value}{xs:List (Vl × Value)}(h:PtS X base B W u xs)(hD:D≠B)(hDb:D<base)(hX:X D):PtS X base B (W.setCell ⟨D,0,none⟩ v) u xs:=by
 have hk:(W.setCell ⟨D,0,none⟩ v).heap[B]?=W.heap[B]?:=Below.heap_setCell W ⟨D,0,none⟩ v B (fun e=>hD e.symm);have hc:∀o,(W.setCell ⟨D,0,none⟩ v).cell? ⟨B,o,none⟩=W.cell? ⟨B,o,none⟩:=fun o=>World.cell?_of_block (a:=⟨B,o,none⟩) hk;obtain⟨cs,T,hcs⟩:=h.bk;refine⟨by simpa using h.lt,by simpa using h.bs,h.hB,⟨cs,T,hk.trans hcs⟩,(hc 0).trans h.c0,(hc 1).trans h.c1,(hc 2).trans h.c2,(hc 3).trans h.c3,h.row.kept (Ap W D 0 v) ?_,fun x hx=>(h.kids x hx).grown (Ap W D 0 v) fun c hc e=>?_⟩
 ·cases hr:u.ownBlock with
  |none=>exact .inl rfl
  |some k=>
   refine .inr fun e=>?_;have e2:k=D:=Option.some.inj e;have:=(h.row.lt k hr).1;omega
 have e2:c=D:=Option.some.inj e;exact hc.1 (e2 ▸ hX)
theorem Zo{P:Nat->Prop}{w:World}{g:Nat}{y:Vl}{sl:Value}(hg:g<w.heap.size)(hr:w.rangeAt g 0 (Dx (y,sl)))(h:D1 P w sl y.kids)(hP:P g):D1 P w (.slice (g,0) 1 1) [y]:=by
 refine .mk (g,0) 1 [(y,sl)] rfl rfl aI ⟨rfl,by unfold maxLen;simp,fun _=>⟨g,0,rfl,hg,fun j u hu=>hr j u dy⟩⟩ (fun g' o _ e=>?_) (fun x hx=>?_)
 ·injection e with e;injection e with e;rw[<-e];exact hP
 rw[an]at hx;subst hx;exact h
theorem PtS.grow{X:Nat->Prop}{base B n:Nat}{W1 W:World}{u u4 u5:Value}{xs:List (Vl × Value)}{z:Vl × Value}(h:PtS X base B W1 u xs)(hn:n=xs.length)(hX:X B)(ha:Qi base B u n (xs.flatMap Dx) (Dx z) W1 true true true true u4 u5 W)(hz:D1 (fun c=>¬X c/\u5.ownBlock≠some c) W z.2 z.1.kids):
  ∃g c,u5=.slice (some ⟨g,0,none⟩) (xs++[z]).length c/\PtS X base B W u5 (xs++[z])/\C7 (·=B) u W1 W u5:=by
 obtain⟨g,c,h1,h2,h3,h4,h5,h6⟩:=ha.h6 rfl;subst hn;have hk:C7 (·=B) u W1 W u5:=by rw[h1];exact h3
 refine⟨g,c,by rw[h1];simp,⟨ab h.lt h3.size,ac h.bs h3.size,h.hB,h6,(h5 0 aH).trans h.c0,(h5 1 aH).trans h.c1,(h5 2 aH).trans h.c2,by rw[h4,h1];rfl,?_,fun x hx=>?_⟩,hk⟩
 ·rw[h1];simpa using h2
 rcases ae.1 hx with hx|hx
 ·refine(h.kids x hx).kept (fun b o v hb hl hv=>hk.cell hv hl (fun e=>hb.1 (e ▸ hX)) (fun e=>hb.2 e.symm)) hk.size fun c hc hl=>⟨hc.1,fun e=>?_⟩
  rcases hk.own with e2|⟨k,e2,hk2⟩
  ·rw[e2]at e;exact hc.2 e
  rw[e2]at e;have e3:k=c:=Option.some.inj e;omega
 rw[an]at hx;subst hx;exact hz
def Zd(tg:Nat)(v:Value):List Value:=[.int .u8 61,a8,(tg:Int),v]
structure P7(base B:Nat)(v0:Value)(n:Nat)(xs:List Value)(tg:Nat)(y:Vl)(sl:Value)(W1:World)(l7 l8 l10 l11 l12 l13 l15:Bool)(u7 u8 u10 u11 u12:Value)(W:World):Prop where
 z:Qi base B v0 n xs (Zd tg u7) W1 l10 l11 l13 l15 u10 u11 W
 r7:l7=true->∃g,u7=.slice (some ⟨g,0,none⟩) 1 1/\W1.heap.size<=g/\g<W.heap.size/\W.rangeAt g 0 (Dx (y,sl))/\(l11=true->u11.ownBlock≠some g)
 r8:l8=true->l7=true/\u8=.agg (Zd tg u7).toArray
 r13:l13=true->l7=true
 r12:l12=true->l11=true/\∃g c,u11=.slice (some ⟨g,0,none⟩) (n+1) c/\u12=.pointer (some ⟨g,n*4,none⟩)
section
variable {base B n tg:Nat} {v0 u7 u8 u10 u11 u12 sl:Value} {xs:List Value} {y:Vl} {W1 W W':World} {l7 l8 l10 l11 l12 l13 l15:Bool}
theorem P7.one(h:P7 base B v0 n xs tg y sl W1 false l8 l10 l11 l12 l13 l15 u7 u8 u10 u11 u12 W)(h8:l8=false)(hB:B<W1.heap.size)(T:TypeId):P7 base B v0 n xs tg y sl W1 true l8 l10 l11 l12 l13 l15 (.slice (W,0) 1 1) u8 u10 u11 u12 (W.alloc (.cells (Dx (y,sl)).toArray T)):=by
 have h13:l13=false:=by cases hq:l13 with|false=>rfl|true=>exact absurd (h.r13 hq) aH
 subst h13;have hsz:W1.heap.size<=W.heap.size:=by obtain⟨_,hk⟩:=h.z.kept;exact hk.size
 refine⟨(h.z.other).below hB ((Ay _ _).alloc (As _) _),fun _=>⟨W.heap.size,rfl,hsz,by simp,Ch W _ T,fun e e2=>?_⟩,fun e=>?_,by simp,h.r12⟩
 ·obtain⟨g,c,e1,e3,_⟩:=h.z.h6 e;rw[e1]at e2;have:=(e3.lt g rfl).2;have e4:g=W.heap.size:=Option.some.inj e2;omega
 rw[h8]at e;cases e
theorem P7.made(h:P7 base B v0 n xs tg y sl W1 l7 false l10 l11 l12 l13 l15 u7 u8 u10 u11 u12 W)(h7:l7=true):P7 base B v0 n xs tg y sl W1 l7 true l10 l11 l12 l13 l15 u7 (.agg (Zd tg u7).toArray) u10 u11 u12 W:=
 ⟨h.z,h.r7,fun _=>⟨h7,rfl⟩,h.r13,h.r12⟩
theorem P7.zero(h:P7 base B v0 n xs tg y sl W1 l7 l8 false l11 l12 l13 l15 u7 u8 u10 u11 u12 W)(h11:l11=false)(T:TypeId):P7 base B v0 n xs tg y sl W1 l7 l8 true l11 l12 l13 l15 u7 u8 (.slice (W,0) 1 1) u11 u12 (W.alloc (.cells Ju.toArray T)):=by
 refine⟨h.z.zero h11 T,fun e=>?_,h.r8,h.r13,h.r12⟩;obtain⟨g,e1,e2,e3,e4,e5⟩:=h.r7 e;exact⟨g,e1,e2,by simp;omega,Av e4 e3 ((Ay _ _).alloc (As _) _),e5⟩
theorem P7.app{g c:Nat}(h:P7 base B v0 n xs tg y sl W1 l7 l8 l10 false l12 l13 l15 u7 u8 u10 u11 u12 W)(hB:B<W1.heap.size)(hc:W1.cell? (B,3)=some v0)(hk:Mu W1 B)(hne:some B≠v0.ownBlock)(hv:∀k,v0.ownBlock=some k->k<W1.heap.size)(hown:W'.ownsRow base 42 4 (.slice (g,0) (n+1) c) (n+1) (xs++Ju))(hg:W.grownBy W' v0.ownBlock)
  (hw:(Value.slice (g,0) (n+1) c).ownBlock=v0.ownBlock\/∃k,(Value.slice (g,0) (n+1) c).ownBlock=some k/\W.heap.size<=k):P7 base B v0 n xs tg y sl W1 l7 l8 l10 true l12 l13 l15 u7 u8 u10 (.slice (g,0) (n+1) c) u12 W':=by
 refine⟨h.z.app hB hc hk hne hown hg hw,fun e=>?_,h.r8,h.r13,fun e=>absurd (h.r12 e).1 aH⟩;obtain⟨g7,e1,e2,e3,e4,e5⟩:=h.r7 e;have hn7:some g7≠v0.ownBlock:=fun e=>by have:=hv g7 e.symm;omega
 refine⟨g7,e1,e2,ab e3 hg.size,Bj e4 hg hn7,fun _ e6=>?_⟩;have e7:g=g7:=Option.some.inj e6;rcases hw with hw|⟨k,hw,hk⟩
 ·exact hn7 (by rw[<-hw,e7];rfl)
 have e8:g=k:=Option.some.inj hw;omega
theorem P7.idx(h:P7 base B v0 n xs tg y sl W1 l7 l8 l10 l11 false l13 l15 u7 u8 u10 u11 u12 W)(h11:l11=true){g c:Nat}(e:u11=.slice (g,0) (n+1) c):P7 base B v0 n xs tg y sl W1 l7 l8 l10 l11 true l13 l15 u7 u8 u10 u11 (.pointer (some ⟨g,n*4,none⟩)) W:=
 ⟨h.z,h.r7,h.r8,h.r13,fun _=>⟨h11,g,c,e,rfl⟩⟩
theorem P7.elem(h:P7 base B v0 n xs tg y sl W1 l7 l8 l10 l11 l12 false l15 u7 u8 u10 u11 u12 W)(h11:l11=true)(h7:l7=true)(hx:xs.length=n*4)(hB:B<W1.heap.size)(hBb:B<base){g c:Nat}(hu:u11=.slice (g,0) (n+1) c):W.there g (n*4) 4/\P7 base B v0 n xs tg y sl W1 l7 l8 l10 l11 l12 true l15 u7 u8 u10 u11 u12 (W.setCells g (n*4) (Zd tg u7)):=by
 subst h11;obtain⟨h1,h2⟩:=h.z.elem hx rfl hB hBb hu;refine⟨h1,h2,fun e=>?_,h.r8,fun _=>h7,h.r12⟩;obtain⟨g7,e1,e2,e3,e4,e5⟩:=h.r7 e;have hne:g7≠g:=fun e6=>e5 rfl (by rw[hu,e6];rfl);exact⟨g7,e1,e2,by rw[Cm];exact e3,World.rangeAt_setCells_apart e4 _ _ _ (.inl hne),e5⟩
theorem P7.head(h:P7 base B v0 n xs tg y sl W1 l7 l8 l10 l11 l12 l13 false u7 u8 u10 u11 u12 W)(h11:l11=true)(hB:B<W1.heap.size)(hBb:B<base):P7 base B v0 n xs tg y sl W1 l7 l8 l10 l11 l12 l13 true u7 u8 u10 u11 u12 (W.setCell ⟨B,3,none⟩ u11):=by
 subst h11;refine⟨h.z.head hBb,fun e=>?_,h.r8,h.r13,h.r12⟩;obtain⟨g7,e1,e2,e3,e4,e5⟩:=h.r7 e;exact⟨g7,e1,e2,by simpa using e3,Bj e4 (Ap W B 3 u11) (fun e6=>by have e7:g7=B:=Option.some.inj e6;omega),e5⟩
end
def Qb0(Z:Nat->Prop)(base B D tg:Nat)(add:Bool)(y:Vl)(u:Value)(xs:List (Vl × Value))(w:World)(e:Ending)(w':World):Prop:=e=.returned (.tuple #[]) /\
 ∃A' c' xs',Ar xs'=Ar xs++(if add then[.mk 61 [] tg [y]]else[])/\PtS Z base B w' (.slice A' xs'.length c') xs'/\w'.cell? (D,0)=some (.bool true)/\w'.frozen? (D,0)=false/\C7 (fun c=>c=B\/c=D) u w w' (.slice A' xs'.length c')
theorem Qcs(Z:Nat->Prop)(base B T D F Xb fb fo tg:Nat)(told done:Bool)(y:Vl)(sl:Value)(A:Option Addr)(n0 c:Nat)(xs:List (Vl × Value))(w:World)(hs:PtS Z base B w (.slice A n0 c) xs)
  (hT:w.cell? (T,0)=some (.bool told)) (hD:w.cell? (D,0)=some (.bool done)) (hDf:w.frozen? (D,0)=false) (hF:w.cell? (F,0)=some (.pointer (some ⟨fb,fo,none⟩))) (hf:w.cell? ⟨fb,fo,none⟩=(tg:Int)) (hX:w.rangeAt Xb 0 (Dx (y,sl)))
  (hsl:∃A n c,sl=.slice A n c) (hZB:Z B) (hZD:Z D) (hZl:∀q,Z q->q<w.heap.size) (hDB:D≠B) (hDb:D<base) (hTl:T<base) (hFl:F<base) (hfl:fb<base) (hXl:Xb<base) (hxe:∀b,b=T\/b=F\/b=fb\/b=Xb->b≠B/\b≠D) (hxl:xs.length<=900)
  (hy:D1 (fun q=>¬Z q/\q<w.heap.size/\(Value.slice A n0 c).ownBlock≠some q) w sl y.kids):
  Calls prog 134 #[T,D,B,F,Xb] w (Qb0 Z base B D tg (told && !done) y (.slice A n0 c) xs w):=by
 have hn0:n0=xs.length:=Ff hs.row;subst hn0;obtain⟨A7,n7,c7,rfl⟩:=hsl;have Hs:=Aa hs;have hBl:=hs.lt;have hbs:=hs.bs;have hBb:=hs.hB;have c3:=hs.c3;have hDl:D<w.heap.size:=aE;have fin0:∀add,add=false->Qb0 Z base B D tg add y (.slice A xs.length c) xs w (.returned (.tuple #[])) (w.setCell ⟨D,0,none⟩ (.bool true)):=fun add h=>by
  subst h;exact⟨rfl,A,c,xs,by simp,Hs.o.flag hDB hDb hZD,by simp[go_sem,hD,hDf],by simp[go_sem,hDf],C7.set (X:=fun c=>c=B\/c=D) (.inr rfl) _⟩
 have Fin0:=Aa fin0;clear fin0 hs;cases told with
 |false=>
  go_enter func134,ntmps134;go_wp2_with fail;apply bodyPost_end;rotate_left
  ·rfl
  ·exact Fin0.o _ rfl
  exact results_none aJ _ _ _
 |true=>
  cases done with
  |true=>
   go_enter func134,ntmps134;go_wp2_with fail;apply bodyPost_end;rotate_left
   ·rfl
   ·exact Fin0.o _ rfl
   exact results_none aJ _ _ _
  |false=>
   clear Fin0;have x0:=Ab hX 0 rfl;have x1:=Ab hX 1 rfl;have x2:=Ab hX 2 rfl;have x3:=Ab hX 3 rfl;simp only[aj]at x0 x1 x2 x3;have hown:∀b,b<base->some b≠(Value.slice A xs.length c).ownBlock:=fun b hb e=>by have:=(Hs.o.row.lt b e.symm).1;omega
   have Hown:=Aa hown;have Hy:=Aa hy;have hTe:=hxe T (.inl rfl);have hFe:=hxe F (.inr (.inl rfl));have hfe:=hxe fb (.inr (.inr (.inl rfl)));have hXe:=hxe Xb (.inr (.inr (.inr rfl)));have HTe:=Aa hTe
   have HFe:=Aa (show ∀b,b=F\/b=fb\/b=Xb\/b=T->b<w.heap.size/\b≠B/\b≠D/\some b≠(Value.slice A xs.length c).ownBlock from fun b hb=>by
    rcases hb with rfl|rfl|rfl|rfl
    ·exact⟨by omega,hFe.1,hFe.2,hown _ hFl⟩
    ·exact⟨by omega,hfe.1,hfe.2,hown _ hfl⟩
    ·exact⟨by omega,hXe.1,hXe.2,hown _ hXl⟩
    exact⟨by omega,hTe.1,hTe.2,hown _ hTl⟩)
   have HD:=@Aa (D<w.heap.size/\D≠B/\some D≠(Value.slice A xs.length c).ownBlock) ⟨hDl,hDB,hown _ hDb⟩;have HDc:=Aa hD;have HDf:=Aa hDf;have HZl:=Aa hZl;clear hX hown hy hxe hTe hFe hfe hXe hZl;go_enter func134,ntmps134;go_wp2_with fail;clear hT hD hDf
   refine Z9 (fun l u W=>P7 base B (.slice A xs.length c) xs.length (xs.flatMap Dx) tg y (.slice A7 n7 c7) w (l 7) (l 8) (l 10) (l 11) (l 12) (l 13) (l 15) (u 7) (u 8) (u 10) (u 11) (u 12) W) (fun W=>(∀j,W.cell? ⟨F,j,none⟩=w.cell? ⟨F,j,none⟩)/\(∀j,W.cell? ⟨fb,j,none⟩=w.cell? ⟨fb,j,none⟩)/\∀j,W.cell? ⟨Xb,j,none⟩=w.cell? ⟨Xb,j,none⟩) (fun l u W h=>by
    obtain⟨vo',hk⟩:=h.z.kept;have hc:∀b,b=F\/b=fb\/b=Xb\/b=T->∀j,W.cell? ⟨b,j,none⟩=w.cell? ⟨b,j,none⟩:=fun b hb j=>by
     obtain⟨h1,h2,_,h3⟩:=HFe.o b hb;exact World.cell?_of_block (hk.block b h1 h2 h3)
    exact⟨hc _ (.inl rfl),hc _ (.inr (.inl rfl)),hc _ (.inr (.inr (.inl rfl)))⟩) ⟨Qi.start (Ay _ _).drew,by simp,by simp,by simp,by simp⟩ ?_
   refine sq ?_
   refine Gy (fun v=>v=.slice A xs.length c) (by
    intro l u W hl hp hF hG hi K hK;have h11:=(hi.o 11 cx).1;have hb:=(hF.o.z.h5 h11).2.2;have q3:=(hb.cell (p:=⟨B,3,none⟩) hBl).trans c3;simp[Region.binds,Ck]at hp;clear hb h11;go_simp;exact hK _ _ _ rfl hF.o bX) ?_
   iterate 5 refine sq ?_
   refine Gy (fun _=>True) (by
    intro l u W hl hp hF hG hi K hK;have h8:=(hi.o 8 cx).1;simp[Region.binds,Ck]at hp;have h:P7 base B (.slice A xs.length c) xs.length (xs.flatMap Dx) tg y (.slice A7 n7 c7) w (l 7) (l 8) (l 10) (l 11) (l 12) (l 13) (l 15) (u 7) (u 8) (u 10) (u 11) (u 12) W:=hF.o;rw[hl]at h;have H:=Aa (h.one h8 hBl 42);clear h h8;go_simp;exact hK _ _ _ Ad H.o bD) ?_
   refine Gy (fun _=>True) (by
    intro l u W hl hp hF hG hi K hK;simp[Region.binds,Ck]at hp;have h:P7 base B (.slice A xs.length c) xs.length (xs.flatMap Dx) tg y (.slice A7 n7 c7) w (l 7) (l 8) (l 10) (l 11) (l 12) (l 13) (l 15) (u 7) (u 8) (u 10) (u 11) (u 12) W:=hF.o;have h7:l 7=true:=bQ;obtain⟨g,e7,_⟩:=h.r7 h7;rw[hl]at h;have H:=Aa (h.made h7);clear h h7;go_simp;exact hK (.agg (Zd tg (u 7)).toArray) _ _ Ad H.o (by simp[Act.put,hp,e7,Zd])) ?_
   refine sq ?_
   refine Gy (fun _=>True) (by
    intro l u W hl hp hF hG hi K hK;have h11:=(hi.o 11 cx).1;simp[Region.binds,Ck]at hp;have h:P7 base B (.slice A xs.length c) xs.length (xs.flatMap Dx) tg y (.slice A7 n7 c7) w (l 7) (l 8) (l 10) (l 11) (l 12) (l 13) (l 15) (u 7) (u 8) (u 10) (u 11) (u 12) W:=hF.o;rw[hl]at h;have H:=Aa (h.zero h11 42);clear h h11;go_simp;exact hK _ _ _ Ad H.o bD) ?_
   refine Gy (fun _=>True) (by
    intro l u W hl hp hF hG hi K hK;simp[Region.binds,Ck]at hp;have h:P7 base B (.slice A xs.length c) xs.length (xs.flatMap Dx) tg y (.slice A7 n7 c7) w (l 7) (l 8) (l 10) (l 11) (l 12) (l 13) (l 15) (u 7) (u 8) (u 10) (u 11) (u 12) W:=hF.o;have h10:l 10=true:=bQ;obtain⟨z,e10,hz,hzr⟩:=h.z.h4 h10 hl;have hb:=(h.z.h5 hl).2.2;rw[hl]at h;have H:=Aa h;have hrow:=Bm Hs.o.row hb;have hbb:base<=W.heap.size:=ac hbs hb.size;clear h hG hi hb;simp only[Region.wanted,if_true];refine Yu W (.tmp 11) (.tmp 20) 40 rfl base 42 (.agg #[.int .u8 0,a8,.int .i64 0,.slice none 0 0]) 4 56 underlying40 Pq rfl aH Ju rfl ez (.slice A xs.length c) xs.length (xs.flatMap Dx) z ?_ ?_ hzr hrow aW aE hbb ?_
    ·simp[hp];rfl
    ·simp[hp,e10];rfl
    intro v' w5 hown5 hg5 hwh5;obtain⟨g5,c5,rfl⟩:=Tl hown5;exact hK _ _ _ Ad (H.o.app hBl c3 Hs.o.bk (Hown.o B hBb) (fun k hk=>(Hs.o.row.lt k hk).2) hown5 hg5 hwh5) rfl) ?_
   refine Gy (fun _=>True) (by
    intro l u W hl hp hF hG hi K hK;simp[Region.binds,Ck]at hp;have h:P7 base B (.slice A xs.length c) xs.length (xs.flatMap Dx) tg y (.slice A7 n7 c7) w (l 7) (l 8) (l 10) (l 11) (l 12) (l 13) (l 15) (u 7) (u 8) (u 10) (u 11) (u 12) W:=hF.o;have h11:l 11=true:=bQ;obtain⟨g,c5,e11,_⟩:=h.z.h6 h11;rw[hl]at h;have H:=Aa (h.idx h11 e11);clear h h11;have k1:(0:Int)<=(xs.length:Int):=aE;have k2:(xs.length:Int)<(xs.length:Int)+1:=aE;go_simp;exact hK (.pointer (some ⟨g,xs.length*4,none⟩)) _ _ Ad H.o (by simp[Act.put,hp,e11])) ?_
   refine Gy (fun _=>True) (by
    intro l u W hl hp hF hG hi K hK;simp[Region.binds,Ck]at hp;have h:P7 base B (.slice A xs.length c) xs.length (xs.flatMap Dx) tg y (.slice A7 n7 c7) w (l 7) (l 8) (l 10) (l 11) (l 12) (l 13) (l 15) (u 7) (u 8) (u 10) (u 11) (u 12) W:=hF.o;have h12:l 12=true:=bQ;have h8:l 8=true:=bQ;obtain⟨h11,g,c5,e11,e12⟩:=h.r12 h12;obtain⟨h7,e8⟩:=h.r8 h8;rw[hl]at h;obtain⟨ht,h2⟩:=h.elem h11 h7 (Gv Pl xs) hBl hBb e11;obtain⟨g7,e7,_⟩:=h.r7 h7;have H:=Aa h2;clear h h2 hG hi;simp only[Region.wanted,if_true];refine wp_store_mid 42 _ _ rfl g (xs.length*4) (Zd tg (u 7)).toArray e12 e8 ht aJ (by rw[e7];simp[Zd,Value.oneCell']) ?_;exact hK undef _ _ Ad H.o rfl) ?_
   refine sq ?_
   refine Gy (fun _=>True) (by
    intro l u W hl hp hF hG hi K hK;simp[Region.binds,Ck]at hp;have h:P7 base B (.slice A xs.length c) xs.length (xs.flatMap Dx) tg y (.slice A7 n7 c7) w (l 7) (l 8) (l 10) (l 11) (l 12) (l 13) (l 15) (u 7) (u 8) (u 10) (u 11) (u 12) W:=hF.o;have h11:l 11=true:=bQ;obtain⟨g,c5,e11,h22,h33,h44,_,h66⟩:=h.z.h6 h11;rw[hl]at h h44;have H:=Aa (show P7 base B (.slice A xs.length c) xs.length (xs.flatMap Dx) tg y (.slice A7 n7 c7) w (l 7) (l 8) (l 10) (l 11) (l 12) (l 13) true (u 7) (u 8) (u 10) (u 11) (u 12) (W.setCell ⟨B,3,none⟩ (.slice (g,0) (xs.length+1) c5))by have:=h.head h11 hBl hBb;rwa [e11]at this ⊢);have q3:=h44;have q4:=h66.live 3;simp only[ak,if_false]at q3;clear h h11 h22 h33 h44 h66;go_simp;exact hK undef _ _ Ad H.o (by simp[Act.put,hp,e11])) ?_
   intro l u W hl _ hR;have h:P7 base B (.slice A xs.length c) xs.length (xs.flatMap Dx) tg y (.slice A7 n7 c7) w (l 7) (l 8) (l 10) (l 11) (l 12) (l 13) (l 15) (u 7) (u 8) (u 10) (u 11) (u 12) W:=hR;rw[hl 7 aH,hl 10 aH,hl 11 aH,hl 13 aH,hl 15 aH]at h;obtain⟨g7,e7,h71,h72,h73,h74⟩:=h.r7 rfl;obtain⟨vo',hko⟩:=h.z.kept;have hk1:C7 (fun c=>c=B\/c=D) (.slice A xs.length c) w W vo':=hko.more fun b hb=>.inl hb;have hy7:D1 (fun c=>¬Z c/\(u 11).ownBlock≠some c) W (.slice A7 n7 c7) y.kids:=by
    obtain⟨g5,c5,e5,h51,h52,_⟩:=h.z.h6 rfl;refine Hy.o.kept (fun b o v hb hl hv=>hko.cell hv hl (fun e=>hb.1 (e ▸ hZB)) (fun e=>hb.2.2 e.symm)) hko.size fun b hb hl=>⟨hb.1,fun e=>?_⟩
    rw[e5]at e;rcases h52.own with e2|⟨k,e2,hk2⟩
    ·rw[e2]at e;exact hb.2.2 e
    exact iU
   have hz7:D1 (fun c=>¬Z c/\(u 11).ownBlock≠some c) W (.slice (g7,0) 1 1) [y]:=Zo h72 h73 hy7 ⟨fun e=>by have:=HZl.o _ e;omega,h74 rfl⟩;have hz8:Qi base B (.slice A xs.length c) xs.length (xs.flatMap Dx) (Dx (.mk 61 [] tg [y],.slice (g7,0) 1 1)) w true true true true (u 10) (u 11) W:=by
    have:=h.z;rw[e7]at this;exact this
   obtain⟨g5,c5,e5,hps,hkx⟩:=Hs.o.grow rfl hZB hz8 hz7;have hDW:=hko.cell HDc.o HD.o.1 HD.o.2.1 HD.o.2.2;have hDfW:W.frozen? (D,0)=false:=(World.frozen?_of_block (a:=⟨D,0,none⟩) (hko.block D HD.o.1 HD.o.2.1 HD.o.2.2)).trans HDf.o;have hDlW:D<W.heap.size:=ab HD.o.1 hko.size;have fin:Qb0 Z base B D tg true y (.slice A xs.length c) xs w (.returned (.tuple #[])) (W.setCell ⟨D,0,none⟩ (.bool true)):=by
    rw[e5]at hps hkx;exact⟨rfl,some ⟨g5,0,none⟩,c5,xs++[(.mk 61 [] tg [y],.slice (some ⟨g7,0,none⟩) 1 1)],by simp[Ar],hps.flag hDB hDb hZD,by simp[go_sem,hDW,hDfW],by simp[go_sem,hDfW],(hkx.more fun b hb=>.inl hb).trans (C7.set (X:=fun c=>c=B\/c=D) (.inr rfl) _)⟩
   have Fin:=Aa fin;clear fin hl hR h hk1 hko hy7 hz7 hz8 hps hkx h72 h73 h74;go_wp2_with fail;apply bodyPost_end;rotate_left
   ·rfl
   ·exact Fin.o
   exact results_none aJ _ _ _
theorem Ys(p:Value)(xs:List PT)(hok:∀y∈xs,Ed y.ty)(n:Nat)(k:Kd)(w:World)(hsc:S7 w p xs)(hk:C0 k)(hs:k.signs=[])(hb:k.base=[64])(x:PT)(hx:Ew xs k.name=some x)
  (hn:n<=9) (ih:x.ty.sort=85->∀f fs,x.ty.fields=f::fs->∀W,S7 W p xs->Calls prog 162 #[p,Gb f.kind] W (Fp (C4 (Af xs) n f.kind) W)):
  Calls prog 162 #[p,Gb k] w (Fp (C4 (Af xs) (n+1) k) w):=by
 have Hlen:=Aa (Pz (Af xs) (fun t ht=>by obtain⟨y,hy,rfl⟩:=au.1 ht;exact hok y hy))
 have HF:=Aa (show C4 (Af xs) (n+1) k=if x.ty.sort=82 then[123,125]else match x.ty.fields with|[]=>[]|f::_=>if x.ty.sort=69 then 35::Az f.tag else 60::(Az f.tag++61::(C4 (Af xs) n f.kind++[62]))from by
  rw[C4,if_neg dD,if_neg dD,if_neg bC,if_neg bC,if_neg bC,Jm,hx];rfl)
 have hxm:=(Fi hx).1;have Hto:=Aa (hok _ hxm);have hnl:=Gs hk;have Hsc:=Aa hsc;obtain⟨pb,A,cc,mb,rfl,q0,q1,q2,q3,q4,htys,_⟩:=hsc;obtain⟨z0,_,z1,z2,z3,z4,A8,c,hz8,hl8',hrow8⟩:=htys x hxm;rw[hz8]at z3;have Hrow:=Aa hrow8;have Ih:=Aa ih
 have Hlk:=Aa (fun W (h:Below w w W)=>show (Instr.lookup 78 (.map (some mb)) k.name false).run prog W=.ok x.blk W from by
  have:=Fq (Dv.below q4 h) k.name aE;rw[hx]at this;exact this)
 have hmb:=q4.lt;unfold Gb;rw[hs,hb];clear hk hs hb hx q1 q3 q4 htys hrow8 ih hok hz8 z2 z4 hxm;go_enter func162,ntmps162;go_wp2_with fail;refine(El _ _ _).mono ?_;rintro e w1 ⟨rfl,hb1⟩;obtain⟨hc1,_,hzz⟩:=B4 hb1;have y1:w1.cell? (w,1)=some (.string ⟨#[64]⟩):=(hc1 w 1 aI).trans aI;have y2:w1.cell? (w,2)=k.name:=(hc1 w 2 aI).trans aI;have Hb1:=@Aa (Below w w w1) (((Ay w.heap.size w).alloc (As _) _).trans (hb1.mono aI));have hz1:w.heap.size<w1.heap.size:=fh;have m1:w1.cell? (pb,1)=some (.map (some mb)):=(Hb1.o.cell (p:=⟨pb,1,none⟩) q0).trans q2;have u0:w1.cell? (x.blk,0)=some (.int .u8 (x.ty.sort.toNat:Int)):=(Hb1.o.cell (p:=⟨x.blk,0,none⟩) z0).trans z1;have u2:w1.cell? (x.blk,2)=some (.slice A8 x.ty.fields.length c):=(Hb1.o.cell (p:=⟨x.blk,2,none⟩) z0).trans z3;have Hlook:=Aa (fun q=>Hlk.o (w1.drewN q) (Hb1.o.trans ((below_drewN (Ay _ _) q).mono Hb1.o.size)));clear hc1 hzz hb1 q2 z1 z3;go_wp2_with fail;refine Sy [20,21,22,23,24,25,26,5]
  (fun i v W=>match i with|0=>v=pb|1=>v=pb|2=>v=(pb,1)|3=>v=.map (some mb)|4=>v=(w,2)|5=>v=k.name|6=>v=x.blk|7=>v=x.blk|_=>True)
  (fun L U W=>∃q,W=w1.drewN q) (⟨1,rfl⟩) ?_ ?_
 ·repeat (first|exact Ba.nil|(refine Ba.cons ?_ ?_;rotate_left))
  all_goals
   rintro L U W hL hpre HR Hdep K hK;obtain⟨q,rfl⟩:=HR.o;have hlq:=Hlook.o q;first|(simp[Region.binds]at hpre;done)|simp[Region.binds]at hpre|clear hpre
  iterate 8
   ·exact fG
 rintro L U W hL hφ hR;have e7:U 7=x.blk:=hφ 7 aH;simp only[e7];clear hφ;obtain⟨q,rfl⟩:=hR;have Hbq:=Aa (Hb1.o.trans ((below_drewN (Ay w1.heap.size w1) q).mono Hb1.o.size));clear hL y1 y2 m1;by_cases h82:x.ty.sort=82
 ·have t82:((x.ty.sort.toNat:Int) == 82)=true:=Bs (d:=82) h82;have HF2:=Aa (HF.o.trans (if_pos h82));clear h82 HF;go_wp2_with fail;go_ret;exact⟨by rw[HF2.o];rfl,Hbq.o⟩
 have t82:((x.ty.sort.toNat:Int) == 82)=false:=Am (d:=82) h82;have HF2:=Aa (HF.o.trans (if_neg h82));have hne:x.ty.fields≠[]:=fun h=>h82 (Hto.o.2.2.2.2 h);obtain⟨f,fs,hfs⟩:∃f fs,x.ty.fields=f::fs:=by
  cases h:x.ty.fields with
  |nil=>exact absurd h hne
  |cons f fs=>exact⟨f,fs,rfl⟩
 have hf0:0<x.ty.fields.length:=cz;have hge:x.ty.fields[0]=f:=by simp[hfs]
 have hft:=Hto.o.2.2.1.1 f cz;have htag:f.tag<=200:=hft.2.1;have hdl:=Df 2 f.tag bZ;have Hd:=Aa (fun W=>Pe f.tag f.tag W (As _) aE);have hi0:(0:Int)<(x.ty.fields.length:Int):=aE;have HF3:=@Aa (C4 (Af xs) (n+1) k=if x.ty.sort=69 then 35::Az f.tag else 60::(Az f.tag++61::(C4 (Af xs) n f.kind++[62]))) (by rw[HF2.o,hfs]);have Hfs:=Aa hfs;obtain⟨b,off,rfl,hbl,hrg⟩:=Sx.range Hrow.o hf0;rw[hge]at hrg;have hrq:=Av hrg hbl Hbq.o;simp only[Nat.zero_mul,Nat.add_zero]at hrq;have g0:(w1.drewN q).cell? ⟨b,off,none⟩=(f.tag:Int):=by simpa using Ab hrq 0 rfl
 have G2:=Aa (Ab hrq 2 rfl);have G3:=Aa (Ab hrq 3 rfl);have G4:=Aa (Ab hrq 4 rfl);have H82:=Aa h82;clear HF2 HF h82 hne hfs hge hft hrg hrq;by_cases h69:x.ty.sort=69
 ·have t69:((x.ty.sort.toNat:Int) == 69)=true:=Bs (d:=69) h69;have HF4:=Aa (HF3.o.trans (if_pos h69));clear h69 HF3;go_wp2_with fail;refine(Hd.o _).mono ?_;rintro e w2 ⟨rfl,hb2⟩;go_wp2_with fail;go_ret;exact⟨by rw[HF4.o];simp,Hbq.o.trans (hb2.mono Hbq.o.size)⟩
 have t69:((x.ty.sort.toNat:Int) == 69)=false:=Am (d:=69) h69;have HF4:=Aa (HF3.o.trans (if_neg h69));have h85:x.ty.sort=85:=by
  rcases Hto.o.1 with h|h|h
  ·exact absurd h H82.o
  ·exact h
  exact absurd h h69
 have Ih2:=Aa (Ih.o h85 f fs Hfs.o);unfold Gb at Ih2;have hsl:=Hlen.o n f.kind;generalize C4 (Af xs) n f.kind=sl at *;clear h69 HF3 h85 Ih;go_wp2_with fail;obtain⟨W0,hW0⟩:∃W0,W0=w1.drewN q:=⟨_,rfl⟩
 rw[<-hW0]at Hbq g0 G2 G3 G4 ⊢;have Y2:=@Aa (W0.cell? (x.blk,2)=some (.slice (some ⟨b,off,none⟩) x.ty.fields.length c)) (by rw[hW0];exact u2);have Y0:=Aa g0;have Y3:=@Aa (W0.cell? ⟨b,off+2,none⟩=some (.string ⟨f.kind.signs.toArray⟩)) G2.o;have Y4:=@Aa (W0.cell? ⟨b,off+3,none⟩=some (.string ⟨f.kind.base.toArray⟩)) G3.o;have Y5:=@Aa (W0.cell? ⟨b,off+4,none⟩=some (.string ⟨f.kind.name.toArray⟩)) G4.o;have Hx5:=@Aa (x.blk<W0.heap.size) (ab z0 Hbq.o.size);have Hb5:=@Aa (b<W0.heap.size) (ab hbl Hbq.o.size);have Hsc0:=Aa (Hsc.o.below Hbq.o);clear hW0 g0 u0 u2;refine Sy [44,45,46,47,48,49,50,51,52,53,54,55,56,57,58,59,60,61,62,63,64,4]
  (fun i v W=>match i with|0=>v=x.blk|1=>v=x.blk|2=>v=(x.blk,2)|3=>v=.slice (some ⟨b,off,none⟩) x.ty.fields.length c|4=>v=.pointer (some ⟨b,off,none⟩)|5=>v=.pointer (some ⟨b,off,none⟩)|6=>v=(f.tag:Int)|7=>v=.string ⟨(Az f.tag).toArray⟩|8=>v=.string ⟨(60::Az f.tag).toArray⟩|9=>v=.string ⟨(60::(Az f.tag++[61])).toArray⟩|10=>v=pb|11=>v=x.blk|12=>v=x.blk|13=>v=(x.blk,2)|14=>v=.slice (some ⟨b,off,none⟩) x.ty.fields.length c|15=>v=.pointer (some ⟨b,off,none⟩)|16=>v=.pointer (some ⟨b,off+2,none⟩)|17=>v=.agg #[.string ⟨f.kind.signs.toArray⟩,.string ⟨f.kind.base.toArray⟩,.string ⟨f.kind.name.toArray⟩]|18=>v=.string ⟨(sl).toArray⟩|19=>v=.string ⟨(60::(Az f.tag++61::sl)).toArray⟩|20=>v=.string ⟨(60::(Az f.tag++61::(sl++[62]))).toArray⟩|21=>v=.string ⟨(60::(Az f.tag++61::(sl++[62]))).toArray⟩|_=>True)
  (fun L U W=>Below W0 W0 W) ((Ay _ _).drew) ?_ ?_
 ·repeat (first|exact Ba.nil|(refine Ba.cons ?_ ?_;rotate_left))
  all_goals
   rintro L U W hL hpre HR Hdep K hK;have hB:=HR.o;have c2:=(hB.cell (p:=⟨x.blk,2,none⟩) Hx5.o).trans Y2.o;have c0:=(hB.cell (p:=⟨b,off,none⟩) Hb5.o).trans Y0.o;have c3:=(hB.cell (p:=⟨b,off+2,none⟩) Hb5.o).trans Y3.o;have c4:=(hB.cell (p:=⟨b,off+3,none⟩) Hb5.o).trans Y4.o;have c5:=(hB.cell (p:=⟨b,off+4,none⟩) Hb5.o).trans Y5.o;have c4':W.cell? ⟨b,off+2+1,none⟩=_:=c4;have c5':W.cell? ⟨b,off+2+1+1,none⟩=_:=c5;have c5'':W.cell? ⟨b,off+2+2,none⟩=_:=c5;first|(simp[Region.binds]at hpre;done)|simp[Region.binds]at hpre|clear hpre
  iterate 7
   ·exact fG
  ·exact gB
  ·exact fM
  ·exact fM
  iterate 8
   ·exact fG
  ·exact gw
  ·exact fM
  ·exact fM
  ·exact fG
 rintro L U W hL hφ hR;have e21:U 21=.string ⟨(60::(Az f.tag++61::(sl++[62]))).toArray⟩:=hφ 21 aH;simp only[e21];clear hφ;have Hb9:=Aa (Hbq.o.trans (hR.mono Hbq.o.size));clear hR;go_wp2_with fail;go_ret;exact⟨by rw[HF4.o];rfl,Hb9.o⟩
theorem Qz(p:Value)(S:List Ty)(n:Nat)(k:Kd)(w:World)(hk:C0 k)(h:¬(k.signs=[]/\k.base=[64])):
  Calls prog 162 #[p,Gb k] w (Fp (C4 S (n+1) k) w):=by
 unfold Gb;cases hs:k.signs with
 |cons c t=>
  have hc:=Qg hk hs;have hl:=hk.2.2;unfold Bi at hl;rw[hs]at hl;rw[N0 _ _ k c t hs hc];exact Yr p c t _ _ w hc (by simp at hl;omega)
 |nil=>
  have hb:k.base≠[64]:=fun hb=>h ⟨hs,hb⟩;rw[Md _ _ k hs (Mo hk hs hb).2];exact T4 p k.base _ w (Mo hk hs hb).2
theorem Z4(p:Value)(xs:List PT)(hok:∀x∈xs,Ed x.ty)(hS:Gg (Af xs)):∀(n:Nat),n<=9->∀(k:Kd) (w:World),S7 w p xs->C0 k->B9 (Af xs) k->Tp (Af xs) n k ->
  Calls prog 162 #[p,Gb k] w (Fp (C4 (Af xs) (n+1) k) w):=by
 intro n;induction n with
 |zero=>
  intro _ k w hsc hk hr he;refine Qz p _ 0 k w hk (fun h=>?_);obtain⟨t,_,h2⟩:=he h.1 h.2;exact absurd h2 (by simp[Bu])
 |succ n ih=>
  intro hn k w hsc hk hr he;by_cases hsb:k.signs=[]/\k.base=[64]
  ·obtain⟨hs,hb⟩:=hsb;have h1:=hr hb;rw[Jm]at h1;cases hx:Ew xs k.name with
   |none=>rw[hx]at h1;cases h1
   |some x=>
    have hft:B0 (Af xs) k.name=some x.ty:=(Fi hx).2.2;have hto:Ed x.ty:=hok _ (Fi hx).1;refine Ys p xs hok (n+1) k w hsc hk hs hb x hx hn (fun h85 f fs hfs W hW=>?_);have hrf:B9 (Af xs) f.kind:=hS x.ty (Bq hft).1 dt f cz;exact iw
  exact Qz p _ (n+1) k w hk hsb
theorem Qaf(p:Value)(xs:List PT)(h:No (Af xs))(k:Kd)(w:World)(hsc:S7 w p xs)(hk:C0 k)(hr:B9 (Af xs) k):
  Calls prog 162 #[p,Gb k] w (Fp (Ri (Af xs) k) w):=
 Z4 p xs (fun x hx=>h.1.1 x.ty (am hx)) h.2.1 9 (As _) k w hsc hk hr (Vy h hr)
theorem Qck(p:Value)(xs:List PT)(h:No (Af xs))(f:Fd)(b o:Nat)(w:World)(hsc:S7 w p xs)(hf:w.rangeAt b o (Qx f))(hk:C0 f.kind)(hr:B9 (Af xs) f.kind)(hl:f.given.length<=1000):
  Calls prog 132 #[p,.pointer (some ⟨b,o,none⟩)] w (Fp (Kn (Af xs) f) w):=by
 have HF:=@Aa (Kn (Af xs) f=if f.given=[]then Ri (Af xs) f.kind else f.given) rfl;have Hs:=Aa (fun W (h1:S7 W p xs)=>Qaf p xs h f.kind W h1 hk hr);have Hsc:=Aa hsc;unfold Gb at Hs;have c2:w.cell? ⟨b,o+2,none⟩=f.kind.signs:=Ab hf 2 rfl;have c3:w.cell? ⟨b,o+3,none⟩=f.kind.base:=Ab hf 3 rfl;have c4:w.cell? ⟨b,o+4,none⟩=f.kind.name:=Ab hf 4 rfl;have c5:w.cell? ⟨b,o+5,none⟩=f.given:=Ab hf 5 rfl;have c3':w.cell? ⟨b,o+2+1,none⟩=f.kind.base:=c3;have c4':w.cell? ⟨b,o+2+1+1,none⟩=f.kind.name:=c4;have c4'':w.cell? ⟨b,o+2+2,none⟩=f.kind.name:=c4;clear h hk hr hsc hf;by_cases hg:f.given=[]
 ·have HF2:=Aa (HF.o.trans (if_pos hg));rw[hg]at c5;clear hg HF;go_enter func132,ntmps132;go_wp2_with fail;refine(Hs.o _ Hsc.o).mono ?_;rintro e w1 ⟨rfl,hb1⟩;go_wp2_with fail;go_ret;exact⟨by rw[HF2.o];rfl,hb1⟩
 have HF2:=Aa (HF.o.trans (if_neg hg));have t1:f.given.isEmpty=false:=by simpa using hg
 have t2:(!f.given.isEmpty)=true:=by simp[t1]
 clear hg HF;go_enter func132,ntmps132;go_wp2_with fail;go_ret;exact⟨by rw[HF2.o];rfl,Ay _ _⟩
def H4(told:Bool)(g:Nat)(e:Vl):Bool->List Vl->List Vl
 |done,[]=>if told && !done then[e]else[]
 |done,y::l=>if g<=y.tag then(if told && !done then[e]else[])++((if y.tag=g then[]else[y])++H4 told g e true l)else y::H4 told g e done l
structure PtE(w W:World)(kv fp:Value)(z:Vl × Value):Prop where
 l:w.heap.size+4<W.heap.size
 k3:W.cell? (w,3)=some kv
 f0:W.cell? (w,1,0)=some fp
 x:W.rangeAt (w.heap.size+2) 0 (Dx z)
 r:W.there (w.heap.size+3) 0 4
theorem PtE.same{w W W':World}{kv fp:Value}{z:Vl × Value}(h:PtE w W kv fp z)(hs:W.heap.size<=W'.heap.size)(hb:∀b,b<w.heap.size+4->W'.heap[b]?=W.heap[b]?):PtE w W' kv fp z:=by
 have hc:∀b o,b<w.heap.size+4->W'.cell? ⟨b,o,none⟩=W.cell? ⟨b,o,none⟩:=fun b o h=>World.cell?_of_block (a:=⟨b,o,none⟩) (hb b h);have hf:∀b o,b<w.heap.size+4->W'.frozen? ⟨b,o,none⟩=W.frozen? ⟨b,o,none⟩:=fun b o h=>World.frozen?_of_block (a:=⟨b,o,none⟩) (hb b h);exact⟨ab h.l hs,(hc _ _ aE).trans h.k3,(hc _ _ aE).trans h.f0,fun j v hv=>(hc _ _ aE).trans (h.x j v hv),fun j hj=>by rw[hc _ _ aE,hf _ _ aE];exact h.r j hj⟩
theorem PtE.below{w W W':World}{kv fp:Value}{z:Vl × Value}(h:PtE w W kv fp z)(hb:Below W W W'):PtE w W' kv fp z:=h.same hb.size fun b hl=>hb.block b (by have:=h.l;omega)
theorem PtE.kept{w W W':World}{kv fp u u':Value}{z:Vl × Value}{B D:Nat}(h:PtE w W kv fp z)(hk:C7 (fun c=>c=B\/c=D) u W W' u')(hB:w.heap.size+4<=B)(hD:w.heap.size+4<=D)(hu:∀k,u.ownBlock=some k->w.heap.size+4<=k):PtE w W' kv fp z:=
 h.same hk.size fun b hl=>hk.block b (by have:=h.l;omega) aE (fun e=>by have:=hu b e.symm;omega)
structure Vh(base B:Nat)(v0:Value)(n:Nat)(xs ec:List Value)(W1:World)(l4 l5 l6 l7 l9:Bool)(u4 u5 u6:Value)(W:World):Prop where
 z:Qi base B v0 n xs ec W1 l4 l5 l7 l9 u4 u5 W
 r6:l6=true->l5=true/\∃g c,u5=.slice (some ⟨g,0,none⟩) (n+1) c/\u6=.pointer (some ⟨g,n*4,none⟩)
theorem Qfo(P:Nat->Prop)(w:World)(p:Value)(XS:List PT)(hsc:S7 w p XS)(hok:No (Af XS))(f:Fd)(fb fo:Nat)(hfb:fb<w.heap.size)(hf:w.rangeAt fb fo (Qx f))(hfk:C0 f.kind)(hfr:B9 (Af XS) f.kind)(hfg:f.given.length<=1000)(hft:f.tag<=1000000000)
  (v:Vl) (slv:Value) (hv:D1 P w slv v.kids) (hvl:v.kids.length<=100) (hvt:∀y∈v.kids,y.tag<=1000000000) (x:Vl) (slx:Value) (hx:D1 P w slx x.kids) (hxb:Bd x):
  Calls prog 102 #[p,Mg v slv,.pointer (some ⟨fb,fo,none⟩),Mg x slx] w fun e w'=>∃sl',e=.returned (Mg (.mk 82 [] 0 (H4 (Au x != Kn (Af XS) f) f.tag (.mk 61 [] f.tag [x]) false v.kids)) sl') /\
   D1 (fun c=>P c\/w.heap.size<=c) w' sl' (H4 (Au x != Kn (Af XS) f) f.tag (.mk 61 [] f.tag [x]) false v.kids)/\Below w w w':=by
 have Hpr:=Aa (fun W (hW:Below w w W)=>Nb P hxb slx W (hx.after hW));have Hof:=Aa (fun W (hW:Below w w W)=>Qck p XS hok f fb fo W (hsc.below hW) (Av hf hfb hW) hfk hfr hfg);obtain⟨q,_,rfl,_⟩:=hsc.map;obtain⟨told,htold⟩:∃b,b=(Au x != Kn (Af XS) f):=⟨_,rfl⟩
 rw[<-htold];have Htold:=Aa htold;obtain⟨A8,c8,rfl⟩:=hx.form;obtain⟨A9,c9,rfl⟩:=hv.form;have f0:=Ab hf 0 rfl;rw[Nat.add_zero]at f0;have Hv:=Aa (hv.mono (Q:=fun c=>P c/\c<w.heap.size) fun b h hl=>⟨h,hl⟩);have Hx:=Aa (hx.mono (Q:=fun c=>P c/\c<w.heap.size) fun b h hl=>⟨h,hl⟩);have Hvt:=Aa hvt;obtain⟨ks,hks⟩:∃ks,ks=v.kids:=⟨_,rfl⟩
 rw[<-hks]at hvl Hvt Hv ⊢;unfold Fp at Hof;clear hsc hv hx hvt hxb htold hf hks;unfold Mg at *;generalize Au x=px at *;generalize Kn (Af XS) f=ox at *;go_enter func102,ntmps102;go_wp2_with fail;generalize hwg:World.alloc (World.alloc (World.alloc (World.alloc (World.alloc w _) _) _) _) _=w5;have hb5:Below w w w5:=by rw[<-hwg];exact(((((Ay _ _).alloc (As _) _).alloc aI _).alloc aM _).alloc aM _).alloc aM _
 have hE:PtE w w5 (.slice A9 ks.length c9) (.pointer (some ⟨fb,fo,none⟩)) (x,.slice A8 x.kids.length c8):=by
  refine⟨by rw[<-hwg];simp,by rw[<-hwg];simp[go_sem],by rw[<-hwg];simp[go_sem],fun j u hu=>?_,fun j hj=>?_⟩
  ·rw[<-hwg];match j,hu with
   |0,hu=>simp[Dx]at hu;subst hu;simp[go_sem]
   |1,hu=>simp[Dx]at hu;subst hu;simp[go_sem]
   |2,hu=>simp[Dx]at hu;subst hu;simp[go_sem]
   |3,hu=>simp[Dx]at hu;subst hu;simp[go_sem]
   |n+4,hu=>simp[Dx]at hu
  rw[<-hwg];match j,hj with
  |0,_=>simp[go_sem]
  |1,_=>simp[go_sem]
  |2,_=>simp[go_sem]
  |3,_=>simp[go_sem]
 obtain⟨B,hB⟩:∃B,B=w.heap.size+4:=⟨_,rfl⟩
 have hBk:Mu w5 B:=by rw[<-hwg,hB];have:=Mu.new ((((w.alloc (.cells #[.int .u8 (v.what.toNat:Int),v.text,(v.tag:Int),.slice A9 ks.length c9] 42)).alloc (.cells #[.pointer (some ⟨fb,fo,none⟩)] 86)).alloc (.cells #[.int .u8 (x.what.toNat:Int),x.text,(x.tag:Int),.slice A8 x.kids.length c8] 42)).alloc (.cells #[.int .u8 0,a8,.int .i64 0,.slice none 0 0] 42)) #[.int .u8 82,a8,.int .i64 0,.slice none 0 0] 42;simpa using this
 have b0:w5.cell? ⟨B,0,none⟩=some (.int .u8 82):=dq;have b1:w5.cell? ⟨B,1,none⟩=a8:=dq;have b2:w5.cell? ⟨B,2,none⟩=some (.int .i64 0):=dq;have b3:w5.cell? ⟨B,3,none⟩=some (.slice none 0 0):=dq;have hz5:w5.heap.size=w.heap.size+5:=by rw[<-hwg];simp
 have Hz5:=Aa hz5;have Hb5:=Aa hb5;have HE:=Aa hE;have hxr:=hE.x;have x0:=Ab hxr 0 rfl;have x1:=Ab hxr 1 rfl;have x2:=Ab hxr 2 rfl;have x3:=Ab hxr 3 rfl;simp only[aj]at x0 x1 x2 x3;have p0:=hE.f0;have l1:w.heap.size+1<w5.heap.size:=aE;have l2:w.heap.size+2<w5.heap.size:=aE;rw[show w.heap.size+1+1+1+1=B by omega];have HB:=Aa hB;have Hrow:=@Aa (∀W,Below w5 w5 W->w5.heap.size<=W.heap.size) (fun W h=>h.size);clear hwg hb5 hE hxr hB hz5;refine Z9 (fun l u W=>Mk w5 [.bool told] (l 6) (l 7) (u 6) W) (Dz w5) (fun _ _ _ h=>M3 h.1) Mk.start ?_;refine sq ?_;refine sqB (fun _ _ _ h=>h.1) (fun _ _ _ _ h hb=>h.below hb) (fun W hW=>Hpr.o W (Hb5.o.trans (hW.mono Hb5.o.size))) ?_;iterate 2 refine sq ?_
 refine sqB (fun _ _ _ h=>h.1) (fun _ _ _ _ h hb=>h.below hb) (fun W hW=>Hof.o W (Hb5.o.trans (hW.mono Hb5.o.size))) ?_
 refine Gy (fun v=>v=.bool told) (by
  intro l u W hl hp hF hG hi K hK;simp[Region.binds,Ck]at hp;go_simp;exact hK (.bool told) _ _ rfl hF.o (by simp[Act.put,hp,Htold.o,bne])) ?_
 refine Gy (fun _=>True) (by
  intro l u W hl hp hF hG hi K hK;have h:Mk w5 [.bool told] (l 6) (l 7) (u 6) W:=hF.o;rw[hl]at h;have Hh:=Aa (h.alloc [.bool false] rfl 4);clear h hp hi hG;go_simp;exact hK _ _ _ Ad Hh.o rfl) ?_
 refine Gy (fun _=>True) (by
  intro l u W hl hp hF hG hi K hK;have h:Mk w5 [.bool told] (l 6) (l 7) (u 6) W:=hF.o;simp[Region.binds,Ck]at hp;have h6:l 6=true:=bQ;obtain⟨b9,e9,_,_,h9,_⟩:=h.2.2 h6;have Hh:=Aa (h.store h6 e9);obtain⟨h91,h92⟩:=h9 0 aI;obtain⟨z9,hz9⟩:=Option.isSome_iff_exists.1 h91;rw[Nat.add_zero]at hz9 h92;clear h h9 h91 hi hG;go_simp;exact hK undef _ _ Ad Hh.o (by simp[Act.put,hp,e9])) ?_
 intro l u W hl _ hR;have hR:Mk w5 [.bool told] (l 6) (l 7) (u 6) W:=hR;obtain⟨T,e9,hT1,hT2,_,hrg⟩:=hR.2.2 (hl 6 aH);have t0:W.cell? (T,0)=some (.bool told):=by have:=Ab (hrg (hl 7 aH)) 0 rfl;simpa using this
 simp only[e9];have HbW:=Aa hR.1;have HEW:=Aa (HE.o.below hR.1);have k3:=HEW.o.k3;have lW:w.heap.size<W.heap.size:=by have:=hR.1.size;omega
 replace b0:=(hR.1.cell (p:=⟨B,0,none⟩) (show B<_ by have:=HB.o;have:=Hz5.o;omega)).trans b0
 replace b1:=(hR.1.cell (p:=⟨B,1,none⟩) (show B<_ by have:=HB.o;have:=Hz5.o;omega)).trans b1
 replace b2:=(hR.1.cell (p:=⟨B,2,none⟩) (show B<_ by have:=HB.o;have:=Hz5.o;omega)).trans b2
 replace b3:=(hR.1.cell (p:=⟨B,3,none⟩) (show B<_ by have:=HB.o;have:=Hz5.o;omega)).trans b3
 replace hBk:=hBk.belowAt (show B<_ by have:=HB.o;have:=Hz5.o;omega) hR.1
 clear hl hR e9 hrg x0 x1 x2 x3 p0 Hpr Hof l1 l2;go_wp2_with fail;generalize hwg:World.alloc W _=w7;obtain⟨D,hD⟩:∃D,D=W.heap.size:=⟨_,rfl⟩
 have hb7:Below W W w7:=eX;have dc:w7.cell? ⟨D,0,none⟩=some (.bool false):=by rw[<-hwg,hD];simp[go_sem]
 have df:w7.frozen? ⟨D,0,none⟩=false:=by rw[<-hwg,hD];simp[go_sem]
 have hz7:w7.heap.size=D+1:=by rw[<-hwg,hD];simp
 have HBn:=@Aa (B=w.heap.size+4/\B<D/\w.heap.size+5<=D/\T<D/\w.heap.size+5<=T) ⟨HB.o,by have:=HB.o;have:=Hz5.o;have:=HbW.o.size;omega,by have:=Hz5.o;have:=HbW.o.size;omega,by omega,by have:=Hz5.o;omega⟩;have hps:PtS (fun c=>(w.heap.size<=c/\c<=D)\/c<w.heap.size/\¬P c) (D+1) B w7 (.slice none 0 0) []:=by
  obtain⟨h1,h2,h3,h4,h5⟩:=HBn.o;have hBl:B<W.heap.size:=aE;exact⟨by omega,by omega,by omega,hBk.belowAt hBl hb7,(hb7.cell (p:=⟨B,0,none⟩) hBl).trans b0,(hb7.cell (p:=⟨B,1,none⟩) hBl).trans b1,(hb7.cell (p:=⟨B,2,none⟩) hBl).trans b2,(hb7.cell (p:=⟨B,3,none⟩) hBl).trans b3,World.ownsRow_nil _ _ _ _,by simp⟩
 have Hps:=Aa hps;have HE7:=Aa (HEW.o.below hb7);have Hb7:=Aa ((Hb5.o.trans (HbW.o.mono Hb5.o.size)).trans (hb7.mono (by have:=Hb5.o.size;have:=HbW.o.size;omega)));have Ht7:=Aa ((hb7.cell (p:=⟨T,0,none⟩) hT2).trans t0);have Hz7:=Aa hz7;have Hf7:=Aa ((Hb7.o.cell (p:=⟨fb,fo,none⟩) hfb).trans f0);rw[<-hD];clear hwg hb7 hps b0 b1 b2 b3 hBk t0 hT1 hT2 hD k3 lW HE HEW HbW f0 Hrow hz7
 go_loopw [26,14] (fun i x14 wr=>∃(m:Nat) (A3:Option Addr) (c3:Nat) (ys:List (Vl × Value)) (dn:Bool),i=.int .i64 m/\m<=ks.length/\Hid (PtS (fun c=>(w.heap.size<=c/\c<=D)\/c<w.heap.size/\¬P c) (D+1) B wr (.slice A3 ys.length c3) ys)/\Hid (wr.cell? ⟨D,0,none⟩=some (.bool dn))/\Hid (wr.frozen? ⟨D,0,none⟩=false)/\Hid (C7 (fun c=>c=B\/c=D) (.slice none 0 0) w7 wr (.slice A3 ys.length c3)) /\
   Hid (H4 told f.tag (.mk 61 [] f.tag [x]) false ks=Ar ys++H4 told f.tag (.mk 61 [] f.tag [x]) dn (ks.drop m))/\Hid (ys.length<=m+1/\(dn=false->ys.length<=m))) (fun i _ _=>ks.length - (intOf i).toNat)
 case atStart=>exact⟨0,none,0,[],false,rfl,af _,Hps.o,dc,df,C7.refl _ _,rfl,af _,fun _=>As _⟩
 case round=>
  obtain⟨m,A3,c3,ys,dn,rfl,hm,Hps,Hdc,Hdf,Hk,Hq,Hyl⟩:=hrel;have m1:(0:Int)<=(m:Int):=aE;have HEr:=Aa (HE7.o.kept Hk.o aT aT (fun k h=>by cases h));have Hbr:=Aa (Hb7.o.trans (Hk.o.under (lo:=w.heap.size) Hb7.o.size (fun b hb=>by have:=HBn.o;rcases hb with rfl|rfl<;>omega) (fun k h=>by cases h)));have hyl:ys.length<=102:=by have:=Hyl.o.1;omega
  by_cases hlt:m<ks.length
  ·have m2:(m:Int)<(ks.length:Int):=aE;have hivr:=Hv.o.kept (Q:=fun c=>P c/\c<w.heap.size) (fun b o u hp hl hu=>Hk.o.cell ((Hb7.o.cell (p:=⟨b,o,none⟩) hl).trans hu) (ab hl Hb7.o.size) aT (fun h=>by cases h)) Hbr.o.size (fun b h _=>h);obtain⟨A5,c5,zs,e5,hkv5,_,hrow5,hP5,hkid5⟩:=hivr;injection e5 with e51 e52 e53;subst e51 e53;have hlt5:m<zs.length:=aE;obtain⟨b,off,rfl,hb5,d0,d1,d2,d3⟩:=D1.at_ hrow5 hlt5;have hPb:=hP5 b _ aE rfl;have hvm:ks[m]=zs[m].1:=by simp[hkv5,Ar]
   have Hdr:=Aa (show ks.drop m=zs[m].1::ks.drop (m+1)by rw[List.drop_eq_getElem_cons hlt,hvm]);have hyt:=Hvt.o _ (ad hlt);rw[hvm]at hyt;have Hkm:=Aa (hkid5 _ (ad hlt5));obtain⟨A7,c7,e7⟩:=Hkm.o.form;rw[e7]at d3;have E7:=Aa e7;clear hkid5 hrow5 hkv5 hvm e52 e7 hP5;obtain⟨z,hz⟩:∃z,z=zs[m]:=⟨_,rfl⟩
   rw[<-hz]at d0 d1 d2 d3 Hdr hyt Hkm E7;clear hz;obtain⟨y,ysl⟩:=z;simp only at d0 d1 d2 d3 Hdr hyt Hkm E7;obtain rfl:=E7.o;have g0:¬(b=wr.heap.size):=by have:=hPb.2;have:=Hbr.o.size;omega
   go_wp2_with fail;generalize hwk:World.alloc wr _=wk;have hbk:Below wr wr wk:=by rw[<-hwk];exact(Ay _ _).alloc (As _) _
   have hyr:wk.rangeAt wr 0 (Dx (y,.slice A7 y.kids.length c7)):=by rw[<-hwk];exact Ch wr _ _
   have y2:wk.cell? (wr,2)=(y.tag:Int):=by have:=Ab hyr 2 rfl;simpa using this
   have ly:wr.heap.size<wk.heap.size:=by rw[<-hwk];simp
   have fk:=((HEr.o.below hbk).f0)
   have fb0:=(hbk.cell (p:=⟨fb,fo,none⟩) (show fb<_ by have:=Hbr.o.size;omega)).trans (Hk.o.cell Hf7.o (by have:=Hb7.o.size;omega) aT (fun h=>by cases h));have lf:fb<wk.heap.size:=dI;have lw1:w.heap.size+1<wk.heap.size:=by have:=HEr.o.l;omega
   have Hbk:=Aa hbk;have Hyr:=Aa hyr;have Hfb:=Aa fb0;clear hwk hbk hyr d0 d1 d2 d3;refine rgD ?_;iterate 7 refine sq ?_
   refine dnB fun wk1 HW=>?_;have hbk1:Below wk wk wk1:=by obtain⟨k,hk⟩:=HW.o;rw[hk];exact below_drewN (Ay _ _) k
   have hbr1:Below wr wr wk1:=Hbk.o.trans (hbk1.mono Hbk.o.size);have Hb1:=Aa (Hbr.o.trans (hbr1.mono Hbr.o.size));have Hps1:=Aa (Hps.o.after hbr1);have HE1:=Aa (HEr.o.below hbr1);have Hyr1:=Aa (Av Hyr.o ly hbk1);have ly1:wr.heap.size<wk1.heap.size:=ab ly hbk1.size;have Hk1:=Aa (Hk.o.trans (C7.of_below hbr1));have Hny1:=@Aa (some wr.heap.size≠(Value.slice A3 ys.length c3).ownBlock) (fun e=>by have:=(Hps.o.row.lt _ e.symm).2;omega);have hDr:D<wr.heap.size:=dJ;have Hdc1:=Aa ((hbr1.cell (p:=⟨D,0,none⟩) hDr).trans Hdc.o);have Hdf1:=Aa ((hbr1.frozen (p:=⟨D,0,none⟩) hDr).trans Hdf.o);have Hfb1:=Aa ((hbk1.cell (p:=⟨fb,fo,none⟩) lf).trans Hfb.o);have lf1:fb<wk1.heap.size:=ab lf hbk1.size;clear hbk1 HW y2 fk fb0 lf lw1 ly hbr1 Hyr Hfb;by_cases hge:f.tag<=y.tag
   ·have hgeI:(f.tag:Int)<=(y.tag:Int):=aE;have hzl:∀q,((w.heap.size<=q/\q<=D)\/q<w.heap.size/\¬P q)->q<wk1.heap.size:=fun q h=>by have:=HBn.o;have:=Hb1.o.size;have:=Hk1.o.size;have:=Hz7.o;omega
    have hyx:D1 (fun q=>¬((w.heap.size<=q/\q<=D)\/q<w.heap.size/\¬P q)/\q<wk1.heap.size/\(Value.slice A3 ys.length c3).ownBlock≠some q) wk1 (.slice A8 x.kids.length c8) x.kids:=
     (Hx.o.after Hb1.o).mono fun q hq _=>⟨fun e=>by have:=HBn.o;rcases e with e|e<;>first|omega|exact e.2 hq.1,by have:=Hb1.o.size;omega,fun e=>by have:=(Hps1.o.row.lt q e).1;have:=HBn.o;omega⟩
    have HC:=Aa (Qcs (fun c=>(w.heap.size<=c/\c<=D)\/c<w.heap.size/\¬P c) (D+1) B T D (w.heap.size+1) (w.heap.size+2) fb fo f.tag told dn x (.slice A8 x.kids.length c8) A3 ys.length c3 ys wk1 Hps1.o
     (Hk1.o.cell Ht7.o (by have:=HBn.o;have:=Hz7.o;omega) aT (fun h=>by cases h)) Hdc1.o Hdf1.o HE1.o.f0 Hfb1.o HE1.o.x ⟨_,_,_,rfl⟩ (.inl aT) (.inl aT) hzl aT aE aT aT aT aT
     (fun b hb=>by have:=HBn.o;omega) aE hyx)
    clear hzl hyx;go_wp2_with fail;refine HC.o.mono ?_;rintro e w2 ⟨rfl,A1,c1,ys1,hv1,hps1,hdc1,hdf1,hk1⟩;have hl1:ys1.length=ys.length+(if (told && !dn)=true then 1 else 0):=by
     have:=congrArg List.length hv1;simp only[Ar,ag,List.length_map]at this;rw[this];split<;>simp
    have hl1':ys1.length<=m+1:=by have h1:=Hyl.o;cases dn<;>cases told<;>simp at hl1 h1<;>omega
    have Hl1:=Aa hl1';have HEa:=HE1.o.kept hk1 aT aT (fun k h=>by have:=(Hps1.o.row.lt k h).1;have:=HBn.o;omega);have Hps2:=Aa hps1;have ly2:wr.heap.size<w2.heap.size:=ab ly1 hk1.size;have hwne:¬(wr.heap.size=B\/wr.heap.size=D):=aT;have Hyr2:=@Aa (w2.rangeAt wr 0 (Dx (y,.slice A7 y.kids.length c7))) (fun j u hu=>hk1.cell (Hyr1.o j u hu) ly1 hwne Hny1.o);have y22:w2.cell? (wr,2)=(y.tag:Int):=eW;have fk2:=HEa.f0;have lw2:w.heap.size+1<w2.heap.size:=by have:=HEa.l;omega
    have fb2:=hk1.cell Hfb1.o lf1 aT (fun e=>by have:=(Hps1.o.row.lt fb e.symm).1;have:=HBn.o;omega);have lf2:fb<w2.heap.size:=ab lf1 hk1.size;have Hk2:=Aa (Hk1.o.trans hk1)
    have Hny2:=Aa (show some wr.heap.size≠(Value.slice A1 ys1.length c1).ownBlock from fun e=>by
     rcases hk1.own with e2|⟨k,e2,hk2⟩
     ·rw[e2]at e;exact Hny1.o e
     rw[e2]at e;have e3:wr.heap.size=k:=Option.some.inj e;omega)
    have Hdc2:=Aa hdc1;have Hdf2:=Aa hdf1;have Hv1:=Aa hv1;have hyl2:ys1.length<=102:=aE;have Hb2:=Aa (Hb1.o.trans (hk1.under (lo:=w.heap.size) Hb1.o.size (fun b hb=>by have:=HBn.o;rcases hb with rfl|rfl<;>omega) (fun k h=>by have:=(Hps1.o.row.lt k h).1;have:=HBn.o;omega)));clear hv1 hps1 hdc1 hdf1 hk1 HEa hl1 HC;by_cases heq:y.tag=f.tag
    ·have heqI:(y.tag:Int)=(f.tag:Int):=aE;have heqB:((y.tag:Int) != (f.tag:Int))=false:=fg
     have Hq2:=Aa (show H4 told f.tag (.mk 61 [] f.tag [x]) false ks=Ar ys1++H4 told f.tag (.mk 61 [] f.tag [x]) true (ks.drop (m+1))by
      rw[Hq.o,Hdr.o,Hv1.o];conv=>lhs;unfold H4
      rw[if_pos hge,if_pos heq];simp)
     have Heq:=Aa heq;clear heq hge hgeI heqI;go_wp2_with fail;refine rgD ?_;iterate 7 refine sq ?_
     refine dnB fun w3 HW3=>?_;have Hb3:=Aa (show Below w2 w2 w3 by obtain⟨k,hk⟩:=HW3.o;rw[hk];exact below_drewN (Ay _ _) k);have hD2:D<w2.heap.size:=aE;have Hps3:=Aa (Hps2.o.after Hb3.o);have Hdc3:=Aa ((Hb3.o.cell (p:=⟨D,0,none⟩) hD2).trans Hdc2.o);have Hdf3:=Aa ((Hb3.o.frozen (p:=⟨D,0,none⟩) hD2).trans Hdf2.o);have Hk3:=Aa (Hk2.o.trans (C7.of_below Hb3.o));clear HW3 y22 lf2 lw2 fk2 fb2 ly2;go_wp2_with fail;go_roundw
     case rel=>exact⟨m+1,A1,c1,ys1,true,by go_num,by omega,Hps3.o,Hdc3.o,Hdf3.o,Hk3.o,Hq2.o,by have:=Hl1.o;omega,fun h=>by cases h⟩
     case measure=>simp[intOf];omega
    have heqI:¬((y.tag:Int)=(f.tag:Int)):=aE;have heqB:((y.tag:Int) != (f.tag:Int))=true:=fg
    have Hq2:=Aa (show H4 told f.tag (.mk 61 [] f.tag [x]) false ks=(Ar ys1++[y])++H4 told f.tag (.mk 61 [] f.tag [x]) true (ks.drop (m+1))by
     rw[Hq.o,Hdr.o,Hv1.o];conv=>lhs;unfold H4
     rw[if_pos hge,if_neg heq];simp)
    have Hkm2:=Aa (Hkm.o);clear heq hge hgeI heqI;go_wp2_with fail;refine rgD ?_;iterate 7 refine sq ?_
    refine dnB fun w3 HW3=>?_;have Hb3:=Aa (show Below w2 w2 w3 by obtain⟨k,hk⟩:=HW3.o;rw[hk];exact below_drewN (Ay _ _) k);have Hps3:=Aa (Hps2.o.after Hb3.o);have hyr3:=Av Hyr2.o ly2 Hb3.o;have z0:=Ab hyr3 0 rfl;have z1:=Ab hyr3 1 rfl;have z2:=Ab hyr3 2 rfl;have z3:=Ab hyr3 3 rfl;simp only[aj]at z0 z1 z2 z3;have hD2:D<w2.heap.size:=dJ;have hl3:=Hps3.o.lt;have c33:=Hps3.o.c3;have hbs3:=Hps3.o.bs;have hyl3:ys1.length<=103:=aE;have ly3:wr.heap.size<w3.heap.size:=ab ly2 Hb3.o.size;have Hne3:=@Aa (wr.heap.size≠B/\some wr.heap.size≠(Value.slice A1 ys1.length c1).ownBlock/\wr.heap.size≠D) ⟨by have:=HBn.o;have:=Hk.o.size;have:=Hz7.o;omega,Hny2.o,by have:=Hk.o.size;have:=Hz7.o;omega⟩;clear HW3 hyr3 y22 lf2 lw2 fk2 fb2 ly2;have Hdc3:=Aa ((Hb3.o.cell (p:=⟨D,0,none⟩) hD2).trans Hdc2.o);have Hdf3:=Aa ((Hb3.o.frozen (p:=⟨D,0,none⟩) hD2).trans Hdf2.o);have Hk3:=Aa (Hk2.o.trans (C7.of_below Hb3.o));have Hkm3:=@Aa (D1 (fun q=>P q/\q<w.heap.size) w3 (.slice A7 y.kids.length c7) y.kids) (Hkm.o.kept (fun b o u hp hl hu=>(Hb3.o.cell (p:=⟨b,o,none⟩) (show b<_ by have:=Hb2.o.size;omega)).trans ((Hb2.o.cell (p:=⟨b,o,none⟩) hp.2).trans dV)) (by have:=Hb3.o.size;omega) (fun _ h _=>h));have Hq3:=Aa (show H4 told f.tag (.mk 61 [] f.tag [x]) false ks=Ar (ys1++[(y,Value.slice A7 y.kids.length c7)])++H4 told f.tag (.mk 61 [] f.tag [x]) true (ks.drop (m+1))by rw[Hq2.o];simp[Ar]);go_wp2_with fail;clear heqB
    refine Z9 (fun l u W=>Vh (D+1) B (.slice A1 ys1.length c1) ys1.length (ys1.flatMap Dx) (Dx (y,.slice A7 y.kids.length c7)) w3 (l 4) (l 5) (l 6) (l 7) (l 9) (u 4) (u 5) (u 6) W) (fun W=>∀j,W.cell? ⟨wr.heap.size,j,none⟩=w3.cell? ⟨wr.heap.size,j,none⟩) (fun l u W h j=>by
     obtain⟨vo',hk⟩:=h.z.kept;exact World.cell?_of_block (hk.block _ ly3 Hne3.o.1 Hne3.o.2.1)) ⟨Qi.start (Ay _ _).drew,by simp⟩ ?_
    refine sq ?_
    refine Gy (fun v=>v=.slice A1 ys1.length c1) (by
     intro l u W hl hp hF hG hi K hK;have h5:=(hi.o 5 cx).1;have hb:=(hF.o.z.h5 h5).2.2;have q3:=(hb.cell (p:=⟨B,3,none⟩) hl3).trans c33;simp[Region.binds,Ck]at hp;clear hb h5;go_simp;exact hK _ _ _ rfl hF.o bX) ?_
    iterate 2 refine sq ?_
    refine Gy (fun _=>True) (by
     intro l u W hl hp hF hG hi K hK;have h5:=(hi.o 5 cx).1;simp[Region.binds,Ck]at hp;have h:Vh (D+1) B (.slice A1 ys1.length c1) ys1.length (ys1.flatMap Dx) (Dx (y,.slice A7 y.kids.length c7)) w3 (l 4) (l 5) (l 6) (l 7) (l 9) (u 4) (u 5) (u 6) W:=hF.o;rw[hl]at h;have H:=@Aa (Vh (D+1) B (.slice A1 ys1.length c1) ys1.length (ys1.flatMap Dx) (Dx (y,.slice A7 y.kids.length c7)) w3 true (l 5) (l 6) (l 7) (l 9) (.slice (some ⟨W.heap.size,0,none⟩) 1 1) (u 5) (u 6) (W.alloc (.cells Ju.toArray 42))) ⟨h.z.zero h5 _,h.r6⟩;clear h h5;go_simp;exact hK _ _ _ Ad H.o bD) ?_
    refine Gy (fun _=>True) (by
     intro l u W hl hp hF hG hi K hK;simp[Region.binds,Ck]at hp;have h:Vh (D+1) B (.slice A1 ys1.length c1) ys1.length (ys1.flatMap Dx) (Dx (y,.slice A7 y.kids.length c7)) w3 (l 4) (l 5) (l 6) (l 7) (l 9) (u 4) (u 5) (u 6) W:=hF.o;have h4:l 4=true:=bQ;obtain⟨z,e4,hz,hzr⟩:=h.z.h4 h4 hl;have hb:=(h.z.h5 hl).2.2;rw[hl]at h;have H:=Aa h;have hrow:=Bm Hps3.o.row hb;have hbb:D+1<=W.heap.size:=ac hbs3 hb.size;clear h hG hi hb;simp only[Region.wanted,if_true];refine Yu W (.tmp 47) (.tmp 50) 40 rfl (D+1) 42 (.agg #[.int .u8 0,a8,.int .i64 0,.slice none 0 0]) 4 56 underlying40 Pq rfl aH Ju rfl ez (.slice A1 ys1.length c1) ys1.length (ys1.flatMap Dx) z ?_ ?_ hzr hrow aW aE hbb ?_
     ·simp[hp];rfl
     ·simp[hp,e4];rfl
     intro v' w5 hown5 hg5 hwh5;obtain⟨g5,c5,rfl⟩:=Tl hown5;exact hK _ _ _ Ad ⟨H.o.z.app hl3 c33 Hps3.o.bk (fun e=>by have:=(Hps3.o.row.lt B e.symm).1;have:=HBn.o;omega) hown5 hg5 hwh5,fun e=>absurd (H.o.r6 e).1 aH⟩ rfl) ?_
    refine Gy (fun _=>True) (by
     intro l u W hl hp hF hG hi K hK;simp[Region.binds,Ck]at hp;have h:Vh (D+1) B (.slice A1 ys1.length c1) ys1.length (ys1.flatMap Dx) (Dx (y,.slice A7 y.kids.length c7)) w3 (l 4) (l 5) (l 6) (l 7) (l 9) (u 4) (u 5) (u 6) W:=hF.o;have h5:l 5=true:=bQ;obtain⟨g,c5,e5,_⟩:=h.z.h6 h5;have H:=@Aa (Vh (D+1) B (.slice A1 ys1.length c1) ys1.length (ys1.flatMap Dx) (Dx (y,.slice A7 y.kids.length c7)) w3 (l 4) (l 5) true (l 7) (l 9) (u 4) (u 5) (.pointer (some ⟨g,ys1.length*4,none⟩)) W) ⟨h.z,fun _=>⟨h5,g,c5,e5,rfl⟩⟩;clear h h5;have k1:(0:Int)<=(ys1.length:Int):=aE;have k2:(ys1.length:Int)<(ys1.length:Int)+1:=aE;go_simp;exact hK (.pointer (some ⟨g,ys1.length*4,none⟩)) _ _ Ad H.o di) ?_
    refine Gy (fun _=>True) (by
     intro l u W hl hp hF hG hi K hK;simp[Region.binds,Ck]at hp;have h:Vh (D+1) B (.slice A1 ys1.length c1) ys1.length (ys1.flatMap Dx) (Dx (y,.slice A7 y.kids.length c7)) w3 (l 4) (l 5) (l 6) (l 7) (l 9) (u 4) (u 5) (u 6) W:=hF.o;have h6:l 6=true:=bQ;obtain⟨h5,g,c5,e5,e6⟩:=h.r6 h6;have hz:=h.z;rw[hl,h5]at hz;obtain⟨ht,h2⟩:=hz.elem (Gv Pl ys1) rfl hl3 aT e5;have H:=@Aa (Vh (D+1) B (.slice A1 ys1.length c1) ys1.length (ys1.flatMap Dx) (Dx (y,.slice A7 y.kids.length c7)) w3 (l 4) (l 5) (l 6) true (l 9) (u 4) (u 5) (u 6) (W.setCells g (ys1.length*4) (Dx (y,.slice A7 y.kids.length c7)))) ⟨by rw[h5];exact h2,h.r6⟩;clear h h2 hz hG hi;simp only[Region.wanted,if_true];refine wp_store_mid 42 _ _ rfl g (ys1.length*4) (Dx (y,.slice A7 y.kids.length c7)).toArray e6 (by simp[hp];rfl) ht aJ (by simp[Dx,Value.oneCell']) ?_;exact hK undef _ _ Ad H.o rfl) ?_
    refine sq ?_
    refine Gy (fun _=>True) (by
     intro l u W hl hp hF hG hi K hK;simp[Region.binds,Ck]at hp;have h:Vh (D+1) B (.slice A1 ys1.length c1) ys1.length (ys1.flatMap Dx) (Dx (y,.slice A7 y.kids.length c7)) w3 (l 4) (l 5) (l 6) (l 7) (l 9) (u 4) (u 5) (u 6) W:=hF.o;have h5:l 5=true:=bQ;obtain⟨g,c5,e5,h22,h33,h44,_,h66⟩:=h.z.h6 h5;have hz:=h.z;rw[hl,h5]at hz;rw[hl]at h44;have H:=@Aa (Vh (D+1) B (.slice A1 ys1.length c1) ys1.length (ys1.flatMap Dx) (Dx (y,.slice A7 y.kids.length c7)) w3 (l 4) (l 5) (l 6) (l 7) true (u 4) (u 5) (u 6) (W.setCell ⟨B,3,none⟩ (.slice (g,0) (ys1.length+1) c5))) ⟨by have:=hz.head aT;rw[h5];rwa [e5]at this ⊢,h.r6⟩;have q3:=h44;have q4:=h66.live 3;simp only[ak,if_false]at q3;clear h hz h5 h22 h33 h44 h66;go_simp;exact hK undef _ _ Ad H.o di) ?_
    intro l u W4 hl _ hR;have h:Vh (D+1) B (.slice A1 ys1.length c1) ys1.length (ys1.flatMap Dx) (Dx (y,.slice A7 y.kids.length c7)) w3 (l 4) (l 5) (l 6) (l 7) (l 9) (u 4) (u 5) (u 6) W4:=hR;have hz:=h.z;rw[hl 4 aH,hl 5 aH,hl 7 aH,hl 9 aH]at hz;obtain⟨vo',hko⟩:=hz.kept;have hny:∀q,P q/\q<w.heap.size->¬((w.heap.size<=q/\q<=D)\/q<w.heap.size/\¬P q):=fun q hq e=>dW;have hivy:D1 (fun q=>¬((w.heap.size<=q/\q<=D)\/q<w.heap.size/\¬P q)/\(u 5).ownBlock≠some q) W4 (.slice A7 y.kids.length c7) y.kids:=by
     have h0:=Hkm3.o;obtain⟨g5,c5,e5,h51,h52,_⟩:=hz.h6 rfl;refine h0.kept (fun b o v hb hl hv=>hko.cell hv hl (fun e=>by have:=HBn.o;omega) (fun e=>by have:=(Hps3.o.row.lt b e.symm).1;have:=HBn.o;omega)) hko.size fun b hb hl=>⟨hny b hb,fun e=>?_⟩
     rw[e5]at e;rcases h52.own with e2|⟨k,e2,hk2⟩
     ·exact hJ
     exact iU
    obtain⟨g5,c5,e5,hps4,hkx4⟩:=Hps3.o.grow rfl (.inl aT) hz hivy;have hl3D:D<w3.heap.size:=aE;have hDn3:some D≠(Value.slice A1 ys1.length c1).ownBlock:=fun e=>eV;have hdc4:=hko.cell (b:=D) (o:=0) Hdc3.o hl3D aT hDn3;have hdf4:W4.frozen? ⟨D,0,none⟩=false:=(World.frozen?_of_block (a:=⟨D,0,none⟩) (hko.block D hl3D aT hDn3)).trans Hdf3.o;rw[e5]at hps4 hkx4;have Hps4:=Aa hps4;have Hk4:=Aa (Hk3.o.trans (hkx4.more fun b hb=>.inl hb));have Hdc4:=Aa hdc4;have Hdf4:=Aa hdf4;clear h hz hl hR hko hivy hps4 hkx4 hdc4 hdf4 hny z0 z1 z2 z3 c33;go_wp2_with fail;go_roundw
    case rel=>exact⟨m+1,some ⟨g5,0,none⟩,c5,ys1++[(y,Value.slice A7 y.kids.length c7)],true,by go_num,by omega,Hps4.o,Hdc4.o,Hdf4.o,Hk4.o,Hq3.o,by have:=Hl1.o;simp;omega,fun h=>by cases h⟩
    case measure=>simp[intOf];omega
   have hgeI:¬((f.tag:Int)<=(y.tag:Int)):=aE;have hltI:(y.tag:Int)<(f.tag:Int):=aE;have heqI:¬((y.tag:Int)=(f.tag:Int)):=aE;have heqB:((y.tag:Int) != (f.tag:Int))=true:=fg
   have Hq2:=Aa (show H4 told f.tag (.mk 61 [] f.tag [x]) false ks=(Ar ys++[y])++H4 told f.tag (.mk 61 [] f.tag [x]) dn (ks.drop (m+1))by
    rw[Hq.o,Hdr.o];conv=>lhs;unfold H4
    rw[if_neg hge];simp)
   have Hps2:=Hps1;have Hyr2:=Hyr1;have ly2:=ly1;have y22:wk1.cell? (wr,2)=(y.tag:Int):=eW;have fk2:=HE1.o.f0;have lw2:w.heap.size+1<wk1.heap.size:=by have:=HE1.o.l;omega
   have fb2:=Hfb1.o;have lf2:=lf1;have Hny2:=Hny1;have Hb2:=Hb1;clear hge heqI ly1 lf1;go_wp2_with fail;refine rgD ?_;iterate 7 refine sq ?_
   refine dnB fun w3 HW3=>?_;have Hb3:=Aa (show Below wk1 wk1 w3 by obtain⟨k,hk⟩:=HW3.o;rw[hk];exact below_drewN (Ay _ _) k);have Hps3:=Aa (Hps2.o.after Hb3.o);have hyr3:=Av Hyr2.o ly2 Hb3.o;have z0:=Ab hyr3 0 rfl;have z1:=Ab hyr3 1 rfl;have z2:=Ab hyr3 2 rfl;have z3:=Ab hyr3 3 rfl;simp only[aj]at z0 z1 z2 z3;have hD2:D<wk1.heap.size:=dJ;have hl3:=Hps3.o.lt;have c33:=Hps3.o.c3;have hbs3:=Hps3.o.bs;have hyl3:ys.length<=103:=aE;have ly3:wr.heap.size<w3.heap.size:=ab ly2 Hb3.o.size;have Hne3:=@Aa (wr.heap.size≠B/\some wr.heap.size≠(Value.slice A3 ys.length c3).ownBlock/\wr.heap.size≠D) ⟨by have:=HBn.o;have:=Hk.o.size;have:=Hz7.o;omega,Hny2.o,by have:=Hk.o.size;have:=Hz7.o;omega⟩;clear HW3 hyr3 y22 lf2 lw2 fk2 fb2 ly2;have Hdc3:=Aa ((Hb3.o.cell (p:=⟨D,0,none⟩) hD2).trans Hdc1.o);have Hdf3:=Aa ((Hb3.o.frozen (p:=⟨D,0,none⟩) hD2).trans Hdf1.o);have Hk3:=Aa (Hk1.o.trans (C7.of_below Hb3.o));have Hkm3:=@Aa (D1 (fun q=>P q/\q<w.heap.size) w3 (.slice A7 y.kids.length c7) y.kids) (Hkm.o.kept (fun b o u hp hl hu=>(Hb3.o.cell (p:=⟨b,o,none⟩) (show b<_ by have:=Hb2.o.size;omega)).trans ((Hb2.o.cell (p:=⟨b,o,none⟩) hp.2).trans dV)) (by have:=Hb3.o.size;omega) (fun _ h _=>h));have Hq3:=Aa (show H4 told f.tag (.mk 61 [] f.tag [x]) false ks=Ar (ys++[(y,Value.slice A7 y.kids.length c7)])++H4 told f.tag (.mk 61 [] f.tag [x]) dn (ks.drop (m+1))by rw[Hq2.o];simp[Ar]);go_wp2_with fail;clear heqB
   refine Z9 (fun l u W=>Vh (D+1) B (.slice A3 ys.length c3) ys.length (ys.flatMap Dx) (Dx (y,.slice A7 y.kids.length c7)) w3 (l 4) (l 5) (l 6) (l 7) (l 9) (u 4) (u 5) (u 6) W) (fun W=>∀j,W.cell? ⟨wr.heap.size,j,none⟩=w3.cell? ⟨wr.heap.size,j,none⟩) (fun l u W h j=>by
    obtain⟨vo',hk⟩:=h.z.kept;exact World.cell?_of_block (hk.block _ ly3 Hne3.o.1 Hne3.o.2.1)) ⟨Qi.start (Ay _ _).drew,by simp⟩ ?_
   refine sq ?_
   refine Gy (fun v=>v=.slice A3 ys.length c3) (by
    intro l u W hl hp hF hG hi K hK;have h5:=(hi.o 5 cx).1;have hb:=(hF.o.z.h5 h5).2.2;have q3:=(hb.cell (p:=⟨B,3,none⟩) hl3).trans c33;simp[Region.binds,Ck]at hp;clear hb h5;go_simp;exact hK _ _ _ rfl hF.o bX) ?_
   iterate 2 refine sq ?_
   refine Gy (fun _=>True) (by
    intro l u W hl hp hF hG hi K hK;have h5:=(hi.o 5 cx).1;simp[Region.binds,Ck]at hp;have h:Vh (D+1) B (.slice A3 ys.length c3) ys.length (ys.flatMap Dx) (Dx (y,.slice A7 y.kids.length c7)) w3 (l 4) (l 5) (l 6) (l 7) (l 9) (u 4) (u 5) (u 6) W:=hF.o;rw[hl]at h;have H:=@Aa (Vh (D+1) B (.slice A3 ys.length c3) ys.length (ys.flatMap Dx) (Dx (y,.slice A7 y.kids.length c7)) w3 true (l 5) (l 6) (l 7) (l 9) (.slice (some ⟨W.heap.size,0,none⟩) 1 1) (u 5) (u 6) (W.alloc (.cells Ju.toArray 42))) ⟨h.z.zero h5 _,h.r6⟩;clear h h5;go_simp;exact hK _ _ _ Ad H.o bD) ?_
   refine Gy (fun _=>True) (by
    intro l u W hl hp hF hG hi K hK;simp[Region.binds,Ck]at hp;have h:Vh (D+1) B (.slice A3 ys.length c3) ys.length (ys.flatMap Dx) (Dx (y,.slice A7 y.kids.length c7)) w3 (l 4) (l 5) (l 6) (l 7) (l 9) (u 4) (u 5) (u 6) W:=hF.o;have h4:l 4=true:=bQ;obtain⟨z,e4,hz,hzr⟩:=h.z.h4 h4 hl;have hb:=(h.z.h5 hl).2.2;rw[hl]at h;have H:=Aa h;have hrow:=Bm Hps3.o.row hb;have hbb:D+1<=W.heap.size:=ac hbs3 hb.size;clear h hG hi hb;simp only[Region.wanted,if_true];refine Yu W (.tmp 47) (.tmp 50) 40 rfl (D+1) 42 (.agg #[.int .u8 0,a8,.int .i64 0,.slice none 0 0]) 4 56 underlying40 Pq rfl aH Ju rfl ez (.slice A3 ys.length c3) ys.length (ys.flatMap Dx) z ?_ ?_ hzr hrow aW aE hbb ?_
    ·simp[hp];rfl
    ·simp[hp,e4];rfl
    intro v' w5 hown5 hg5 hwh5;obtain⟨g5,c5,rfl⟩:=Tl hown5;exact hK _ _ _ Ad ⟨H.o.z.app hl3 c33 Hps3.o.bk (fun e=>by have:=(Hps3.o.row.lt B e.symm).1;have:=HBn.o;omega) hown5 hg5 hwh5,fun e=>absurd (H.o.r6 e).1 aH⟩ rfl) ?_
   refine Gy (fun _=>True) (by
    intro l u W hl hp hF hG hi K hK;simp[Region.binds,Ck]at hp;have h:Vh (D+1) B (.slice A3 ys.length c3) ys.length (ys.flatMap Dx) (Dx (y,.slice A7 y.kids.length c7)) w3 (l 4) (l 5) (l 6) (l 7) (l 9) (u 4) (u 5) (u 6) W:=hF.o;have h5:l 5=true:=bQ;obtain⟨g,c5,e5,_⟩:=h.z.h6 h5;have H:=@Aa (Vh (D+1) B (.slice A3 ys.length c3) ys.length (ys.flatMap Dx) (Dx (y,.slice A7 y.kids.length c7)) w3 (l 4) (l 5) true (l 7) (l 9) (u 4) (u 5) (.pointer (some ⟨g,ys.length*4,none⟩)) W) ⟨h.z,fun _=>⟨h5,g,c5,e5,rfl⟩⟩;clear h h5;have k1:(0:Int)<=(ys.length:Int):=aE;have k2:(ys.length:Int)<(ys.length:Int)+1:=aE;go_simp;exact hK (.pointer (some ⟨g,ys.length*4,none⟩)) _ _ Ad H.o di) ?_
   refine Gy (fun _=>True) (by
    intro l u W hl hp hF hG hi K hK;simp[Region.binds,Ck]at hp;have h:Vh (D+1) B (.slice A3 ys.length c3) ys.length (ys.flatMap Dx) (Dx (y,.slice A7 y.kids.length c7)) w3 (l 4) (l 5) (l 6) (l 7) (l 9) (u 4) (u 5) (u 6) W:=hF.o;have h6:l 6=true:=bQ;obtain⟨h5,g,c5,e5,e6⟩:=h.r6 h6;have hz:=h.z;rw[hl,h5]at hz;obtain⟨ht,h2⟩:=hz.elem (Gv Pl ys) rfl hl3 aT e5;have H:=@Aa (Vh (D+1) B (.slice A3 ys.length c3) ys.length (ys.flatMap Dx) (Dx (y,.slice A7 y.kids.length c7)) w3 (l 4) (l 5) (l 6) true (l 9) (u 4) (u 5) (u 6) (W.setCells g (ys.length*4) (Dx (y,.slice A7 y.kids.length c7)))) ⟨by rw[h5];exact h2,h.r6⟩;clear h h2 hz hG hi;simp only[Region.wanted,if_true];refine wp_store_mid 42 _ _ rfl g (ys.length*4) (Dx (y,.slice A7 y.kids.length c7)).toArray e6 (by simp[hp];rfl) ht aJ (by simp[Dx,Value.oneCell']) ?_;exact hK undef _ _ Ad H.o rfl) ?_
   refine sq ?_
   refine Gy (fun _=>True) (by
    intro l u W hl hp hF hG hi K hK;simp[Region.binds,Ck]at hp;have h:Vh (D+1) B (.slice A3 ys.length c3) ys.length (ys.flatMap Dx) (Dx (y,.slice A7 y.kids.length c7)) w3 (l 4) (l 5) (l 6) (l 7) (l 9) (u 4) (u 5) (u 6) W:=hF.o;have h5:l 5=true:=bQ;obtain⟨g,c5,e5,h22,h33,h44,_,h66⟩:=h.z.h6 h5;have hz:=h.z;rw[hl,h5]at hz;rw[hl]at h44;have H:=@Aa (Vh (D+1) B (.slice A3 ys.length c3) ys.length (ys.flatMap Dx) (Dx (y,.slice A7 y.kids.length c7)) w3 (l 4) (l 5) (l 6) (l 7) true (u 4) (u 5) (u 6) (W.setCell ⟨B,3,none⟩ (.slice (g,0) (ys.length+1) c5))) ⟨by have:=hz.head aT;rw[h5];rwa [e5]at this ⊢,h.r6⟩;have q3:=h44;have q4:=h66.live 3;simp only[ak,if_false]at q3;clear h hz h5 h22 h33 h44 h66;go_simp;exact hK undef _ _ Ad H.o di) ?_
   intro l u W4 hl _ hR;have h:Vh (D+1) B (.slice A3 ys.length c3) ys.length (ys.flatMap Dx) (Dx (y,.slice A7 y.kids.length c7)) w3 (l 4) (l 5) (l 6) (l 7) (l 9) (u 4) (u 5) (u 6) W4:=hR;have hz:=h.z;rw[hl 4 aH,hl 5 aH,hl 7 aH,hl 9 aH]at hz;obtain⟨vo',hko⟩:=hz.kept;have hny:∀q,P q/\q<w.heap.size->¬((w.heap.size<=q/\q<=D)\/q<w.heap.size/\¬P q):=fun q hq e=>dW;have hivy:D1 (fun q=>¬((w.heap.size<=q/\q<=D)\/q<w.heap.size/\¬P q)/\(u 5).ownBlock≠some q) W4 (.slice A7 y.kids.length c7) y.kids:=by
    have h0:=Hkm3.o;obtain⟨g5,c5,e5,h51,h52,_⟩:=hz.h6 rfl;refine h0.kept (fun b o v hb hl hv=>hko.cell hv hl (fun e=>by have:=HBn.o;omega) (fun e=>by have:=(Hps3.o.row.lt b e.symm).1;have:=HBn.o;omega)) hko.size fun b hb hl=>⟨hny b hb,fun e=>?_⟩
    rw[e5]at e;rcases h52.own with e2|⟨k,e2,hk2⟩
    ·exact hJ
    exact iU
   obtain⟨g5,c5,e5,hps4,hkx4⟩:=Hps3.o.grow rfl (.inl aT) hz hivy;have hl3D:D<w3.heap.size:=aE;have hDn3:some D≠(Value.slice A3 ys.length c3).ownBlock:=fun e=>eV;have hdc4:=hko.cell (b:=D) (o:=0) Hdc3.o hl3D aT hDn3;have hdf4:W4.frozen? ⟨D,0,none⟩=false:=(World.frozen?_of_block (a:=⟨D,0,none⟩) (hko.block D hl3D aT hDn3)).trans Hdf3.o;rw[e5]at hps4 hkx4;have Hps4:=Aa hps4;have Hk4:=Aa (Hk3.o.trans (hkx4.more fun b hb=>.inl hb));have Hdc4:=Aa hdc4;have Hdf4:=Aa hdf4;clear h hz hl hR hko hivy hps4 hkx4 hdc4 hdf4 hny z0 z1 z2 z3 c33;go_wp2_with fail;go_roundw
   case rel=>exact⟨m+1,some ⟨g5,0,none⟩,c5,ys++[(y,Value.slice A7 y.kids.length c7)],dn,by go_num,by omega,Hps4.o,Hdc4.o,Hdf4.o,Hk4.o,Hq3.o,by have:=Hyl.o.1;simp;omega,fun h=>by have:=Hyl.o.2 h;simp;omega⟩
   case measure=>simp[intOf];omega
  ·obtain rfl:m=ks.length:=aE;have hzl:∀q,((w.heap.size<=q/\q<=D)\/q<w.heap.size/\¬P q)->q<wr.heap.size:=fun q h=>by have:=HBn.o;have:=Hb7.o.size;have:=Hk.o.size;have:=Hz7.o;omega
   have hyx:D1 (fun q=>¬((w.heap.size<=q/\q<=D)\/q<w.heap.size/\¬P q)/\q<wr.heap.size/\(Value.slice A3 ys.length c3).ownBlock≠some q) wr (.slice A8 x.kids.length c8) x.kids:=
    (Hx.o.after Hbr.o).mono fun q hq _=>⟨fun e=>by have:=HBn.o;rcases e with e|e<;>first|omega|exact e.2 hq.1,by have:=Hbr.o.size;omega,fun e=>by have:=(Hps.o.row.lt q e).1;have:=HBn.o;omega⟩
   have Hfbr:=Aa (Hk.o.cell Hf7.o (by have:=Hb7.o.size;omega) aT (fun h=>by cases h))
   have HC:=Aa (Qcs (fun c=>(w.heap.size<=c/\c<=D)\/c<w.heap.size/\¬P c) (D+1) B T D (w.heap.size+1) (w.heap.size+2) fb fo f.tag told dn x (.slice A8 x.kids.length c8) A3 ys.length c3 ys wr Hps.o
    (Hk.o.cell Ht7.o (by have:=HBn.o;have:=Hz7.o;omega) aT (fun h=>by cases h)) Hdc.o Hdf.o HEr.o.f0 Hfbr.o HEr.o.x ⟨_,_,_,rfl⟩ (.inl aT) (.inl aT) hzl aT aE aT aT aT aT
    (fun b hb=>by have:=HBn.o;omega) aE hyx)
   clear hzl hyx;go_wp2_with fail;refine HC.o.mono ?_;rintro e w2 ⟨rfl,A1,c1,ys1,hv1,hps1,hdc1,hdf1,hk1⟩;have hl1:ys1.length<=103:=by
    have:=congrArg List.length hv1;simp only[Ar,ag,List.length_map]at this;rw[this];split<;>simp<;>omega
   have Hres:=Aa (show H4 told f.tag (.mk 61 [] f.tag [x]) false ks=Ar ys1 by rw[Hq.o,hv1,List.drop_length];rfl);have HE2:=Aa (HEr.o.kept hk1 aT aT (fun k h=>by have:=(Hps.o.row.lt k h).1;have:=HBn.o;omega));have Hb2:=Aa (Hbr.o.trans (hk1.under (lo:=w.heap.size) Hbr.o.size (fun b hb=>by have:=HBn.o;rcases hb with rfl|rfl<;>omega) (fun k h=>by have:=(Hps.o.row.lt k h).1;have:=HBn.o;omega)));have q0:=hps1.c0;have q1:=hps1.c1;have q2:=hps1.c2;have q3:=hps1.c3;have qB:=hps1.lt;have Hps2:=Aa hps1;clear hv1 hps1 hdc1 hdf1 hk1 HC;go_wp2_with ((with_reducible refine Ac (op:=⟨none,.store 42 _ _,_,_,_,none⟩) rfl 42 _ _ rfl (w.heap.size+3) 0 [.int .u8 82,a8,.int .i64 0,.slice A1 ys1.length c1] ?_ ?_ ?_ ?_ ?_ ?_);rfl;rfl;(exact HE2.o.r);kernel_rfl;(simp[Value.oneCell']);intro w9 HS9)
   have hrg:w9.rangeAt (w.heap.size+3) 0 [.int .u8 82,a8,.int .i64 0,.slice A1 ys1.length c1]:=by rw[HS9.o];exact aa _ _ _ _ HE2.o.r
   have hb9:Below w w w9:=by rw[HS9.o];exact Aw _ aE _ _ _ Hb2.o
   have hiv:D1 (fun c=>(P c\/w.heap.size<=c)/\c≠w.heap.size+3) w2 (.slice A1 ys1.length c1) (Ar ys1):=by
    have hkd:∀z∈ys1,D1 (fun c=>(P c\/w.heap.size<=c)/\c≠w.heap.size+3) w2 z.2 z.1.kids:=fun z hz=>(Hps2.o.kids z hz).mono fun c hc hl=>by
     have hD:=HBn.o;refine⟨?_,fun e=>hc.1 (.inl aE)⟩;by_cases hcw:c<w.heap.size
     ·exact .inl (Classical.byContradiction fun h=>hc.1 (.inr ⟨hcw,h⟩))
     exact .inr aE
    rcases Hps2.o.row.2 with⟨e1,h0⟩|⟨g,cap,cur,e1,hbg,hh,hnc,hcm,hcs,htk⟩
    ·obtain rfl:ys1=[]:=List.eq_nil_of_length_eq_zero h0;injection e1 with e1 _ e2;subst e1 e2;exact D1.nil _ _
    injection e1 with e1 _ e2;subst e1 e2;refine .mk (g,0) c1 ys1 rfl rfl aE ⟨Gv Pl ys1,by unfold maxLen;omega,fun hn=>⟨g,0,rfl,(Hps2.o.row.lt g rfl).2,fun j u hu=>?_⟩⟩ (fun g' o _ e=>?_) hkd
    ·have:=Hps2.o.row.cells (g:=g) rfl j u hu;have e1:(⟨g,0,none⟩:Addr).add j=⟨g,0+j,none⟩:=bj;rwa [e1]at this
    injection e with e;injection e with e;subst e;have:=HBn.o;exact⟨.inr aE,by omega⟩
   have hiv9:D1 (fun c=>P c\/w.heap.size<=c) w9 (.slice A1 ys1.length c1) (Ar ys1):=by
    rw[HS9.o];exact(hiv.grown (D8 (w.heap.size+3) _ 0 w2) fun b hb e=>hb.2 (Option.some.inj e)).mono fun c hc _=>hc.1
   refine aC (v:=.agg ([.int .u8 82,a8,.int .i64 0,.slice A1 ys1.length c1]:List Value).toArray) (Ag results102 _ _ (w.heap.size+3) _ _ rfl hrg underlying42 rfl aJ) rfl ?_;rw[Hres.o];exact⟨_,rfl,hiv9,hb9⟩
def Rd(tt:List UInt8)(N:Nat)(r:Option (Vl × List UInt8))(v:Vl)(t':List UInt8):Prop:=
 (∀x,r=some x->v=x.1/\t'=x.2)/\Bd v/\t'.length<=tt.length/\(Au v).length+t'.length<=tt.length+8*N
structure Qjm(w:World)(b B:Nat)(p:Value)(k:Kd)(h0 h1 h2 rv:Value)(xs:List (Vl × Value))(tt:List UInt8)(bb:Bool)(N:Nat)(r:Option (Vl × List UInt8))(c s a d:Bool)(uc us ua:Value)(W:World):Prop where
 r1:∃t2 bad2,Ev w b p k t2 bad2 W/\(c=false->t2=tt/\bad2=bb)
 r2:a=false->Qk (B+1) B W h0 h1 h2 rv rv xs
 r3:c=true->∃v sl t',uc=Mg v sl/\Rd tt N r v t'/\Ev w b p k t' r.isNone W/\(a=false->D1 (fun c=>B+1<=c/\rv.ownBlock≠some c) W sl v.kids) /\
  (s=true->a=false->∃W7,W=W7.alloc (.cells (Dx (v,sl)).toArray 42)/\us=.slice (some ⟨W7.heap.size,0,none⟩) 1 1/\Qk (B+1) B W7 h0 h1 h2 rv rv xs/\D1 (fun c=>B+1<=c/\rv.ownBlock≠some c) W7 sl v.kids/\Ev w b p k t' r.isNone W7) /\
  (a=true->d=false->∃A n c,ua=.slice A n c/\Qk (B+1) B W h0 h1 h2 rv ua (xs++[(v,sl)])) /\
  (d=true->∃A n c,ua=.slice A n c/\Qk (B+1) B W h0 h1 h2 ua ua (xs++[(v,sl)]))
theorem Qc9(w0:World)(b N:Nat)(p:Value)(S:List Ty)(t:List UInt8)(k:Kd)(w:World)(hw:Below w0 w0 w)(hb:w0.heap.size<=b)(h:Dp w b p t false)(hl:t.length<=900)(hN:t.length<=N)(hN2:N<=2000)
  (H:IvC w0 b p S N k) (HG:∀s v r,Ak S 1000 N k s=some (v,r)->s=Au v++r) (q:Option (Vl × List UInt8)) (hq:q=Kl (Ak S 1000 N k) 1000 t):
  Calls prog 97 #[b,Gb k] w (Kh w b p t (N+1) q):=by
 have HQ:=Aa hq;have HH:=Aa H;have HG:=Aa HG;have HS:=Aa h;have HW:=Aa hw;have hb0:=h.1;have hbn:¬(b=w.heap.size):=aE;have hbn2:¬(b=w.heap.size+1):=aE;have hbn3:¬(b=w.heap.size+2):=aE;have hm:=Cc 91 t false;have Hwt:=Aa (fun W (h:Dp W b p t false)=>Bf b p t [91] false W h aE);have Hlt0:=Aa (fun r (h:Aj [91] t false=some r)=>Eo h);obtain⟨t1,ht1⟩:∃t1,t1=(Aj [91] t false).getD t:=⟨_,rfl⟩
 obtain⟨b1,hb1⟩:∃b1,b1=(Aj [91] t false).isNone:=⟨_,rfl⟩
 have Ht1:=Aa ht1;have Hb1:=Aa hb1
 have HL1:=Aa (show b1=false->t1.length<N from by
  intro h;rw[hb1]at h;cases hr:Aj [91] t false with
  |none=>rw[hr]at h;cases h
  |some r=>have:=Hlt0.o r hr;rw[ht1,hr];simp;omega)
 rw[<-ht1]at hm;rw[<-ht1,<-hb1]at Hwt;have Htk:=Aa (fun W (h:Dp W b p t1 b1)=>Dm b p t1 [93] b1 W h aE);have HK:=Aa (fun s=>(rfl:Ak S 1000 N k s=Ak S 1000 N k s));clear h hw H hq ht1 hb1 HK;have HF0:=Aa (Ev.init (k:=k) HS.o (T:=39) (U:=42));unfold Gb;go_enter func97,ntmps97;go_wp2_with fail;obtain⟨W1,hW1⟩:∃W1,W1=((w.alloc (.cells #[k.signs,k.base,k.name] 39)).alloc (.cells #[.int .u8 0,a8,.int .i64 0,.slice none 0 0] 42)).alloc (.cells #[.int .u8 91,a8,.int .i64 0,.slice none 0 0] 42):=⟨_,rfl⟩
 rw[<-hW1];have hz1:W1.heap.size=w.heap.size+3:=by rw[hW1];simp
 have F1:=@Aa (Ev w b p k t false W1) (by rw[hW1];exact HF0.o.post ((Ay _ _).alloc (As _) _))
 have K1:=Aa (show Qk (w.heap.size+2+1) (w.heap.size+2) W1 (.int .u8 91) a8 (.int .i64 0) (.slice none 0 0) (.slice none 0 0) []from by
  have hbk:Mu W1 (w.heap.size+2):=by rw[hW1];have:=Mu.new ((w.alloc (.cells #[k.signs,k.base,k.name] 39)).alloc (.cells #[.int .u8 0,a8,.int .i64 0,.slice none 0 0] 42)) #[.int .u8 91,a8,.int .i64 0,.slice none 0 0] 42;simpa using this
  exact⟨by omega,by omega,by omega,hbk,by rw[hW1];simp[go_sem],by rw[hW1];simp[go_sem],by rw[hW1];simp[go_sem],by rw[hW1];simp[go_sem],World.ownsRow_nil _ _ _ _,by simp⟩)
 clear hW1 HF0;refine(Hwt.o _ F1.o.1.1).mono ?_;rintro e W2 ⟨rfl,hs2⟩;have F2:=Aa (F1.o.step hb0 hs2);have K2:=Aa (K1.o.step hs2.2 aE aE);clear hs2 F1 K1;go_wp2_with fail;refine(Htk.o _ F2.o.1.1).mono ?_;rcases hy:Aj [93] t1 b1 with _|r
 ·have Hy:=Aa hy;clear hy;rintro e W3 ⟨rfl,hs3⟩;simp only[Option.getD_none]at hs3;have F3:=Aa (F2.o.step hb0 hs3);have K3:=Aa (K2.o.step hs3.2 aE aE);clear hs3 F2 K2;go_wp2_with fail;go_loopw [] (fun wr=>∃(xs:List (Vl × Value)) (A:Option Addr) (n c:Nat) (tt:List UInt8),tt.length<=t1.length/\wr.cell? (b,1)=tt/\Hid (Ev w b p k tt b1 wr)/\Hid (Qk (w.heap.size+2+1) (w.heap.size+2) wr (.int .u8 91) a8 (.int .i64 0) (.slice A n c) (.slice A n c) xs)/\Hid (LI (Ak S 1000 N k) t1 b1 (Ar xs) tt))
   (fun wr=>match wr.cell? (b,1)with|some (.string s)=>s.size|_=>0)
  case atStart=>exact⟨[],none,0,0,t1,As _,F3.o.1.1.2.2.2.1,F3.o,K3.o,LI.init _ _ _⟩
  case round=>
   obtain⟨xs,A,n,c,tt,htl,c1,F,K,hI⟩:=hrel;have s2:=F.o.1.1.2.2.2.2;have hxl:xs.length<=900:=by have:=hI.o.len;simp[Ar]at this;omega
   cases b1 with
   |true=>
    go_wp2_with fail;have Hw9:=Aa (fun W (h:Dp W b p tt true)=>Bf b p tt [93] true W h aE);refine(Hw9.o _ F.o.1.1).mono ?_;rintro e W7 ⟨rfl,hs7⟩;have F7:=Aa (F.o.step hb0 hs7);have K7:=Aa (K.o.step hs7.2 aE aE);have hfin:=Aa (HQ.o.trans ((Aa (hI.o.bad (N:=N))).o.fin Ht1.o Hb1.o Hy.o));have hle9:=Cc 93 tt true;have hE9:=(Aa (hI.o.bad (N:=N))).o.2.1;obtain⟨t4,ht4⟩:∃t4,t4=(Aj [93] tt true).getD tt:=⟨_,rfl⟩
    obtain⟨b4,hb4⟩:∃b4,b4=(Aj [93] tt true).isNone:=⟨_,rfl⟩
    rw[<-ht4]at F7 hfin hle9;rw[<-hb4]at F7 hfin;have e7:(Ar xs).length=(xs).length:=by simp[Ar]
    obtain⟨ys,hys⟩:∃ys,ys=xs:=⟨_,rfl⟩
    rw[<-hys]at K7 hfin hE9 e7;have HB9:=Aa (Aa (hI.o.bad (N:=N))).o.2.2;rw[<-hys]at HB9;have hyl:ys.length<=1000:=by rw[hys];omega
    have d0:=K7.o.c0;have d1:=K7.o.c1;have d2:=K7.o.c2;have d3:=K7.o.c3;have s7:=F7.o.1.1.2.1.live 2;have s8:=F7.o.1.1.2.2.2.2;have q7:=F7.o.1.1.1;have hn7:n=ys.length:=Ff K7.o.row;subst hn7;clear hs7 ht4 hb4 hys;by_cases h20:ys.length<=20
    ·have t20:decide ((20:Int)<(ys.length:Int))=false:=az aE;go_wp2_with ((with_reducible refine Ac (op:=⟨none,.store 42 _ _,_,_,_,none⟩) rfl 42 _ _ rfl (w.heap.size+1) 0 [.int .u8 91,a8,.int .i64 0,.slice A ys.length c] ?_ ?_ ?_ ?_ ?_ ?_);rfl;rfl;(exact F7.o.2.2.1);kernel_rfl;(simp[Value.oneCell']);intro w9 HS9)
     have Z:=Ev.fin (t:=t) (N:=N+1) (v:=.mk 91 [] 0 (Ar ys)) (sl:=.slice A ys.length c) (r:=q) F7.o hb0 HS9.o ((K7.o.done hyl).mono fun c hc _=>by omega) cN
      cN (.mk aH aE aI HB9.o) aE dL
     exact iV
    have t20:decide ((20:Int)<(ys.length:Int))=true:=aA aE;have F8:=Aa (F7.o.step hb0 ⟨F7.o.1.1.setBad true,Ap _ b 2 (.bool true)⟩);have K8:=Aa (K7.o.step (Ap _ b 2 (.bool true)) aE aE);go_wp2_with ((with_reducible refine Ac (op:=⟨none,.store 42 _ _,_,_,_,none⟩) rfl 42 _ _ rfl (w.heap.size+1) 0 [.int .u8 91,a8,.int .i64 0,.slice A ys.length c] ?_ ?_ ?_ ?_ ?_ ?_);rfl;rfl;(exact F8.o.2.2.1);kernel_rfl;(simp[Value.oneCell']);intro w9 HS9)
    have Z:=Ev.fin (t:=t) (N:=N+1) (v:=.mk 91 [] 0 (Ar ys)) (sl:=.slice A ys.length c) (r:=q) F8.o hb0 HS9.o ((K8.o.done hyl).mono fun c hc _=>by omega) dC
     dC (.mk aH aE aI HB9.o) aE dL
    exact iV
   |false=>
    have h1N:=HL1.o rfl;go_wp2_with fail;refine Sy [17,18,19,20,21,22,23,24,999]
     (fun ix v W=>match ix with|0=>v=(w,2,3)|1=>v=.slice A n c|2=>v=b|3=>v=Gb k|4=>∃x s,v=Mg x s|5=>∃g,v=.slice (some ⟨g,0,none⟩) 1 1|6=>∃A n c,v=.slice A n c|7=>v=(w,2,3)|_=>True)
     (fun L U W=>Qjm w b (w.heap.size+2) p k (.int .u8 91) a8 (.int .i64 0) (.slice A n c) xs tt false N (Ak S 1000 N k tt) (L 4) (L 5) (L 6) (L 8) (U 4) (U 5) (U 6) W) (⟨⟨tt,false,F.o.post (Ay _ _).drew,fun _=>⟨rfl,rfl⟩⟩,fun _=>K.o.after (Ay _ _).drew,fun h=>Bool.noConfusion h⟩) ?_ ?_
    ·repeat (first|exact Ba.nil|(refine Ba.cons ?_ ?_;rotate_left))
     all_goals
      rintro L U W hL hpre HR Hdep K hK;obtain⟨⟨t2,bad2,hF2,hF2'⟩,R2,R3⟩:=HR.o;have k0:=Ab hF2.2.1 0 rfl;have k1:=Ab hF2.2.1 1 rfl;have k2:=Ab hF2.2.1 2 rfl;simp only[aj]at k0 k1 k2;first|(simp[Region.binds]at hpre;done)|simp[Region.binds]at hpre|clear hpre
     ·exact fG
     ·have h6:L 6=false:=Ce Hdep.o 6 1 rfl hL;have g3:=(R2 h6).c3;exact iW
     ·exact fG
     ·go_simp;first|exact hK (Gb k) _ _ rfl Ad HR.o rfl|exact hK (Gb k) _ _ rfl Ad HR.o aF
     ·have h5:L 5=false:=Ce Hdep.o 5 4 rfl hL;have h6:L 6=false:=Ce Hdep.o 6 5 rfl h5;have h8:L 8=false:=Ce Hdep.o 8 6 rfl h6;obtain⟨rfl,rfl⟩:=hF2' hL;go_simp;refine(HH.o t2 false _ (hF2.1.env HW.o hb) hF2.1.1 aE (fun _=>by omega)).mono ?_;rintro e w5 ⟨v,sl,t',rfl,hk5,hs5,hx5,hB5,hl5,hn5⟩;simp only[ak,if_false]at hx5 hs5;have hF5:=hF2.step hb0 hs5;have hK5:=(R2 h6).step hs5.2 aE aE;have hks:D1 (fun g=>w.heap.size+2+1<=g/\(Value.slice A n c).ownBlock≠some g) w5 sl v.kids:=hk5.mono fun c hc _=>⟨by have:=(R2 h6).bs;omega,fun e=>by have:=((R2 h6).row.lt c e).2;omega⟩
      exact hK (Mg v sl) _ _ ⟨v,sl,rfl⟩ Ad ⟨⟨t',_,hF5,fun h=>by simp at h⟩,fun _=>hK5,fun _=>⟨v,sl,t',rfl,⟨hx5,hB5,hl5,hn5⟩,hF5,fun _=>hks,fun h=>absurd (h5.symm.trans bg) aH,fun h=>absurd (h6.symm.trans bg) aH,fun h=>absurd (h8.symm.trans bg) aH⟩⟩ aF
     ·have h6:L 6=false:=Ce Hdep.o 6 5 rfl hL;have h8:L 8=false:=Ce Hdep.o 8 6 rfl h6;obtain⟨v,sl,t',u4,hrd,hF3,hks,_,_,_⟩:=R3 hpre.1;obtain⟨A7,c7,rfl⟩:=(hks h6).form;have hba:Below W W (W.alloc (.cells (Dx (v,.slice A7 v.kids.length c7)).toArray 42)):=(Ay _ _).alloc (As _) _;unfold Mg at u4;go_simp;exact hK (.slice (W,0) 1 1) _ _ ⟨W.heap.size,rfl⟩ Ad ⟨⟨t',_,hF3.post hba,fun h=>absurd (hpre.1.symm.trans bg) aH⟩,fun _=>(R2 h6).after hba,fun _=>⟨v,_,t',u4,hrd,hF3.post hba,fun _=>(hks h6).after hba,fun _ _=>⟨W,rfl,rfl,R2 h6,hks h6,hF3⟩,fun h=>absurd (h6.symm.trans bg) aH,fun h=>absurd (h8.symm.trans bg) aH⟩⟩ (by simp[Act.put,u4])
     ·have h8:L 8=false:=Ce Hdep.o 8 6 rfl hL;obtain⟨lv,uv⟩:=hpre.1;have ls:L 5=true:=hpre.2.1.1;have lc:L 4=true:=hpre.2.2.1;obtain⟨v,sl,t',u4,hrd,hF3,hks,hs,_,_⟩:=R3 lc;obtain⟨W7,rfl,u5,hK7,hk7,hF7⟩:=hs ls hL;obtain⟨A7,c7,e7⟩:=hk7.form;have hlen7:=hK7.row;rw[if_pos cx];refine Mz W7 (.tmp 18) (.tmp 22) 40 rfl (w.heap.size+2+1) 42 (.agg #[.int .u8 0,a8,.int .i64 0,.slice none 0 0]) 4 56 underlying40 Pq rfl aH (Dx (v,sl)) rfl (Yv _ (by rw[e7];rfl)) (.slice A n c) xs.length (xs.flatMap Dx) uv u5 hK7.row aW aE hK7.bs ?_;intro v' w' hown hg hwh;obtain⟨A5',n5',c5',rfl⟩:=Jd hown;have hKa:=hK7.app (x:=(v,sl)) hk7 hown hg hwh;have hFa:Ev w b p k t' (Ak S 1000 N k tt).isNone w':=hF7.app hb0 hg (fun c e=>by have:=(hK7.row.lt c e).1;omega);exact hK _ _ _ ⟨A5',n5',c5',rfl⟩ Ad ⟨⟨t',_,hFa,fun h=>absurd (lc.symm.trans bg) aH⟩,fun h=>by simp at h,fun _=>⟨v,sl,t',u4,hrd,hFa,fun h=>by simp at h,fun _ h=>by simp at h,fun _ _=>⟨A5',n5',c5',rfl,hKa⟩,fun h=>absurd (h8.symm.trans bg) aH⟩⟩ rfl
     ·exact fG
     ·obtain⟨la,A5',n5',c5',ua⟩:=hpre.2.1;have up:=hpre.1.2;have ls:L 5=true:=by
       cases h5:L 5 with
       |true=>rfl
       |false=>exact absurd (la.symm.trans (Ce Hdep.o 6 5 rfl h5)) aH
      have lc:L 4=true:=by
       cases h4:L 4 with
       |true=>rfl
       |false=>exact absurd (ls.symm.trans (Ce Hdep.o 5 4 rfl h4)) aH
      obtain⟨v,sl,t',u4,hrd,hF3,_,_,ha,_⟩:=R3 lc;obtain⟨A6',n6',c6',ua',hKa⟩:=ha la hL;rw[ua]at hKa;have hcell:=hKa.c3;have hfz:=hKa.bk.live 3;have hst:=hKa.store;have hst2:Qk (w.heap.size+2+1) (w.heap.size+2) (W.setCell ⟨w.heap.size+2,3,none⟩ (.slice A5' n5' c5')) (.int .u8 91) a8 (.int .i64 0) (U 6) (U 6) (xs++[(v,sl)]):=by rw[ua];exact hst
      have hFs:Ev w b p k t' (Ak S 1000 N k tt).isNone (W.setCell ⟨w.heap.size+2,3,none⟩ (.slice A5' n5' c5')):=hF3.put hb0 aE _;go_simp;exact hK undef _ _ Ad Ad ⟨⟨t',_,hFs,fun h=>absurd (lc.symm.trans bg) aH⟩,fun h=>absurd (la.symm.trans bg) aH,fun _=>⟨v,sl,t',u4,hrd,hFs,fun h=>absurd (la.symm.trans bg) aH,fun _ h=>absurd (la.symm.trans bg) aH,fun _ h=>by simp at h,fun _=>⟨A5',n5',c5',ua,hst2⟩⟩⟩ (by simp[Act.put,hpre,up,ua,u4])
    rintro L U W hL hφ hR;clear hφ;obtain⟨_,_,h3⟩:=hR;obtain⟨v,sl,t',_,hrd,hF,_,_,_,hd⟩:=h3 (hL 4 aH);obtain⟨A5,n5,c5,e5,hK5⟩:=hd (hL 8 aH);rw[e5]at hK5;have F5:=Aa hF;have K5:=Aa hK5;have Rd5:=Aa hrd;have ht5:=hrd.2.2.1;clear hL h3 hd hF hK5 hrd;have Htk5:=Aa (fun W (h:Dp W b p t' (Ak S 1000 N k tt).isNone)=>Dm b p t' [44] (Ak S 1000 N k tt).isNone W h aE);go_wp2_with fail;refine(Htk5.o _ F5.o.1.1).mono ?_;rcases hc:Aj [44] t' (Ak S 1000 N k tt).isNone with _|r
    ·have Hc:=Aa hc;clear hc;rintro e W6 ⟨rfl,hs6⟩;simp only[Option.getD_none]at hs6;have F6:=Aa (F5.o.step hb0 hs6);have K6:=Aa (K5.o.step hs6.2 aE aE)
     have E6:=Aa (show LE (Ak S 1000 N k) t1 false (Ar (xs++[(v,sl)])) t' (Ak S 1000 N k tt).isNone N from by
      have:=hI.o.brk (N:=N) Rd5.o.1 Hc.o Rd5.o.2.1 aE Rd5.o.2.2.2;simpa [Ar]using this)
     clear hs6 F5 K5 Hc;go_wp2_with fail;have Hw9:=Aa (fun W (h:Dp W b p t' (Ak S 1000 N k tt).isNone)=>Bf b p t' [93] (Ak S 1000 N k tt).isNone W h aE);refine(Hw9.o _ F6.o.1.1).mono ?_;rintro e W7 ⟨rfl,hs7⟩;have F7:=Aa (F6.o.step hb0 hs7);have K7:=Aa (K6.o.step hs7.2 aE aE);have hfin:=Aa (HQ.o.trans (E6.o.fin Ht1.o Hb1.o Hy.o));have hle9:=Cc 93 t' (Ak S 1000 N k tt).isNone;have hE9:=E6.o.2.1;obtain⟨t4,ht4⟩:∃t4,t4=(Aj [93] t' (Ak S 1000 N k tt).isNone).getD t':=⟨_,rfl⟩
     obtain⟨b4,hb4⟩:∃b4,b4=(Aj [93] t' (Ak S 1000 N k tt).isNone).isNone:=⟨_,rfl⟩
     rw[<-ht4]at F7 hfin hle9;rw[<-hb4]at F7 hfin;have e7:(Ar (xs++[(v,sl)])).length=((xs++[(v,sl)])).length:=by simp[Ar]
     obtain⟨ys,hys⟩:∃ys,ys=(xs++[(v,sl)]):=⟨_,rfl⟩
     rw[<-hys]at K7 hfin hE9 e7;have HB9:=Aa E6.o.2.2;rw[<-hys]at HB9;have hyl:ys.length<=1000:=by rw[hys];simp;omega
     have d0:=K7.o.c0;have d1:=K7.o.c1;have d2:=K7.o.c2;have d3:=K7.o.c3;have s7:=F7.o.1.1.2.1.live 2;have s8:=F7.o.1.1.2.2.2.2;have q7:=F7.o.1.1.1;have hn7:n5=ys.length:=Ff K7.o.row;subst hn7;clear hs7 ht4 hb4 hys;by_cases h20:ys.length<=20
     ·have t20:decide ((20:Int)<(ys.length:Int))=false:=az aE;go_wp2_with ((with_reducible refine Ac (op:=⟨none,.store 42 _ _,_,_,_,none⟩) rfl 42 _ _ rfl (w.heap.size+1) 0 [.int .u8 91,a8,.int .i64 0,.slice A5 ys.length c5] ?_ ?_ ?_ ?_ ?_ ?_);rfl;rfl;(exact F7.o.2.2.1);kernel_rfl;(simp[Value.oneCell']);intro w9 HS9)
      have Z:=Ev.fin (t:=t) (N:=N+1) (v:=.mk 91 [] 0 (Ar ys)) (sl:=.slice A5 ys.length c5) (r:=q) F7.o hb0 HS9.o ((K7.o.done hyl).mono fun c hc _=>by omega) cN
       cN (.mk aH aE aI HB9.o) aE dL
      exact iX
     have t20:decide ((20:Int)<(ys.length:Int))=true:=aA aE;have F8:=Aa (F7.o.step hb0 ⟨F7.o.1.1.setBad true,Ap _ b 2 (.bool true)⟩);have K8:=Aa (K7.o.step (Ap _ b 2 (.bool true)) aE aE);go_wp2_with ((with_reducible refine Ac (op:=⟨none,.store 42 _ _,_,_,_,none⟩) rfl 42 _ _ rfl (w.heap.size+1) 0 [.int .u8 91,a8,.int .i64 0,.slice A5 ys.length c5] ?_ ?_ ?_ ?_ ?_ ?_);rfl;rfl;(exact F8.o.2.2.1);kernel_rfl;(simp[Value.oneCell']);intro w9 HS9)
     have Z:=Ev.fin (t:=t) (N:=N+1) (v:=.mk 91 [] 0 (Ar ys)) (sl:=.slice A5 ys.length c5) (r:=q) F8.o hb0 HS9.o ((K8.o.done hyl).mono fun c hc _=>by omega) dC
      dC (.mk aH aE aI HB9.o) aE dL
     exact iX
    have Hc:=Aa hc;have hcl:=Eo hc;clear hc;rintro e W6 ⟨rfl,hs6⟩;simp only[Option.getD_some]at hs6;cases hk:Ak S 1000 N k tt with
    |none=>rw[hk,Be]at Hc;exact absurd Hc.o aI
    |some y=>
     have Hk:=Aa hk;rw[hk]at hs6 F5 Rd5;have F6:=Aa (F5.o.step hb0 hs6);have K6:=Aa (K5.o.step hs6.2 aE aE)
     have I6:=Aa (show LI (Ak S 1000 N k) t1 false (Ar (xs++[(v,sl)])) r from by
      obtain⟨e1,e2⟩:=Rd5.o.1 y rfl;have hg:=HG.o tt y.1 y.2 (by rw[Hk.o]);have h44:Ae 44 t'=some r:=eE;have:=hI.o.step (v:=v) (t':=t') (by rw[Hk.o,e1,e2]) (by rw[hg,e1,e2];simp) h44 Rd5.o.2.1 aE;simpa [Ar]using this)
     have c6:=F6.o.1.1.2.2.2.1;clear hs6 F5 K5 hk;go_wp2_with fail;go_roundw
     case rel=>exact⟨xs++[(v,sl)],A5,n5,c5,r,by omega,c6,F6.o,K6.o,I6.o⟩
     case measure=>simp[c1,c6,ByteArray.size];omega
 have Hy:=Aa hy;have hlt:=Eo hy;clear hy;rintro e W3 ⟨rfl,hs3⟩;simp only[Option.getD_some]at hs3;have F3:=Aa (F2.o.step hb0 hs3);have K3:=Aa (K2.o.step hs3.2 aE aE);clear hs3 F2 K2;have d0:=K3.o.c0;have d1:=K3.o.c1;have d2:=K3.o.c2;have d3:=K3.o.c3;go_wp2_with ((with_reducible refine Ac (op:=⟨none,.store 42 _ _,_,_,_,none⟩) rfl 42 _ _ rfl (w.heap.size+1) 0 [.int .u8 91,a8,.int .i64 0,.slice none 0 0] ?_ ?_ ?_ ?_ ?_ ?_);rfl;rfl;(exact F3.o.2.2.1);kernel_rfl;(simp[Value.oneCell']);intro w9 HS9)
 have hq2:q=some (.mk 91 [] 0 [],r):=by
  have h1:=Ht1.o;have h2:=Hb1.o;have h3:=Hy.o;rw[HQ.o];rw[Be]at h1 h2 h3;unfold Kl;simp only[ak,if_false]at h1 h2;cases h9:Ae 91 t with
  |none=>rw[h9]at h2;simp at h2;subst h2;simp at h3
  |some z=>
   rw[h9]at h1 h2;simp at h1 h2;subst h1 h2;simp only[ak,if_false]at h3;simp only[h3]
 have Z:=Ev.fin (t:=t) (N:=N+1) (v:=.mk 91 [] 0 []) (sl:=.slice none 0 0) (r:=q) F3.o hb0 HS9.o (D1.nil _ _) dY
  (by rw[hq2];simp) (Ey aH aH) aE (by simp[Au,Cs,Ez,An];omega)
 exact aC (v:=.agg (Em (.mk 91 [] 0 []) (.slice none 0 0)).toArray) (Ag results97 _ _ (w.heap.size+1) _ _ rfl Z.2 underlying42 rfl aJ) rfl Z.1
def Jp(w:World)(b:Nat)(p:Value)(R:Nat)(t:List UInt8)(bad:Bool)(W:World):Prop:=Da w b p t bad W/\W.there R 0 4/\w.heap.size<=R/\R<W.heap.size
theorem Jp.post{w W W':World}{b R:Nat}{p:Value}{t:List UInt8}{bad:Bool}(h:Jp w b p R t bad W)(hb:Below W W W'):Jp w b p R t bad W':=
 ⟨h.1.post hb,Bt h.2.1 h.2.2.2 hb,h.2.2.1,ab h.2.2.2 hb.size⟩
theorem Jp.step{w W W':World}{b R:Nat}{p:Value}{t t':List UInt8}{bad bad':Bool}(h:Jp w b p R t bad W)(hb:b<w.heap.size)(hs:Da W b p t' bad' W'):Jp w b p R t' bad' W':=
 ⟨h.1.trans hs,Jo h.2.1 hs.2 h.2.2.2 (by have:=h.2.2.1;simp;omega),h.2.2.1,ab h.2.2.2 hs.2.size⟩
theorem Da.app{w W W':World}{b:Nat}{p:Value}{t:List UInt8}{bad:Bool}{row:Option Nat}(h:Da w b p t bad W)(hb:b<w.heap.size)(hg:W.grownBy W' row)(hr:∀k,row=some k->w.heap.size<=k):Da w b p t bad W':=by
 have hn:∀c,c<w.heap.size->some c≠row:=fun c hc e=>by have:=hr c e.symm;omega
 obtain⟨⟨h0,h1,h2,h3,h4⟩,hg0⟩:=h;exact⟨⟨ab h0 hg.size,h1.grown h0 hg (hn b hb),hg.cell h2 (hn b hb),hg.cell h3 (hn b hb),hg.cell h4 (hn b hb)⟩,⟨hg.os.trans hg0.os,hg.tape.trans hg0.tape,hg.output.trans hg0.output,ac hg0.size hg.size,fun k hk hne=>(hg.block k (ab hk hg0.size) (hn k hk)).trans (hg0.block k hk hne)⟩⟩
theorem Jp.app{w W W':World}{b R:Nat}{p:Value}{t:List UInt8}{bad:Bool}{row:Option Nat}(h:Jp w b p R t bad W)(hb:b<w.heap.size)(hg:W.grownBy W' row)(hr:∀k,row=some k->R<k):Jp w b p R t bad W':=
 ⟨h.1.app hb hg fun k e=>by have:=hr k e;have:=h.2.2.1;omega,Jo h.2.1 hg h.2.2.2 (fun e=>by have:=hr R e.symm;omega),h.2.2.1,ab h.2.2.2 hg.size⟩
theorem Jp.fin{w W w9:World}{b R:Nat}{p:Value}{t:List UInt8}{bad:Bool}{v:Vl}{sl:Value}(F:Jp w b p R t bad W)(hb:b<w.heap.size)(HS:w9=W.setCells R 0 (Em v sl))(hv:D1 (fun c=>R<c) W sl v.kids):
  D1 (fun c=>w.heap.size<=c) w9 sl v.kids/\Da w b p t bad w9/\w9.rangeAt R 0 (Em v sl):=by
 subst HS;have:=F.2.2.1;exact⟨(hv.set (B:=R) aE _).mono fun c hc _=>by omega,F.1.set aE aE _,aa _ _ _ _ F.2.1⟩
def Qip(w0 w:World)(b:Nat)(p:Value)(t:List UInt8)(N:Nat)(fs:List Fd)(r:Option ((Fd × Vl) × List UInt8))(e:Ending)(w':World):Prop:=
 ∃(v:Vl) (sl fp:Value) (t':List UInt8),e=.returned (.tuple #[Mg v sl,fp])/\D1 (fun c=>w.heap.size<=c) w' sl v.kids/\Da w b p t' r.isNone w'/\Bd v/\t'.length<=t.length/\(Au v).length+t'.length<=t.length+8*N /\
  ((fp=.pointer none/\r=none)\/∃g x,H7 w0.heap.size w' fp (some g)/\v=Cw (g,x)/\Bp fs g.tag=some g/\Bd x/\∀y,r=some y->y=((g,x),t'))
theorem H7.via{B:Nat}{w0 W W':World}{v:Value}{o:Option Fd}(h:H7 B W v o)(h1:Below B w0 W)(h2:Below B w0 W'):H7 B W' v o:=by
 cases o with
 |none=>exact h
 |some f=>
  obtain⟨b,o,e,hb,hr⟩:=h;exact⟨b,o,e,hb,fun j u hu=>(h2.cell (p:=⟨b,o+j,none⟩) hb).trans ((h1.cell (p:=⟨b,o+j,none⟩) hb).symm.trans (hr j u hu))⟩
theorem Qa3(fs:List Fd)(t:List UInt8):Fz fs t=if Gj 200 t then(Bp fs (G8 t)).map (fun f=>(f,t.dropWhile Bg))else none:=by
 unfold Fz;rw[Zi];unfold Gj G8;cases h:Cn (t.takeWhile Bg)with
 |none=>simp
 |some n=>
  have:=(Cb.1 h).1;simp only[decide_eq_true_eq,this,if_true,Option.getD_some];by_cases h2:n<=200
  ·rw[if_pos h2,if_pos h2];cases Bp fs n<;>rfl
  rw[if_neg h2,if_neg h2]
theorem Qd4(K:Kd->List UInt8->Option (Vl × List UInt8))(fs:List Fd)(t:List UInt8):Ct K fs t=match Bp fs (G8 t)with
  |none=>none
  |some f=>match Aj [61] (t.dropWhile Bg) (!Gj 200 t)with
   |none=>none
   |some q=>match K f.kind q with|some (v,z)=>some ((f,v),z)|none=>none:=by
 unfold Ct;rw[Qa3];simp only[Be];cases Gj 200 t<;>cases Bp fs (G8 t)<;>simp
 rfl
theorem Qg7(t:List UInt8)(h:Gj 200 t=true):(Az (G8 t)).length+(t.dropWhile Bg).length=t.length:=by
 unfold Gj at h;unfold G8;cases hd:Cn (t.takeWhile Bg)with
 |none=>rw[hd]at h;cases h
 |some n=>
  have e:=(Cb.1 hd).2;simp only[Option.getD_some];rw[<-e,<-ag,List.takeWhile_append_dropWhile]
theorem Ze(w0:World)(b N:Nat)(p:Value)(S:List Ty)(x:PT)(hx:So w0 x)(t:List UInt8)(w:World)(hw:Below w0 w0 w)(hb:w0.heap.size<=b)(bad:Bool)(h:Dp w b p t bad)(hl:t.length<=900)(hN:bad=false->t.length<=N)(hN2:N<=2000)
  (htg:∀f∈x.ty.fields,f.tag<=200) (H:∀f∈x.ty.fields,IvC w0 b p S N f.kind) (q:Option ((Fd × Vl) × List UInt8)) (hq:q=if bad then none else Ct (Ak S 1000 N) x.ty.fields t):
  Calls prog 131 #[b,x.blk] w (Qip w0 w b p t N x.ty.fields q):=by
 have HQ:=Aa (hq.trans (by rw[Qd4]));have Hnl:=Aa (Qg7 t);have HS:=Aa h;have HW:=Aa hw;have hb0:=h.1;have hbn:¬(b=w.heap.size):=aE;have hnn:=X8 t;have hdr:=Nd Bg t;have Hn:=Aa (fun W (h:Dp W b p t bad)=>Nw b 200 p t bad W h aE aH);have Hf:=Aa (fun W (hW:Below w0 w0 W)=>Tb w0 x hx (G8 t) W hW aE);have hxb:x.blk<w0.heap.size:=hx.1;clear h hw hq;obtain⟨b1,hb1⟩:∃b1,b1=(bad || !Gj 200 t):=⟨_,rfl⟩
 have Hb1:=Aa hb1;rw[<-hb1]at Hn;generalize t.dropWhile Bg=t1 at *;have hm:=Cc 61 t1 b1;have Hwt:=Aa (fun W (h:Dp W b p t1 b1)=>Bf b p t1 [61] b1 W h aE);have Hlt0:=Aa (fun r (h:Aj [61] t1 b1=some r)=>Eo h);clear hb1;cases hfo:Bp x.ty.fields (G8 t)with
 |none=>
  rw[hfo]at Hf HQ;have hq0:=@Aa (q=none) (by have:=HQ.o;cases bad<;>simpa using this);generalize G8 t=n at *;generalize (Aj [61] t1 b1).getD t1=t2 at *;generalize (Aj [61] t1 b1).isNone=b2 at *;clear hfo HQ Hnl;go_enter func131,ntmps131;go_wp2_with fail;have F0:=@Aa (Jp w b p w.heap.size t bad (w.alloc (.cells #[.int .u8 0,a8,.int .i64 0,.slice none 0 0] 42))) ⟨⟨HS.o.grow ((Ay _ _).alloc (As _) _),Cv ((Ay _ _).alloc (As _) _) _⟩,D2 w [.int .u8 0,a8,.int .i64 0,.slice none 0 0] _,As _,by simp⟩;refine(Hn.o _ F0.o.1.1).mono ?_;rintro e w2 ⟨rfl,hs2⟩;have F2:=Aa (F0.o.step hb0 hs2);clear hs2;go_wp2_with fail;refine(Hf.o _ (F2.o.1.env HW.o hb)).mono ?_;rintro e w3 ⟨fp,rfl,hfp,rfl⟩;have hfp':fp=.pointer none:=hfp;subst hfp';go_wp2_with fail;refine(Hwt.o _ F2.o.1.1).mono ?_;rintro e w4 ⟨rfl,hs4⟩;have F4:=Aa (F2.o.step hb0 hs4);clear hs4;have sb:=F4.o.1.1.2.1.live 2;have s0:=F4.o.1.1.1;have s2:=F4.o.1.1.2.2.2.2;have F5:=Aa (F4.o.step hb0 ⟨F4.o.1.1.setBad true,Ap _ b 2 (.bool true)⟩);go_wp2_with ((with_reducible refine Ac (op:=⟨none,.store 42 _ _,_,_,_,none⟩) rfl 42 _ _ rfl w 0 [.int .u8 0,a8,.int .i64 0,.slice none 0 0] ?_ ?_ ?_ ?_ ?_ ?_);rfl;rfl;(exact F5.o.2.1);kernel_rfl;(simp[Value.oneCell']);intro w9 HS9)
  have Z:=Jp.fin (v:=H5) (sl:=.slice none 0 0) F5.o hb0 HS9.o (D1.nil _ _);refine aC (v:=.tuple #[.agg (Em H5 (.slice none 0 0)).toArray,.pointer none]) (Bc results131 _ _ w.heap.size _ _ _ rfl rfl Z.2.2 underlying42 rfl aJ) rfl ?_;exact⟨H5,.slice none 0 0,.pointer none,t2,rfl,Z.1,by rw[hq0.o];exact Z.2.1,Ey aH aH,by omega,by simp[H5,Au,Cs,Ez];omega,.inl ⟨rfl,hq0.o⟩⟩
 |some g=>
  obtain⟨hgt,hgm⟩:=Bz hfo;have hg2:=htg g hgm;have Hfg:=Aa (show Bp x.ty.fields g.tag=some g by rw[hgt];exact hfo);rw[hfo]at Hf HQ;simp only at HQ;have HH:=Aa (H g hgm);cases hc:Aj [61] t1 b1 with
  |none=>
   have hq0:=Aa (show q=none from by
    rw[HQ.o];cases bad with
    |true=>rfl
    |false=>rw[if_neg aH];rw[show Aj [61] t1 (!Gj 200 t)=none by have:=Hb1.o;rw[Bool.false_or]at this;rw[<-this];exact hc])
   rw[hc]at Hwt;simp only[Option.isNone_none,Option.getD_none]at Hwt;generalize G8 t=n at *;clear hfo HQ Hnl hc hm;subst hgt;obtain⟨b2,hb2⟩:∃b2,b2=true:=⟨_,rfl⟩
   rw[<-hb2]at Hwt;go_enter func131,ntmps131;go_wp2_with fail;have F0:=@Aa (Jp w b p w.heap.size t bad (w.alloc (.cells #[.int .u8 0,a8,.int .i64 0,.slice none 0 0] 42))) ⟨⟨HS.o.grow ((Ay _ _).alloc (As _) _),Cv ((Ay _ _).alloc (As _) _) _⟩,D2 w [.int .u8 0,a8,.int .i64 0,.slice none 0 0] _,As _,by simp⟩;refine(Hn.o _ F0.o.1.1).mono ?_;rintro e w2 ⟨rfl,hs2⟩;have F2:=Aa (F0.o.step hb0 hs2);clear hs2;go_wp2_with fail;refine(Hf.o _ (F2.o.1.env HW.o hb)).mono ?_;rintro e w3 ⟨fp,rfl,hfp,rfl⟩;obtain⟨fb,fo,rfl,hfb,hfr⟩:=hfp;go_wp2_with fail;refine(Hwt.o _ F2.o.1.1).mono ?_;rintro e w4 ⟨rfl,hs4⟩;have F4:=Aa (F2.o.step hb0 hs4);clear hs4;have sb:=F4.o.1.1.2.1.live 2;have s0:=F4.o.1.1.1;have s2:=F4.o.1.1.2.2.2.2;have F5:=Aa (F4.o.step hb0 ⟨F4.o.1.1.setBad true,Ap _ b 2 (.bool true)⟩);subst hb2;go_wp2_with ((with_reducible refine Ac (op:=⟨none,.store 42 _ _,_,_,_,none⟩) rfl 42 _ _ rfl w 0 [.int .u8 0,a8,.int .i64 0,.slice none 0 0] ?_ ?_ ?_ ?_ ?_ ?_);rfl;rfl;(exact F5.o.2.1);kernel_rfl;(simp[Value.oneCell']);intro w9 HS9)
   have Z:=Jp.fin (v:=H5) (sl:=.slice none 0 0) F5.o hb0 HS9.o (D1.nil _ _);refine aC (v:=.tuple #[.agg (Em H5 (.slice none 0 0)).toArray,.pointer none]) (Bc results131 _ _ w.heap.size _ _ _ rfl rfl Z.2.2 underlying42 rfl aJ) rfl ?_;exact⟨H5,.slice none 0 0,.pointer none,t1,rfl,Z.1,by rw[hq0.o];exact Z.2.1,Ey aH aH,by omega,by simp[H5,Au,Cs,Ez];omega,.inl ⟨rfl,hq0.o⟩⟩
  |some t2=>
   have hlt:=Hlt0.o t2 hc;have hbb:bad=false/\b1=false/\Gj 200 t=true:=by
    have h1:b1=false:=by
     cases b1 with
     |false=>rfl
     |true=>rw[Be]at hc;simp at hc
    have h2:=Hb1.o;rw[h1]at h2;cases bad<;>cases hnb:Gj 200 t<;>simp[hnb]at h2 ⊢
    exact h1
   obtain⟨rfl,rfl,hnb⟩:=hbb;have hnl:=Hnl.o hnb;rw[hgt.symm]at hnl
   have hq0:=Aa (show q=(match Ak S 1000 N g.kind t2 with|some (v,z)=>some ((g,v),z)|none=>none)from by
    rw[HQ.o,if_neg aH,hnb];show (match Aj [61] t1 false with|none=>none|some q=>match Ak S 1000 N g.kind q with|some (v,z)=>some ((g,v),z)|none=>none)=_;rw[hc])
   rw[hc]at Hwt;simp only[Option.isNone_some,Option.getD_some]at Hwt;have h2N:t2.length<N:=by have:=hN rfl;omega
   generalize G8 t=n at *;clear hfo HQ Hnl hc hm Hb1 hnb Hlt0;subst hgt;go_enter func131,ntmps131;go_wp2_with fail;have F0:=@Aa (Jp w b p w.heap.size t false (w.alloc (.cells #[.int .u8 0,a8,.int .i64 0,.slice none 0 0] 42))) ⟨⟨HS.o.grow ((Ay _ _).alloc (As _) _),Cv ((Ay _ _).alloc (As _) _) _⟩,D2 w [.int .u8 0,a8,.int .i64 0,.slice none 0 0] _,As _,by simp⟩;refine(Hn.o _ F0.o.1.1).mono ?_;rintro e w2 ⟨rfl,hs2⟩;have F2:=Aa (F0.o.step hb0 hs2);clear hs2;go_wp2_with fail;refine(Hf.o _ (F2.o.1.env HW.o hb)).mono ?_;rintro e w3 ⟨fp,rfl,hfp,rfl⟩;obtain⟨fb,fo,rfl,hfb,hfr⟩:=hfp;go_wp2_with fail;refine(Hwt.o _ F2.o.1.1).mono ?_;rintro e w4 ⟨rfl,hs4⟩;have F4:=Aa (F2.o.step hb0 hs4);clear hs4;have HFR:=@Aa (H7 w0.heap.size w4 (.pointer (some ⟨fb,fo,none⟩)) (some g)) (H7.via ⟨fb,fo,rfl,hfb,hfr⟩ (F2.o.1.env HW.o hb) (F4.o.1.env HW.o hb));have G4:=@Aa (w4.rangeAt fb fo (Qx g)) (by obtain⟨a1,a2,a3,_,a5⟩:=HFR.o;injection a3 with a3;injection a3 with a3;injection a3 with a3 a4;subst a3 a4;exact a5);have s2:=F4.o.1.1.2.2.2.2;have g2:=Ab G4.o 2 rfl;have g3:=Ab G4.o 3 rfl;have g4:=Ab G4.o 4 rfl;have g3':w4.cell? ⟨fb,fo+2+1,none⟩=g.kind.base:=g3;have g4':w4.cell? ⟨fb,fo+2+1+1,none⟩=g.kind.name:=g4;have g4'':w4.cell? ⟨fb,fo+2+2,none⟩=g.kind.name:=g4;clear hfr;have HV:=Aa (fun W (h1:Below w0 w0 W) (h2:Dp W b p t2 false)=>HH.o t2 false W h1 h2 aE (fun _=>h2N));unfold Gb at HV;simp only[ak,if_false]at HV;go_wp2_with fail;refine(HV.o _ (F4.o.1.env HW.o hb) F4.o.1.1).mono ?_;rintro e w5 ⟨v,sl,t',rfl,hk5,hs5,hx5,hB5,hl5,hn5⟩;obtain⟨A7,c7,rfl⟩:=hk5.form;have F5:=Aa (F4.o.step hb0 hs5);have Hk5:=Aa hk5;have Hx5:=Aa hx5;have HB5:=Aa hB5;have hz4:=F4.o.2.2.2;clear hs5 hk5 hx5 hB5 g2 g3 g4 g3' g4' g4'' s2;unfold Mg;go_wp2_with fail;obtain⟨W6,hW6⟩:∃W6,W6=w5.alloc (.cells #[.int .u8 (v.what.toNat:Int),v.text,(v.tag:Int),.slice A7 v.kids.length c7] 42):=⟨_,rfl⟩
   rw[<-hW6];have hb6:Below w5 w5 W6:=by rw[hW6];exact(Ay _ _).alloc (As _) _
   have F6:=Aa (F5.o.post hb6);have HP6:=Aa (HFR.o.via (F4.o.1.env HW.o hb) (F6.o.1.env HW.o hb));have X6:=@Aa (W6.rangeAt w5 0 [.int .u8 (v.what.toNat:Int),v.text,(v.tag:Int),.slice A7 v.kids.length c7]) (by rw[hW6];exact Ch w5 [.int .u8 (v.what.toNat:Int),v.text,(v.tag:Int),.slice A7 v.kids.length c7] _);have Hk6:=Aa (Hk5.o.after hb6);have hz6:w5.heap.size<W6.heap.size:=by rw[hW6];simp
   have HW6:=Aa (F6.o.1.env HW.o hb);have hz5:=F5.o.2.2.2;generalize w5.heap.size=B7 at *;clear hW6 hb6;have D0:=@Aa (W6.cell? ⟨fb,fo,none⟩=(g.tag:Int)) (by obtain⟨a1,a2,a3,_,a5⟩:=HP6.o;injection a3 with a3;injection a3 with a3;injection a3 with a3 a4;subst a3 a4;simpa using Ab a5 0 rfl);refine Bh [32,33,34,35,36,37,38,39,999,5] aJ aJ aJ (fun u=>by dsimp only[Bn,Bk,List.set,aj,Nat.reduceAdd])
    (fun ix u W=>match ix with|0=>u=.pointer (some ⟨fb,fo,none⟩)|1=>u=.pointer (some ⟨fb,fo,none⟩)|2=>u=.pointer (some ⟨fb,fo,none⟩)|3=>u=(g.tag:Int)|4=>u=.agg #[.int .u8 (v.what.toNat:Int),v.text,(v.tag:Int),.slice A7 v.kids.length c7]|5=>∃c,u=.slice (some ⟨c,0,none⟩) 1 1|6=>∃c,u=.agg #[.int .u8 61,a8,(g.tag:Int),.slice (some ⟨c,0,none⟩) 1 1]|7=>u=.pointer (some ⟨fb,fo,none⟩)|9=>u=.pointer (some ⟨fb,fo,none⟩)|_=>True)
    (fun L U W=>(L 8=false->Below W6 W6 W)/\(L 5=true->L 8=false->∃W7,W=W7.alloc (.cells (Dx (v,.slice A7 v.kids.length c7)).toArray 42)/\U 5=.slice (some ⟨W7.heap.size,0,none⟩) 1 1/\Below W6 W6 W7)/\(L 6=true->U 6=.agg #[.int .u8 61,a8,(g.tag:Int),U 5]) /\
  (L 8=true->∃W7,W=(W7.alloc (.cells (Dx (v,.slice A7 v.kids.length c7)).toArray 42)).setCells w 0 [.int .u8 61,a8,(g.tag:Int),.slice (some ⟨W7.heap.size,0,none⟩) 1 1]/\Below W6 W6 W7)) (fun _ _=>True) (fun _ _ _ _ _ h=>h) (⟨fun _=>(Ay _ _).drew,fun h=>Bool.noConfusion h,fun h=>Bool.noConfusion h,fun h=>Bool.noConfusion h⟩) ?_ ?_
   ·repeat (first|exact Ba.nil|(refine Ba.cons ?_ ?_;rotate_left))
    all_goals
     rintro L U W hL hpre hR hun hdep K hK;have HR:=Aa hR;obtain⟨R1,R2,R3,R4⟩:=HR.o;have Hdep:=Aa hdep;clear hun hdep hR;first|(simp[Region.binds]at hpre;done)|simp[Region.binds]at hpre|clear hpre
    iterate 3
     ·exact fG
    ·have h6:L 6=false:=Ce Hdep.o 6 3 rfl hL;have h8:L 8=false:=Ce Hdep.o 8 6 rfl h6;have m0:=((R1 h8).cell (p:=⟨fb,fo,none⟩) (by have:=HW6.o.size;show fb<_;omega)).trans D0.o;exact iW
    ·have h5:L 5=false:=Ce Hdep.o 5 4 rfl hL;have h6:L 6=false:=Ce Hdep.o 6 5 rfl h5;have h8:L 8=false:=Ce Hdep.o 8 6 rfl h6;have m0:=((R1 h8).cell (p:=⟨B7,0,none⟩) hz6).trans (X6.o 0 _ rfl);have m1:=((R1 h8).cell (p:=⟨B7,1,none⟩) hz6).trans (X6.o 1 _ rfl);have m2:=((R1 h8).cell (p:=⟨B7,2,none⟩) hz6).trans (X6.o 2 _ rfl);have m3:=((R1 h8).cell (p:=⟨B7,3,none⟩) hz6).trans (X6.o 3 _ rfl);exact iW
    ·have h6:L 6=false:=Ce Hdep.o 6 5 rfl hL;have h8:L 8=false:=Ce Hdep.o 8 6 rfl h6;have hba:Below W W (W.alloc (.cells (Dx (v,.slice A7 v.kids.length c7)).toArray 42)):=(Ay _ _).alloc (As _) _;have u4:=hpre.2;go_simp;exact hK (.slice (W,0) 1 1) _ _ ⟨W.heap.size,rfl⟩ Ad ⟨fun _=>(R1 h8).trans (hba.mono (R1 h8).size),fun _ _=>⟨W,rfl,rfl,R1 h8⟩,fun h=>absurd (h6.symm.trans bg) aH,fun h=>absurd (h8.symm.trans bg) aH⟩ aF
    ·obtain⟨c,u5⟩:=hpre.2.2;have u3:=hpre.1.2;go_simp;exact hK (.agg #[.int .u8 61,a8,(g.tag:Int),U 5]) _ _ ⟨c,by rw[u5]⟩ Ad ⟨R1,R2,fun _=>rfl,fun h=>R4 bg⟩ (by simp[Act.put,u3,u5])
    ·exact fG
    ·obtain⟨⟨l6,_⟩,_⟩:=hpre;have u6:=R3 l6;have l5:L 5=true:=by
      cases h5:L 5 with
      |true=>rfl
      |false=>exact absurd (l6.symm.trans (Ce Hdep.o 6 5 rfl h5)) aH
     obtain⟨W7,rfl,u5,hb7⟩:=R2 l5 hL;rw[u5]at u6;rw[if_pos cx];refine wp_store_mid 42 _ _ rfl w 0 ([.int .u8 61,a8,(g.tag:Int),.slice (some ⟨W7.heap.size,0,none⟩) 1 1]:List Value).toArray rfl u6 ((F6.o.post hb7).post ((Ay _ _).alloc (As _) _)).2.1 aJ bY ?_;exact hK undef _ _ Ad Ad ⟨fun h=>by simp at h,fun _ h=>by simp at h,fun _=>by show U 6=.agg #[.int .u8 61,a8,(g.tag:Int),U 5];rw[u5];exact u6,fun _=>⟨W7,rfl,hb7⟩⟩ rfl
    ·clear R1 R2 R3 R4;go_simp;exact hK (.pointer (some ⟨fb,fo,none⟩)) _ _ rfl Ad HR.o aF
   rintro L U W hL hφ hR;have hφ9:=hφ 9 aH;clear hφ;have e9:U 9=.pointer (some ⟨fb,fo,none⟩):=hφ9;obtain⟨_,_,_,h4⟩:=hR;obtain⟨W7,rfl,hb7⟩:=h4 (hL 8 aH);clear hL h4;simp only[e9];clear hφ9;go_wp2_with fail;have F7:=Aa (F6.o.post hb7);have Hk7:=Aa (Hk6.o.after hb7);have hz7:=F7.o.2.2.2;have Z:=Jp.fin (v:=Cw (g,v)) (sl:=.slice (some ⟨W7.heap.size,0,none⟩) 1 1) (F7.o.post ((Ay _ _).alloc (As _) (.cells (Dx (v,.slice A7 v.kids.length c7)).toArray 42))) hb0 rfl (Hk7.o.one (T:=42) (fun c hc _=>by omega) aE);have HPz:=HP6.o.via (F6.o.1.env HW.o hb) (Z.2.1.env HW.o hb);refine aC (v:=.tuple #[.agg (Em (Cw (g,v)) (.slice (some ⟨W7.heap.size,0,none⟩) 1 1)).toArray,.pointer (some ⟨fb,fo,none⟩)]) (Bc results131 _ _ w.heap.size _ _ _ rfl rfl Z.2.2 underlying42 rfl aJ) rfl ?_;have hx9:=Hx5.o;refine⟨Cw (g,v),_,_,t',rfl,Z.1,?_,.mk (show g.tag<=1000000000 by omega) dS aI (fun y hy=>by rw[an]at hy;subst hy;exact HB5.o),by omega,by rw[Kt];simp only;omega,.inr ⟨g,v,HPz,rfl,Hfg.o,HB5.o,?_⟩⟩
   ·have e:q.isNone=(Ak S 1000 N g.kind t2).isNone:=by rw[hq0.o];cases Ak S 1000 N g.kind t2<;>rfl
    rw[e];exact Z.2.1
   intro y hy;rw[hq0.o]at hy;cases hr:Ak S 1000 N g.kind t2 with
   |none=>rw[hr]at hy;cases hy
   |some z=>
    obtain⟨z1,z2⟩:=z;rw[hr]at hy;simp only[ai]at hy;obtain⟨e1,e2⟩:=hx9 _ hr;simp only at e1 e2;rw[<-hy,e1,e2]
structure Vb(B:Nat)(W:World)(h0 h1 h2 h3:Value):Prop where
 lt:B<W.heap.size
 bk:Mu W B
 c0:W.cell? (B,0)=some h0
 c1:W.cell? (B,1)=some h1
 c2:W.cell? (B,2)=some h2
 c3:W.cell? (B,3)=some h3
theorem Vb.new{w:World}{h0 h1 h2 h3:Value}{T:TypeId}:Vb w.heap.size (w.alloc (.cells #[h0,h1,h2,h3] T)) h0 h1 h2 h3:=⟨by simp,Mu.new _ _ _,by simp,by simp,by simp,by simp⟩
theorem Vb.grown{B:Nat}{W W':World}{h0 h1 h2 h3:Value}{row:Option Nat}(h:Vb B W h0 h1 h2 h3)(hg:W.grownBy W' row)(hn:some B≠row):Vb B W' h0 h1 h2 h3:=
 ⟨ab h.lt hg.size,h.bk.grown h.lt hg hn,hg.cell h.c0 hn,hg.cell h.c1 hn,hg.cell h.c2 hn,hg.cell h.c3 hn⟩
theorem Vb.after{B:Nat}{W W':World}{h0 h1 h2 h3:Value}(h:Vb B W h0 h1 h2 h3)(hb:Below W W W'):Vb B W' h0 h1 h2 h3:=h.grown (Cv hb none) aI
theorem Vb.set2{B:Nat}{W:World}{h0 h1 h2 h3:Value}(h:Vb B W h0 h1 h2 h3)(v:Value):Vb B (W.setCell ⟨B,2,none⟩ v) h0 h1 v h3:=by
 have hf:=h.bk.live 2;exact⟨by simpa using h.lt,h.bk.set _,by simp[go_sem,h.c0],by simp[go_sem,h.c1],by simp[go_sem,h.c2,hf],by simp[go_sem,h.c3]⟩
theorem Vb.set3{B:Nat}{W:World}{h0 h1 h2 h3:Value}(h:Vb B W h0 h1 h2 h3)(v:Value):Vb B (W.setCell ⟨B,3,none⟩ v) h0 h1 h2 v:=by
 have hf:=h.bk.live 3;exact⟨by simpa using h.lt,h.bk.set _,by simp[go_sem,h.c0],by simp[go_sem,h.c1],by simp[go_sem,h.c2],by simp[go_sem,h.c3,hf]⟩
theorem Jp.init{w:World}{b:Nat}{p:Value}{t:List UInt8}{bad:Bool}(h:Dp w b p t bad){T:TypeId}:Jp w b p w.heap.size t bad (w.alloc (.cells #[.int .u8 0,a8,.int .i64 0,.slice none 0 0] T)):=
 ⟨⟨h.grow ((Ay _ _).alloc (As _) _),Cv ((Ay _ _).alloc (As _) _) _⟩,D2 w [.int .u8 0,a8,.int .i64 0,.slice none 0 0] _,As _,by simp⟩
theorem Qhc(fs:List Fd)(t:List UInt8)(t1 t2:List UInt8)(b1 b2:Bool)(h1:t1=(Aj [35] t false).getD t)(hb1:b1=(Aj [35] t false).isNone)(h2:t2=t1.dropWhile Bg)(hb2:b2=(b1 || !Gj 200 t1)):
  (match Ae 35 t with
   |none=>none
   |some r=>match Fz fs r with|some (f,q)=>some (Vl.mk 69 [] f.tag [],q)|none=>none)=if b2 || (Bp fs (G8 t1)).isNone then none else some (.mk 69 [] (G8 t1) [],t2):=by
 rw[Be]at h1 hb1;simp only[ak,if_false]at h1 hb1;cases hy:Ae 35 t with
 |none=>rw[hy]at hb1;simp at hb1;subst hb1 hb2;simp
 |some r=>
  rw[hy]at h1 hb1;simp at h1 hb1;subst h1 hb1 h2 hb2;simp only[Qa3];cases Gj 200 t1 with
  |false=>simp
  |true=>
   simp only[if_true,Bool.false_or,Bool.not_true];cases hf:Bp fs (G8 t1)with
   |none=>simp
   |some f=>have:=(Bz hf).1;simp[this]
theorem Qfy(w0:World)(b N:Nat)(p:Value)(S:List Ty)(x:PT)(hx:So w0 x)(h9:x.ty.sort=69)(t:List UInt8)(w:World)(hw:Below w0 w0 w)(hb:w0.heap.size<=b)(h:Dp w b p t false)(hl:t.length<=900)
  (q:Option (Vl × List UInt8)) (hq:q=Ha S (Ak S 1000 N) x.ty t):
  Calls prog 100 #[b,x.blk] w (Kh w b p t (N+1) q):=by
 have HQ:=Aa (hq.trans (by unfold Ha;rw[if_pos h9]));have HS:=Aa h;have HW:=Aa hw;have hb0:=h.1;have hx0:=hx.1;have x0:=(hw.cell (p:=⟨x.blk,0,none⟩) hx0).trans hx.2.2.1;have hxw:x.blk<w.heap.size:=eQ;have hxn:¬(x.blk=w.heap.size):=eQ;have hxn2:¬(x.blk=w.heap.size+1):=eQ;rw[h9]at x0;have x0':w.cell? (x.blk,0)=some (.int .u8 69):=x0;clear x0;have hm:=Cc 35 t false;have Hwt:=Aa (fun W (h:Dp W b p t false)=>Bf b p t [35] false W h aE);obtain⟨t1,ht1⟩:∃t1,t1=(Aj [35] t false).getD t:=⟨_,rfl⟩
 obtain⟨b1,hb1⟩:∃b1,b1=(Aj [35] t false).isNone:=⟨_,rfl⟩
 have HQ2:=Aa (HQ.o.trans (Qhc x.ty.fields t t1 (t1.dropWhile Bg) b1 (b1 || !Gj 200 t1) ht1 hb1 rfl rfl));rw[<-ht1]at hm;rw[<-ht1,<-hb1]at Hwt;have Hn:=Aa (fun W (h:Dp W b p t1 b1)=>Nw b 200 p t1 b1 W h aE aH);have hnn:=X8 t1;have hdr:=Nd Bg t1;have Hf:=Aa (fun W (hW:Below w0 w0 W)=>Tb w0 x hx (G8 t1) W hW aE);have hdl:=Df 5 (G8 t1) dA;generalize (b1 || !Gj 200 t1)=b2 at *;generalize t1.dropWhile Bg=t2 at *;generalize G8 t1=n at *;clear ht1 hb1 h hw hq h9 HQ;go_enter func100,ntmps100;go_wp2_with fail;have F1:=Aa ((Jp.init HS.o (T:=42)).post ((Ay _ _).alloc (As _) (.cells #[.int .u8 69,a8,.int .i64 0,.slice none 0 0] 42)));have V1:=@Aa (Vb (w.heap.size+1) _ _ _ _ _) (by have:=Vb.new (w:=w.alloc (.cells #[.int .u8 0,a8,.int .i64 0,.slice none 0 0] 42)) (h0:=.int .u8 69) (h1:=a8) (h2:=.int .i64 0) (h3:=.slice none 0 0) (T:=42);simpa using this);refine(Hwt.o _ F1.o.1.1).mono ?_;rintro e w2 ⟨rfl,hs2⟩;have F2:=Aa (F1.o.step hb0 hs2);have V2:=Aa (V1.o.grown hs2.2 aM);clear hs2 F1 V1;go_wp2_with fail;refine(Hn.o _ F2.o.1.1).mono ?_;rintro e w3 ⟨rfl,hs3⟩;have F3:=Aa (F2.o.step hb0 hs3);have V3:=Aa (V2.o.grown hs3.2 aM);clear hs3 F2 V2;have c2:=V3.o.c2;have f2:=V3.o.bk.live 2;have l2:=V3.o.lt;go_wp2_with fail;have F4:=Aa (F3.o.app hb0 (Ap w3 (w.heap.size+1) 2 (n:Int)) (fun k e=>by injection e with e;omega));have V4:=Aa (V3.o.set2 (n:Int));refine(Hf.o _ (F4.o.1.env HW.o hb)).mono ?_;rintro e w4 ⟨fp,rfl,hfp,rfl⟩;cases hfo:Bp x.ty.fields n with
 |some g=>
  rw[hfo]at hfp HQ2;obtain⟨fb,fo,rfl,_,_⟩:=hfp;have d0:=V4.o.c0;have d1:=V4.o.c1;have d2:=V4.o.c2;have d3:=V4.o.c3;clear hfo c2 f2 l2;generalize w3.setCell ⟨w.heap.size+1,2,none⟩ (n:Int)=w4 at *;go_wp2_with ((with_reducible refine Ac (op:=⟨none,.store 42 _ _,_,_,_,none⟩) rfl 42 _ _ rfl w 0 [.int .u8 69,a8,(n:Int),.slice none 0 0] ?_ ?_ ?_ ?_ ?_ ?_);rfl;rfl;(exact F4.o.2.1);kernel_rfl;(simp[Value.oneCell']);intro w9 HS9)
  have Z:=Jp.fin (v:=.mk 69 [] n []) (sl:=.slice none 0 0) F4.o hb0 HS9.o (D1.nil _ _);refine aC (v:=.agg (Em (.mk 69 [] n []) (.slice none 0 0)).toArray) (Ag results100 _ _ w.heap.size _ _ rfl Z.2.2 underlying42 rfl aJ) rfl ⟨.mk 69 [] n [],_,t2,rfl,Z.1,?_,?_,Ey aE aH,by omega,by simp[Au,Cs,Ez];omega⟩
  ·rw[HQ2.o];cases b2<;>exact Z.2.1
  rw[HQ2.o];cases b2<;>simp
 |none=>
  rw[hfo]at hfp HQ2;have hfp':fp=.pointer none:=hfp;subst hfp';have s2:=F4.o.1.1.2.2.2.2;have sb:=F4.o.1.1.2.1.live 2;have s0:=F4.o.1.1.1;clear hfo c2 f2 l2;generalize w3.setCell ⟨w.heap.size+1,2,none⟩ (n:Int)=w4 at *;have F5:=Aa (F4.o.step hb0 ⟨F4.o.1.1.setBad true,Ap _ b 2 (.bool true)⟩);have V5:=Aa (V4.o.grown (Ap w4 b 2 (.bool true)) aM);have d0:=V5.o.c0;have d1:=V5.o.c1;have d2:=V5.o.c2;have d3:=V5.o.c3;go_wp2_with ((with_reducible refine Ac (op:=⟨none,.store 42 _ _,_,_,_,none⟩) rfl 42 _ _ rfl w 0 [.int .u8 69,a8,(n:Int),.slice none 0 0] ?_ ?_ ?_ ?_ ?_ ?_);rfl;rfl;(exact F5.o.2.1);kernel_rfl;(simp[Value.oneCell']);intro w9 HS9)
  have Z:=Jp.fin (v:=.mk 69 [] n []) (sl:=.slice none 0 0) F5.o hb0 HS9.o (D1.nil _ _);refine aC (v:=.agg (Em (.mk 69 [] n []) (.slice none 0 0)).toArray) (Ag results100 _ _ w.heap.size _ _ rfl Z.2.2 underlying42 rfl aJ) rfl ⟨.mk 69 [] n [],_,t2,rfl,Z.1,?_,?_,Ey aE aH,by omega,by simp[Au,Cs,Ez];omega⟩
  ·rw[HQ2.o];simpa using Z.2.1
  rw[HQ2.o];simp
def Qgf(q1:Option ((Fd × Vl) × List UInt8))(t2:List UInt8):Option (Vl × List UInt8):=match q1 with
 |none=>none
 |some (p,_)=>if (Aj [62] t2 false).isNone then none else some (.mk 85 [] p.1.tag [p.2],(Aj [62] t2 false).getD t2)
theorem Qht(K:Kd->List UInt8->Option (Vl × List UInt8))(fs:List Fd)(t t1 t2:List UInt8)(b1:Bool)(q1:Option ((Fd × Vl) × List UInt8))(h1:t1=(Aj [60] t false).getD t)(hb1:b1=(Aj [60] t false).isNone)(h2:q1=if b1 then none else Ct K fs t1)(h3:∀y,q1=some y->t2=y.2):
  (match Ae 60 t with
   |none=>none
   |some r=>match Ct K fs r with
    |none=>none
    |some (p,q)=>match Ae 62 q with|some z=>some (Vl.mk 85 [] p.1.tag [p.2],z)|none=>none) =
  Qgf q1 t2:=by
 rw[Be]at h1 hb1;simp only[ak,if_false]at h1 hb1;cases hy:Ae 60 t with
 |none=>rw[hy]at hb1;simp at hb1;subst hb1;simp at h2;subst h2;simp[Qgf]
 |some r=>
  rw[hy]at h1 hb1;simp at h1 hb1;subst h1 hb1;simp only[ak,if_false]at h2;subst h2;simp only;cases hk:Ct K fs t1 with
  |none=>simp[Qgf]
  |some y=>
   obtain⟨p,q⟩:=y;obtain rfl:=h3 _ hk;simp only[Qgf,Be,ak,if_false];cases Ae 62 t2<;>simp
structure Zt(w0 w:World)(b B X:Nat)(p:Value)(t:List UInt8)(bad:Bool)(g:Fd)(x:Vl)(fp:Value)(sl h2 h3:Value)(W:World):Prop where
 f:Jp w b p w.heap.size t bad W
 v:Vb B W (.int .u8 85) a8 h2 h3
 xr:W.rangeAt X 0 [.int .u8 61,a8,(g.tag:Int),sl]
 k:D1 (fun c=>B<c) W sl [x]
 p:H7 w0.heap.size W fp (some g)
 lw:Below w0 w0 W
theorem Zt.put{w0 w W:World}{b B X o:Nat}{p:Value}{t:List UInt8}{bad:Bool}{g:Fd}{x:Vl}{fp sl h2 h3 h2' h3':Value}(h:Zt w0 w b B X p t bad g x fp sl h2 h3 W)(u:Value)(hV:Vb B (W.setCell ⟨B,o,none⟩ u) (.int .u8 85) a8 h2' h3')
  (hb:b<w.heap.size) (hB:w.heap.size<B) (hX:B<X) (h0:w0.heap.size<=w.heap.size):Zt w0 w b B X p t bad g x fp sl h2' h3' (W.setCell ⟨B,o,none⟩ u):=by
 have hg:=Ap W B o u;have hlw:Below w0 w0 (W.setCell ⟨B,o,none⟩ u):=h.lw.grown hg h.lw.size fun k hk=>by injection hk with hk;omega
 exact⟨h.f.app hb hg (fun k e=>by injection e with e;omega),hV,Bj h.xr hg cb,h.k.grown hg (fun c hc e=>by injection e with e;omega),h.p.via h.lw hlw,hlw⟩
theorem Zt.drew{w0 w W:World}{b B X:Nat}{p:Value}{t:List UInt8}{bad:Bool}{g:Fd}{x:Vl}{fp sl h2 h3:Value}(h:Zt w0 w b B X p t bad g x fp sl h2 h3 W):Zt w0 w b B X p t bad g x fp sl h2 h3 W.drew:=
 ⟨h.f.post (Ay _ _).drew,h.v.after (Ay _ _).drew,h.xr,h.k.after (Ay _ _).drew,h.p.via h.lw h.lw.drew,h.lw.drew⟩
theorem Qfp(w0:World)(b N:Nat)(p:Value)(S:List Ty)(x:PT)(hx:So w0 x)(h5:x.ty.sort=85)(t:List UInt8)(w:World)(hw:Below w0 w0 w)(hb:w0.heap.size<=b)(h:Dp w b p t false)(hl:t.length<=900)(hN:t.length<=N)(hN2:N<=2000)
  (htg:∀f∈x.ty.fields,f.tag<=200) (H:∀f∈x.ty.fields,IvC w0 b p S N f.kind) (q:Option (Vl × List UInt8)) (hq:q=Ha S (Ak S 1000 N) x.ty t):
  Calls prog 100 #[b,x.blk] w (Kh w b p t (N+1) q):=by
 have HQ:=Aa (hq.trans (by unfold Ha;rw[if_neg dX,if_pos h5]));have HS:=Aa h;have HW:=Aa hw;have hb0:=h.1;have hx0:=hx.1;have hww:=hw.size;have x0:=(hw.cell (p:=⟨x.blk,0,none⟩) hx0).trans hx.2.2.1;have hxw:x.blk<w.heap.size:=aE;have hxn:¬(x.blk=w.heap.size):=aE;have hxn2:¬(x.blk=w.heap.size+1):=aE;rw[h5]at x0;have x0':w.cell? (x.blk,0)=some (.int .u8 85):=x0;clear x0;have hm:=Cc 60 t false;have Hwt:=Aa (fun W (h:Dp W b p t false)=>Bf b p t [60] false W h aE);obtain⟨t1,ht1⟩:∃t1,t1=(Aj [60] t false).getD t:=⟨_,rfl⟩
 obtain⟨b1,hb1⟩:∃b1,b1=(Aj [60] t false).isNone:=⟨_,rfl⟩
 obtain⟨q1,hq1⟩:∃q1,q1=if b1 then none else Ct (Ak S 1000 N) x.ty.fields t1:=⟨_,rfl⟩
 have HQ2:=Aa (fun t2 h3=>HQ.o.trans (Qht (Ak S 1000 N) x.ty.fields t t1 t2 b1 q1 ht1 hb1 hq1 h3));rw[<-ht1]at hm;rw[<-ht1,<-hb1]at Hwt;have Hfd:=Aa (fun W (h1:Below w0 w0 W) (h2:Dp W b p t1 b1)=>Ze w0 b N p S x hx t1 W h1 hb b1 h2 aE (fun _=>by omega) hN2 htg H q1 hq1);clear ht1 hb1 h hw hq h5 HQ hq1 H;go_enter func100,ntmps100;go_wp2_with fail;have F1:=Aa ((Jp.init HS.o (T:=42)).post ((Ay _ _).alloc (As _) (.cells #[.int .u8 85,a8,.int .i64 0,.slice none 0 0] 42)));have V1:=@Aa (Vb (w.heap.size+1) _ _ _ _ _) (by have:=Vb.new (w:=w.alloc (.cells #[.int .u8 0,a8,.int .i64 0,.slice none 0 0] 42)) (h0:=.int .u8 85) (h1:=a8) (h2:=.int .i64 0) (h3:=.slice none 0 0) (T:=42);simpa using this);refine(Hwt.o _ F1.o.1.1).mono ?_;rintro e w2 ⟨rfl,hs2⟩;have F2:=Aa (F1.o.step hb0 hs2);have V2:=Aa (V1.o.grown hs2.2 aM);have hz2:w.heap.size+2<=w2.heap.size:=by have:=hs2.2.size;simp at this;omega
 clear hs2 F1 V1;go_wp2_with fail;refine(Hfd.o _ (F2.o.1.env HW.o hb) F2.o.1.1).mono ?_;rintro e w3 ⟨v,sl,fp,t2,rfl,hk3,hs3,hB3,hl3,hn3,hcase⟩;obtain⟨A7,c7,rfl⟩:=hk3.form;have F3:=Aa (F2.o.step hb0 hs3);have V3:=Aa (V2.o.grown hs3.2 aM);have Hk3:=Aa hk3;have hz3:w2.heap.size<=w3.heap.size:=hs3.2.size;clear hs3 F2 V2 hk3;unfold Mg;have hm3:=Cc 62 t2 q1.isNone;have Hwt2:=Aa (fun W (h:Dp W b p t2 q1.isNone)=>Bf b p t2 [62] q1.isNone W h aE);rcases hcase with⟨rfl,hq1⟩|⟨g,y,hfp,rfl,hfg,hBy,hy⟩
 ·have HQ3:=@Aa (q=none) (by rw[HQ2.o t2 (by rw[hq1];simp),hq1];rfl);have hw3:Aj [62] t2 q1.isNone=none:=by rw[hq1,Be];rfl
  rw[hw3]at Hwt2;simp only[Option.getD_none,Option.isNone_none]at Hwt2;clear hq1 hw3 HQ2 hB3;go_wp2_with fail;have F4:=Aa (F3.o.post ((Ay w3.heap.size w3).alloc (As _) (.cells #[.int .u8 (v.what.toNat:Int),v.text,(v.tag:Int),.slice A7 v.kids.length c7] 42)));have V4:=Aa (V3.o.after ((Ay w3.heap.size w3).alloc (As _) (.cells #[.int .u8 (v.what.toNat:Int),v.text,(v.tag:Int),.slice A7 v.kids.length c7] 42)));refine(Hwt2.o _ F4.o.1.1).mono ?_;rintro e w5 ⟨rfl,hs5⟩;have F5:=Aa (F4.o.step hb0 hs5);have V5:=Aa (V4.o.grown hs5.2 aM);have d0:=V5.o.c0;have d1:=V5.o.c1;have d2:=V5.o.c2;have d3:=V5.o.c3;clear hs5 F4 V4;go_wp2_with ((with_reducible refine Ac (op:=⟨none,.store 42 _ _,_,_,_,none⟩) rfl 42 _ _ rfl w 0 [.int .u8 85,a8,.int .i64 0,.slice none 0 0] ?_ ?_ ?_ ?_ ?_ ?_);rfl;rfl;(exact F5.o.2.1);kernel_rfl;(simp[Value.oneCell']);intro w9 HS9)
  have Z:=Jp.fin (v:=.mk 85 [] 0 []) (sl:=.slice none 0 0) F5.o hb0 HS9.o (D1.nil _ _);exact aC (v:=.agg (Em (.mk 85 [] 0 []) (.slice none 0 0)).toArray) (Ag results100 _ _ w.heap.size _ _ rfl Z.2.2 underlying42 rfl aJ) rfl ⟨.mk 85 [] 0 [],_,t2,rfl,Z.1,by rw[HQ3.o];exact Z.2.1,by rw[HQ3.o];simp,Ey aH aH,by omega,by simp[Au,Cs,Ez,An,Eg];omega⟩
 have HQ3:=Aa (HQ2.o t2 (fun z hz=>by rw[hy z hz]));obtain⟨t4,ht4⟩:∃t4,t4=(Aj [62] t2 q1.isNone).getD t2:=⟨_,rfl⟩
 obtain⟨b4,hb4⟩:∃b4,b4=(Aj [62] t2 q1.isNone).isNone:=⟨_,rfl⟩
 rw[<-ht4,<-hb4]at Hwt2;rw[<-ht4]at hm3
 have HQ4:=Aa (show q=if b4 then none else some (.mk 85 [] g.tag [y],t4)from by
  rw[HQ3.o];cases hq1:q1 with
  |none=>rw[hq1,Be]at hb4;simp at hb4;subst hb4;rfl
  |some z=>
   obtain⟨z1,z2⟩:=z;have:=hy _ hq1;injection this with e1 e2;subst e1;rw[hq1]at ht4 hb4;unfold Qgf;simp only;rw[ht4,hb4];rfl)
 have hpl:=Kt (g,y);obtain⟨fb,fo,rfl,hfb,hfr⟩:=hfp;have HP3:=@Aa (H7 w0.heap.size w3 (.pointer (some ⟨fb,fo,none⟩)) (some g)) ⟨fb,fo,rfl,hfb,hfr⟩;have hgt:=htg g (Bz hfg).2;have HBy:=Aa hBy;clear ht4 hb4 HQ2 HQ3 hB3 hfr hy hBy hfg;simp only[Cw,Vl.what,Vl.text,Vl.tag,Vl.kids,List.length_singleton]at Hk3 hn3 ⊢;go_wp2_with fail;obtain⟨W4,hW4⟩:∃W4,W4=w3.alloc (.cells #[.int .u8 61,a8,(g.tag:Int),.slice A7 1 c7] 42):=⟨_,rfl⟩
 have hb4:Below w3 w3 W4:=by rw[hW4];exact(Ay _ _).alloc (As _) _
 have X4:=@Aa (W4.rangeAt w3 0 [.int .u8 61,a8,(g.tag:Int),.slice A7 1 c7]) (by rw[hW4];exact Ch w3 [.int .u8 61,a8,(g.tag:Int),.slice A7 1 c7] _);have hz4:w3.heap.size<W4.heap.size:=by rw[hW4];simp
 have F4:=Aa (F3.o.post hb4);have V4:=Aa (V3.o.after hb4);have Hk4:=Aa (Hk3.o.after hb4);have HP4:=Aa (HP3.o.via (F3.o.1.env HW.o hb) (F4.o.1.env HW.o hb));have hW4':w3.alloc (.cells #[.int .u8 ((61:UInt8).toNat:Int),([]:List UInt8),(g.tag:Int),.slice A7 1 c7] 42)=W4:=hW4.symm;first|rw[<-hW4]|rw[hW4']
 generalize w3.heap.size=BX at *;clear hW4 hW4' hb4 F3 V3 Hk3 HP3;refine(Hwt2.o _ F4.o.1.1).mono ?_;rintro e w5 ⟨rfl,hs5⟩;have F5:=Aa (F4.o.step hb0 hs5);have V5:=Aa (V4.o.grown hs5.2 aM)
 have U5:=Aa (show Zt w0 w b (w.heap.size+1) BX p t4 b4 g y (.pointer (some ⟨fb,fo,none⟩)) (.slice A7 1 c7) (.int .i64 0) (.slice none 0 0) w5 from
  ⟨F5.o,V5.o,Bj X4.o hs5.2 aM,(Hk4.o.grown hs5.2 (fun c hc e=>by injection e with e;omega)).mono (fun c hc _=>by omega),HP4.o.via (F4.o.1.env HW.o hb) (F5.o.1.env HW.o hb),F5.o.1.env HW.o hb⟩)
 clear hs5 F4 V4 X4 Hk4 HP4;go_wp2_with fail;refine Sy [107,108,109,110,111,112,113,999,114,998]
  (fun ix v W=>match ix with|0=>v=.pointer (some ⟨fb,fo,none⟩)|1=>v=.pointer (some ⟨fb,fo,none⟩)|2=>v=.pointer (some ⟨fb,fo,none⟩)|3=>v=(g.tag:Int)|4=>v=(BX,3)|5=>v=.slice A7 1 c7|6=>v=(w,1,2)|8=>v=(w,1,3)|_=>True)
  (fun L U W=>Zt w0 w b (w.heap.size+1) BX p t4 b4 g y (.pointer (some ⟨fb,fo,none⟩)) (.slice A7 1 c7) (if L 7=true then (g.tag:Int)else .int .i64 0) (if L 9=true then .slice A7 1 c7 else .slice none 0 0) W) (by simpa using U5.o.drew) ?_ ?_
 ·repeat (first|exact Ba.nil|(refine Ba.cons ?_ ?_;rotate_left))
  all_goals
   rintro L U W hL hpre HR Hdep K hK;have hU:=HR.o;have m3:=hU.xr 3 _ rfl;simp only[aj]at m3;have fb0:W.cell? ⟨fb,fo,none⟩=(g.tag:Int):=by obtain⟨a1,a2,a3,_,a5⟩:=hU.p;injection a3 with a3;injection a3 with a3;injection a3 with a3 a4;subst a3 a4;simpa using Ab a5 0 rfl
   first|(simp[Region.binds]at hpre;done)|simp[Region.binds]at hpre|clear hpre
  iterate 7
   ·exact fG
  ·have q2:=hU.v.c2;have qf:=hU.v.bk.live 2;have ql:=hU.v.lt;have hst:=hU.put (g.tag:Int) (hU.v.set2 _) hb0 aE aE hww;exact iY
  ·exact fG
  ·have q3:=hU.v.c3;have qf:=hU.v.bk.live 3;have ql:=hU.v.lt;have hst:=hU.put (.slice A7 1 c7) (hU.v.set3 _) hb0 aE aE hww;exact iY
 rintro L U W hL hφ hR;clear hφ;have hU:=hR;simp only[hL 7 aH,hL 9 aH,if_true]at hU;have U6:=Aa hU;have d0:=hU.v.c0;have d1:=hU.v.c1;have d2:=hU.v.c2;have d3:=hU.v.c3;clear hL hR hU;go_wp2_with ((with_reducible refine Ac (op:=⟨none,.store 42 _ _,_,_,_,none⟩) rfl 42 _ _ rfl w 0 [.int .u8 85,a8,(g.tag:Int),.slice A7 1 c7] ?_ ?_ ?_ ?_ ?_ ?_);rfl;rfl;(exact U6.o.f.2.1);kernel_rfl;(simp[Value.oneCell']);intro w9 HS9)
 have Z:=Jp.fin (v:=.mk 85 [] g.tag [y]) (sl:=.slice A7 1 c7) U6.o.f hb0 HS9.o (U6.o.k.mono fun c hc _=>by omega);have hpv:(Au (.mk 85 [] g.tag [y])).length=(Au (Cw (g,y))).length+2:=by rw[Mb];simp
 have hn3':(Au (Cw (g,y))).length+t2.length<=t1.length+8*N:=hn3;exact aC (v:=.agg (Em (.mk 85 [] g.tag [y]) (.slice A7 1 c7)).toArray) (Ag results100 _ _ w.heap.size _ _ rfl Z.2.2 underlying42 rfl aJ) rfl ⟨.mk 85 [] g.tag [y],_,t4,rfl,Z.1,by rw[HQ4.o];cases b4<;>exact Z.2.1,by rw[HQ4.o];cases b4<;>simp,.mk aE (by simp only[Kt]at hn3';simp[Cq];omega) aI (fun z hz=>by rw[an]at hz;subst hz;exact HBy.o),by omega,by omega⟩
def Nq(ps:List (Fd × Vl)):Option (List (Fd × Vl) × List UInt8)->Option (List (Fd × Vl) × List UInt8)
 |some (us,z)=>some (ps++us,z)
 |none=>none
structure RI(S:List Ty)(K:Kd->List UInt8->Option (Vl × List UInt8))(fs:List Fd)(t1:List UInt8)(b1:Bool)(ps:List (Fd × Vl))(last:Nat)(tt:List UInt8):Prop where
 eq:b1=false->Do S K fs 201 0 t1=Nq ps (Do S K fs (201 - ps.length) last tt)
 len:Cq ((ps.map Cw).map Au)+tt.length<=t1.length
 bd:∀p∈ps,Bd (Cw p)
 lo:ps.length<=last
 hi:last<=200
def RE(S:List Ty)(K:Kd->List UInt8->Option (Vl × List UInt8))(fs:List Fd)(t1:List UInt8)(b1:Bool)(vs:List Vl)(tt:List UInt8)(bb:Bool)(N:Nat):Prop:=
 ∃ps:List (Fd × Vl),(if b1 then none else Do S K fs 201 0 t1)=(if bb then none else match Ae 125 tt with|some z=>some (ps,z)|none=>none)/\(bb=false->vs=ps.map Cw)/\Cq (vs.map Au)+tt.length<=t1.length+8*N+1/\(∀x∈vs,Bd x)/\vs.length<=201
section
variable {S:List Ty} {K:Kd->List UInt8->Option (Vl × List UInt8)} {fs:List Fd} {t1 tt t' t'':List UInt8} {b1:Bool} {ps:List (Fd × Vl)} {last N:Nat} {g:Fd} {x:Vl}
theorem RI.init:RI S K fs t1 b1 [] 0 t1:=⟨fun _=>by cases h:Do S K fs 201 0 t1<;>simp[Nq,h],by simp[Cq],by simp,As _,by omega⟩
theorem RI.bad(h:RI S K fs t1 true ps last tt):RE S K fs t1 true (ps.map Cw) tt true N:=
 ⟨ps,by simp,fun h=>Bool.noConfusion h,by have:=h.len;omega,fun y hy=>by obtain⟨p,hp,rfl⟩:=au.1 hy;exact h.bd p hp,by have:=h.lo;have:=h.hi;simp;omega⟩
theorem RI.fuel(h:RI S K fs t1 b1 ps last tt):∃m,201 - ps.length=m+1:=⟨200 - ps.length,by have:=h.lo;have:=h.hi;omega⟩
theorem RI.step(h:RI S K fs t1 false ps last tt)(hK:Ct K fs tt=some ((g,x),t'))(hl:last<g.tag)(hne:Au x≠Kn S g)(hlen:tt.length=(Au (Cw (g,x))).length+t'.length)(hc:Ae 44 t'=some t'')(hB:Bd (Cw (g,x)))(hg:g.tag<=200):
  RI S K fs t1 false (ps++[(g,x)]) g.tag t'':=by
 obtain⟨m,hm⟩:=h.fuel;have e:t'=44::t'':=Ax.1 hc;refine⟨fun _=>?_,?_,fun p hp=>?_,by have:=h.lo;simp;omega,hg⟩
 ·rw[h.eq rfl,hm,show 201 - (ps++[(g,x)]).length=m by simp;omega];conv=>lhs;unfold Do
  rw[hK];simp only;rw[if_neg eJ,hc];simp only;cases Do S K fs m g.tag t''<;>simp[Nq]
 ·have:=h.len;rw[aw,aw,Kr];simp[De,Cq]at this ⊢;rw[e]at hlen;simp at hlen;omega
 rcases ae.1 hp with hp|hp
 ·exact h.bd p hp
 rw[an]at hp;subst hp;exact hB
theorem RI.stop(h:RI S K fs t1 false ps last tt)(hs:∀y,Ct K fs tt=some y->y.1.1.tag<=last\/Au y.1.2=Kn S y.1.1)(hl:t'.length<=tt.length):RE S K fs t1 false (ps.map Cw) t' true N:=by
 obtain⟨m,hm⟩:=h.fuel;refine⟨ps,?_,fun h=>Bool.noConfusion h,by have:=h.len;omega,fun y hy=>by obtain⟨p,hp,rfl⟩:=au.1 hy;exact h.bd p hp,by have:=h.lo;have:=h.hi;simp;omega⟩;rw[if_neg aH,h.eq rfl,hm];unfold Do;cases hk:Ct K fs tt with
 |none=>rfl
 |some y=>
  obtain⟨p,z⟩:=y;simp only;rw[if_pos (hs _ hk)];rfl
theorem RI.brk(h:RI S K fs t1 false ps last tt)(hx:∀y,Ct K fs tt=some y->y=((g,x),t'))(hl:last<g.tag)(hne:Au x≠Kn S g)(hc:Aj [44] t' (Ct K fs tt).isNone=none)(hB:Bd (Cw (g,x)))
  (hn:(Au (Cw (g,x))).length+t'.length<=tt.length+8*N):RE S K fs t1 false (ps.map Cw++[Cw (g,x)]) t' (Ct K fs tt).isNone N:=by
 obtain⟨m,hm⟩:=h.fuel;refine⟨ps++[(g,x)],?_,fun _=>by simp,?_,?_,by have:=h.lo;have:=h.hi;simp;omega⟩
 ·rw[if_neg aH,h.eq rfl,hm];unfold Do;cases hk:Ct K fs tt with
  |none=>rfl
  |some y=>
   have:=hx y hk;subst this;rw[hk,Be]at hc;simp only[Option.isNone_some,ak,if_false]at hc ⊢;rw[if_neg eJ,hc];simp only;cases Ae 125 t'<;>simp[Nq]
 ·have:=h.len;rw[aw,Kr];simp[De,Cq]at this ⊢;omega
 intro y hy;rcases ae.1 hy with hy|hy
 ·obtain⟨p,hp,rfl⟩:=au.1 hy;exact h.bd p hp
 rw[an]at hy;subst hy;exact hB
theorem RE.fin{vs:List Vl}{bb:Bool}{t:List UInt8}(h:RE S K fs t1 b1 vs tt bb N)(h1:t1=(Aj [123] t false).getD t)(hb1:b1=(Aj [123] t false).isNone)(h2:Aj [125] t1 b1=none):
  (match Ae 123 t with
   |none=>none
   |some r=>match Ae 125 r with
    |some q=>some (Vl.mk 82 [] 0 [],q)
    |none=>match Do S K fs 201 0 r with|some (ps,q)=>some (.mk 82 [] 0 (ps.map Cw),q)|none=>none) =
  if (Aj [125] tt bb).isNone then none else some (.mk 82 [] 0 vs,(Aj [125] tt bb).getD tt):=by
 obtain⟨ps,h3,h4,_⟩:=h;rw[Be]at h1 hb1 h2 ⊢;simp only[ak,if_false]at h1 hb1;cases hy:Ae 123 t with
 |none=>
  rw[hy]at hb1;simp only[Option.isNone_none]at hb1;subst hb1;simp only[if_true]at h3;simp only;cases bb with
  |true=>simp
  |false=>
   simp only[ak,if_false]at h3 ⊢;cases hz:Ae 125 tt with
   |none=>simp
   |some z=>rw[hz]at h3;cases h3
 |some r=>
  rw[hy]at h1 hb1;simp only[Option.isNone_some,Option.getD_some]at h1 hb1;subst h1 hb1;simp only[ak,if_false]at h2 h3;simp only;rw[h2];simp only;rw[h3];cases bb with
  |true=>simp
  |false=>
   rw[h4 rfl];simp only[ak,if_false];cases Ae 125 tt<;>simp
end
end
end Go.Proofs.YtkigmebejmmikaaGreatDoor
