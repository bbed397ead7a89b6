/- Texts joined. Conditions: as each theorem names them. -/
import Derived.Test.YtpjijpcemejlnaaGreatDoorM10
set_option maxRecDepth 100000
set_option maxHeartbeats 32000000
set_option linter.unusedVariables false
set_option linter.unusedSimpArgs false
namespace Go.Proofs.YtpjijpcemejlnaaGreatDoor
open Go.RowKit Go.Proofs.Tryz
def Qap(p:Q6):List Value:=[p.1,p.2]
def P3(w0:World)(v1 v2:Value)(w:World)(m:List Q6)(mv:Value):Prop:=
 Below w0 w0 w/\w0.heap.size+1<=w.heap.size/\w.cell? (w0,0)=some v1/\w.cell? (w0,1)=some v2/\w.cell? (w0,2)=some mv/\w.there w0 0 3 /\
  w.ownsRow (w0.heap.size+1) 202 2 mv m.length (m.flatMap Qap)
structure Vn(ab:Nat)(mv:Value)(w w':World)(mv':Value):Prop where
 size:w.heap.size<=w'.heap.size
 block:∀b,b<w.heap.size->b≠ab->some b≠mv.ownBlock->w'.heap[b]?=w.heap[b]?
 own:mv'.ownBlock=mv.ownBlock\/∃k,mv'.ownBlock=some k/\w.heap.size<=k
theorem Vn.refl(ab:Nat)(mv:Value)(w:World):Vn ab mv w w mv:=⟨Ao _,fun _ _ _ _=>rfl,.inl rfl⟩
theorem Vn.trans{ab:Nat}{v1 v2 v3:Value}{a b c:World}(h:Vn ab v1 a b v2)(k:Vn ab v2 b c v3):Vn ab v1 a c v3:=by
 refine⟨ae h.size k.size,fun x hx h1 h2=>(k.block x (ad hx h.size) h1 ?_).trans (h.block x hx h1 h2),?_⟩
 ·rcases h.own with e|⟨y,e,hy⟩
  ·rw[e];exact h2
  rw[e];intro he;injection he with he;omega
 rcases k.own with e|⟨y,e,hy⟩
 ·rw[e];exact h.own
 exact .inr ⟨y,e,ae h.size hy⟩
theorem Vn.cell{ab:Nat}{mv mv':Value}{w w':World}(h:Vn ab mv w w' mv'){b o:Nat}(hb:b<w.heap.size)(h1:b≠ab)(h2:some b≠mv.ownBlock):w'.cell? ⟨b,o,none⟩=w.cell? ⟨b,o,none⟩:=World.cell?_of_block (h.block b hb h1 h2)
theorem Vn.range{ab:Nat}{mv mv':Value}{w w':World}(h:Vn ab mv w w' mv'){b o:Nat}{cs:List Value}(hr:w.rangeAt b o cs)(hb:b<w.heap.size)(h1:b≠ab)(h2:some b≠mv.ownBlock):w'.rangeAt b o cs:=fun j v hv=>(h.cell hb h1 h2).trans (hr j v hv)
theorem P3.size{w0 w:World}{v1 v2 mv:Value}{m:List Q6}(h:P3 w0 v1 v2 w m mv):w0.heap.size<w.heap.size:=h.2.1
theorem P3.far{w0 w:World}{v1 v2 mv:Value}{m:List Q6}(h:P3 w0 v1 v2 w m mv):∀b,w.heap.size<=b->some b≠mv.ownBlock:=fun b hb e=>by
 have:=(h.2.2.2.2.2.2.lt b e.symm).2;omega
theorem P3.below{w0 w w':World}{v1 v2 mv:Value}{m:List Q6}(h:P3 w0 v1 v2 w m mv)(hb:Below w w w'):P3 w0 v1 v2 w' m mv:=by
 obtain⟨h1,h2,h3,h4,h5,h6,h7⟩:=h
 exact⟨h1.trans (hb.mono aH),ae h2 hb.size,(hb.cell (p:=⟨w0.heap.size,0,none⟩) (show w0.heap.size<_ by omega)).trans h3,(hb.cell (p:=⟨w0.heap.size,1,none⟩) (show w0.heap.size<_ by omega)).trans h4,
  (hb.cell (p:=⟨w0.heap.size,2,none⟩) (show w0.heap.size<_ by omega)).trans h5,Au h6 aH hb,Bl h7 hb⟩
theorem P3.push{w0 w w5:World}{v1 v2 mv mv5:Value}{m:List Q6}{p:Q6}(h:P3 w0 v1 v2 w m mv)(hown:w5.ownsRow (w0.heap.size+1) 202 2 mv5 (m.length+1) (m.flatMap Qap++Qap p))(hg:w.grownBy w5 mv.ownBlock)
  (hwh:mv5.ownBlock=mv.ownBlock\/∃k,mv5.ownBlock=some k/\w.heap.size<=k):
  P3 w0 v1 v2 (w5.setCell ⟨w0.heap.size,2,none⟩ mv5) (m++[p]) mv5/\Vn w0.heap.size mv w (w5.setCell ⟨w0.heap.size,2,none⟩ mv5) mv5:=by
 obtain⟨h1,h2,h3,h4,h5,h6,h7⟩:=h;have hb:Below (w0.heap.size+1) w w5:=(At _ _).grown hg h2 (fun k hk=>(h7.lt k hk).1);have h6':w5.there w0 0 3:=Au h6 (show w0.heap.size<w0.heap.size+1 by omega) hb;have hc:∀j,j≠2->(w5.setCell ⟨w0.heap.size,2,none⟩ mv5).cell? ⟨w0.heap.size,j,none⟩=w.cell? ⟨w0.heap.size,j,none⟩:=fun j hj=>by
  rw[World.cell?_setCell_other _ _ _ _ (by intro e;injection e with e1 e2;omega)];exact hb.cell (p:=⟨w0.heap.size,j,none⟩) (show w0.heap.size<_ by omega)
 refine⟨⟨(h1.trans (hb.mono aH)).setCell (Ao _) _,by simp;exact ae h2 hb.size,(hc 0 aL).trans h3,(hc 1 aL).trans h4,?_,aj h6' w0.heap.size 2 [_],?_⟩,?_⟩
 ·have:=ac w5 w0 2 [mv5] (J9 h6' 2 1 aL aL);exact(by simpa using Ac this 0 rfl:(w5.setCells w0 2 [mv5]).cell? (w0,2)=some mv5)
 ·rw[ai,List.flatMap_append];refine World.ownsRow.kept (show w5.ownsRow (w0.heap.size+1) 202 2 mv5 (m.length+[p].length) (m.flatMap Qap++[p].flatMap Qap)from by simpa using hown) (Pq w5 _ _) (.inr (fun e=>absurd (show w0.heap.size+1<=w0.heap.size from(hown.lt _ e).1) aH))
 refine⟨by simp;exact hg.size,fun b hb h1 h2=>?_,hwh⟩;rw[Below.heap_setCell _ _ _ _ h1];exact hg.block b hb h2
end Go.Proofs.YtpjijpcemejlnaaGreatDoor
