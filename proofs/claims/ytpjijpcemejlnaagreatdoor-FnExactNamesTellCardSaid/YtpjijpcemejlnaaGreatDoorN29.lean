/- Texts joined. Conditions: as each theorem names them. -/
import Derived.Test.YtpjijpcemejlnaaGreatDoorN11
set_option maxRecDepth 100000
set_option maxHeartbeats 32000000
set_option linter.unusedVariables false
set_option linter.unusedSimpArgs false
namespace Go.Proofs.YtpjijpcemejlnaaGreatDoor
open Go.RowKit Go.Proofs.Tryz
def Yv(p:Pm):List Value:=[p.1,p.2]
def Np(w0:World)(v1 v2:Value)(w:World)(m:List Pm)(mv:Value):Prop:=
 Below w0 w0 w/\w0.heap.size+1<=w.heap.size/\w.cell? (w0,0)=some v1/\w.cell? (w0,1)=some v2/\w.cell? (w0,2)=some mv/\w.there w0 0 3 /\
  w.ownsRow (w0.heap.size+1) 202 2 mv m.length (m.flatMap Yv)
structure Ry(ab:Nat)(mv:Value)(w w':World)(mv':Value):Prop where
 size:w.heap.size<=w'.heap.size
 block:∀b,b<w.heap.size->b≠ab->some b≠mv.ownBlock->w'.heap[b]?=w.heap[b]?
 own:mv'.ownBlock=mv.ownBlock\/∃k,mv'.ownBlock=some k/\w.heap.size<=k
theorem Ry.refl(ab:Nat)(mv:Value)(w:World):Ry ab mv w w mv:=⟨Ao _,fun _ _ _ _=>rfl,.inl rfl⟩
theorem Ry.trans{ab:Nat}{v1 v2 v3:Value}{a b c:World}(h:Ry ab v1 a b v2)(k:Ry ab v2 b c v3):Ry ab v1 a c v3:=by
 refine⟨ad h.size k.size,fun x hx h1 h2=>(k.block x (ac hx h.size) h1 ?_).trans (h.block x hx h1 h2),?_⟩
 ·rcases h.own with e|⟨y,e,hy⟩
  ·rw[e];exact h2
  rw[e];intro he;injection he with he;omega
 rcases k.own with e|⟨y,e,hy⟩
 ·rw[e];exact h.own
 exact .inr ⟨y,e,ad h.size hy⟩
theorem Ry.cell{ab:Nat}{mv mv':Value}{w w':World}(h:Ry ab mv w w' mv'){b o:Nat}(hb:b<w.heap.size)(h1:b≠ab)(h2:some b≠mv.ownBlock):w'.cell? ⟨b,o,none⟩=w.cell? ⟨b,o,none⟩:=World.cell?_of_block (h.block b hb h1 h2)
theorem Ry.range{ab:Nat}{mv mv':Value}{w w':World}(h:Ry ab mv w w' mv'){b o:Nat}{cs:List Value}(hr:w.rangeAt b o cs)(hb:b<w.heap.size)(h1:b≠ab)(h2:some b≠mv.ownBlock):w'.rangeAt b o cs:=fun j v hv=>(h.cell hb h1 h2).trans (hr j v hv)
theorem Np.size{w0 w:World}{v1 v2 mv:Value}{m:List Pm}(h:Np w0 v1 v2 w m mv):w0.heap.size<w.heap.size:=h.2.1
theorem Np.far{w0 w:World}{v1 v2 mv:Value}{m:List Pm}(h:Np w0 v1 v2 w m mv):∀b,w.heap.size<=b->some b≠mv.ownBlock:=fun b hb e=>by
 have:=(h.2.2.2.2.2.2.lt b e.symm).2;omega
theorem Np.below{w0 w w':World}{v1 v2 mv:Value}{m:List Pm}(h:Np w0 v1 v2 w m mv)(hb:Below w w w'):Np w0 v1 v2 w' m mv:=by
 obtain⟨h1,h2,h3,h4,h5,h6,h7⟩:=h
 exact⟨h1.trans (hb.mono aG),ad h2 hb.size,(hb.cell (p:=⟨w0.heap.size,0,none⟩) (show w0.heap.size<_ by omega)).trans h3,(hb.cell (p:=⟨w0.heap.size,1,none⟩) (show w0.heap.size<_ by omega)).trans h4,
  (hb.cell (p:=⟨w0.heap.size,2,none⟩) (show w0.heap.size<_ by omega)).trans h5,Ar h6 aG hb,Be h7 hb⟩
theorem Np.push{w0 w w5:World}{v1 v2 mv mv5:Value}{m:List Pm}{p:Pm}(h:Np w0 v1 v2 w m mv)(hown:w5.ownsRow (w0.heap.size+1) 202 2 mv5 (m.length+1) (m.flatMap Yv++Yv p))(hg:w.grownBy w5 mv.ownBlock)
  (hwh:mv5.ownBlock=mv.ownBlock\/∃k,mv5.ownBlock=some k/\w.heap.size<=k):
  Np w0 v1 v2 (w5.setCell ⟨w0.heap.size,2,none⟩ mv5) (m++[p]) mv5/\Ry w0.heap.size mv w (w5.setCell ⟨w0.heap.size,2,none⟩ mv5) mv5:=by
 obtain⟨h1,h2,h3,h4,h5,h6,h7⟩:=h;have hb:Below (w0.heap.size+1) w w5:=(At _ _).grown hg h2 (fun k hk=>(h7.lt k hk).1);have h6':w5.there w0 0 3:=Ar h6 (show w0.heap.size<w0.heap.size+1 by omega) hb;have hc:∀j,j≠2->(w5.setCell ⟨w0.heap.size,2,none⟩ mv5).cell? ⟨w0.heap.size,j,none⟩=w.cell? ⟨w0.heap.size,j,none⟩:=fun j hj=>by
  rw[World.cell?_setCell_other _ _ _ _ (by intro e;injection e with e1 e2;omega)];exact hb.cell (p:=⟨w0.heap.size,j,none⟩) (show w0.heap.size<_ by omega)
 refine⟨⟨(h1.trans (hb.mono aG)).setCell (Ao _) _,by simp;exact ad h2 hb.size,(hc 0 aJ).trans h3,(hc 1 aJ).trans h4,?_,ai h6' w0.heap.size 2 [_],?_⟩,?_⟩
 ·have:=aa w5 w0 2 [mv5] (Ja h6' 2 1 aJ aJ);exact(by simpa using Ac this 0 rfl:(w5.setCells w0 2 [mv5]).cell? (w0,2)=some mv5)
 ·rw[ah,List.flatMap_append];refine World.ownsRow.kept (show w5.ownsRow (w0.heap.size+1) 202 2 mv5 (m.length+[p].length) (m.flatMap Yv++[p].flatMap Yv)from by simpa using hown) (Nh w5 _ _) (.inr (fun e=>absurd (show w0.heap.size+1<=w0.heap.size from(hown.lt _ e).1) aG))
 refine⟨by simp;exact hg.size,fun b hb h1 h2=>?_,hwh⟩;rw[Below.heap_setCell _ _ _ _ h1];exact hg.block b hb h2
end Go.Proofs.YtpjijpcemejlnaaGreatDoor
