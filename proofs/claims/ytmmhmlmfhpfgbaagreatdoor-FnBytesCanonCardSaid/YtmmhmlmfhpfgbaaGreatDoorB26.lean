/- Texts joined. Conditions: as each theorem names them. -/
import Derived.Test.YtmmhmlmfhpfgbaaGreatDoorB22
set_option maxRecDepth 100000
set_option maxHeartbeats 32000000
set_option linter.unusedVariables false
set_option linter.unusedSimpArgs false
namespace Go.Proofs.YtmmhmlmfhpfgbaaGreatDoor
open Go.RowKit Go.Proofs.Tryz
section
attribute [local go_sem] Qra Qpu Qo3 Qmi ByteArray.mk_append_mk
structure Yz(w1:World)(cs:List Value)(al st:Bool)(ual:Value)(W:World):Prop where
 be:Below w1 w1 W
 a:al=true->∃B,ual=.pointer (some ⟨B,0,none⟩)/\w1.heap.size<=B/\B<W.heap.size/\W.there B 0 4/\(st=true->W.rangeAt B 0 cs)
section
variable {w1 W W':World} {cs:List Value} {al st:Bool} {ual:Value} {B:Nat}
theorem Yz.start:Yz w1 cs false st ual w1:=⟨Aq _ _,fun h=>Bool.noConfusion h⟩
theorem Yz.grow(h:Yz w1 cs al st ual W)(hb:Below W W W'):Yz w1 cs al st ual W':=
 ⟨h.be.trans (hb.mono h.be.size),fun ha=>by obtain⟨B,e,h1,h2,h3,h4⟩:=h.a ha;exact⟨B,e,h1,ac h2 hb.size,An h3 h2 hb,fun hs=>Ar (h4 hs) h2 hb⟩⟩
theorem Yz.alloc(h:Yz w1 cs al st ual W)(hst:st=false)(T:TypeId):Yz w1 cs true st W.heap.size (W.alloc (.cells #[.int .i64 0,a6,a6,a6] T)):=
 ⟨h.be.alloc h.be.size _,fun _=>⟨_,rfl,h.be.size,by simp,Cu W [.int .i64 0,a6,a6,a6] T,fun h=>absurd (hst.symm.trans h) aL⟩⟩
theorem Yz.store(h:Yz w1 cs al st ual W)(ha:al=true)(hc:cs.length=4):∃B,ual=.pointer (some ⟨B,0,none⟩)/\W.there B 0 4/\Yz w1 cs al true ual (W.setCells B 0 cs):=by
 obtain⟨B,e,h1,h2,h3,_⟩:=h.a ha;exact⟨B,e,h3,Ak _ h1 _ _ _ h.be,fun _=>⟨B,e,h1,by rw[Ch];exact h2,ai h3 _ _ _,fun _=>aa _ _ _ _ (by rw[hc];exact h3)⟩⟩
end
structure Qjn(w:World)(base T9:Nat)(y0 y1 y2 h0 h1:Value)(rs:List (Nat × Option SV))(wr:World)(tv kv:Value)(xs:List (Nat × SV)):Prop where
 bel:Below w w wr
 b0:wr.cell? (T9,0)=some y0
 b1:wr.cell? (T9,1)=some y1
 b2:wr.cell? (T9,2)=some y2
 lt:T9<base
 gt:w.heap.size<T9
 st:Eg base w.heap.size wr h0 h1 tv tv kv kv (rs.map (·.1)) xs
 eq:xs.map (·.2)=rs.filterMap (·.2)
theorem Qjn.after{w wr W:World}{base T9:Nat}{y0 y1 y2 h0 h1 tv kv:Value}{rs:List (Nat × Option SV)}{xs:List (Nat × SV)}(h:Qjn w base T9 y0 y1 y2 h0 h1 rs wr tv kv xs)(hb:Below wr wr W):Qjn w base T9 y0 y1 y2 h0 h1 rs W tv kv xs:=by
 have hl:T9<wr.heap.size:=ac h.lt h.st.bs;have hc:∀o,W.cell? ⟨T9,o,none⟩=wr.cell? ⟨T9,o,none⟩:=fun o=>hb.cell (p:=⟨T9,o,none⟩) hl;exact⟨h.bel.trans (hb.mono h.bel.size),(hc _).trans h.b0,(hc _).trans h.b1,(hc _).trans h.b2,h.lt,h.gt,h.st.after hb,h.eq⟩
theorem Qjn.push{w W9 W:World}{base T9:Nat}{y0 y1 y2 h0 h1 tv' kv kv':Value}{rs:List (Nat × Option SV)}{xs xs':List (Nat × SV)}{g:Nat}{o:Option SV}(h:Qjn w base T9 y0 y1 y2 h0 h1 rs W9 tv' kv xs)
  (hb:Below w W9 W) (hc:∀o,W.cell? ⟨T9,o,none⟩=W9.cell? ⟨T9,o,none⟩) {tv:Value} (hS:Eg base w.heap.size W h0 h1 tv tv kv' kv' (rs.map (·.1)++[g]) xs') (he:xs'.map (·.2)=rs.filterMap (·.2)++o.toList):
  Qjn w base T9 y0 y1 y2 h0 h1 (rs++[(g,o)]) W tv kv' xs':=
 ⟨h.bel.trans hb,(hc _).trans h.b0,(hc _).trans h.b1,(hc _).trans h.b2,h.lt,h.gt,by simpa using hS,by rw[he,List.filterMap_append];cases o<;>simp⟩
end
end Go.Proofs.YtmmhmlmfhpfgbaaGreatDoor
