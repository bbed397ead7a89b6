/- Texts joined. Conditions: as each theorem names them. -/
import Derived.Deep.MidRow
import Derived.Deep.AppendLies
import Derived.Test.YtpjijpcemejlnaaGreatDoorP07
set_option maxRecDepth 100000
set_option maxHeartbeats 32000000
set_option linter.unusedVariables false
set_option linter.unusedSimpArgs false
namespace Go.Proofs.YtpjijpcemejlnaaGreatDoor
open Go.RowKit Go.Proofs.Tryz
section
attribute [local go_sem] Qhy Qhh Qg3 Qfo ByteArray.mk_append_mk
theorem Qg4{s d x:List UInt8}:(((Mp (C4 s d) x).bind lvL).getD []).length<=401:=by
 cases hv:Mp (C4 s d) x with
 |none=>simp
 |some y=>
  obtain⟨S,k,_,_,_,_,_,hvok,hpr,hxl⟩:=Qn hv
  have h:=Xg 12 k y hvok
  rw[hpr]at h
  show ((lvL y).getD []).length<=401
  rw[Xk]
  split
  ·simp;omega
  simp
theorem M0(w:World)(s d x:List UInt8)
  (HS:∀W,Calls prog 19 #[.string ⟨s.toArray⟩,.string ⟨d.toArray⟩,.string ⟨x.toArray⟩] W (Pa ((Mp (C4 s d) x).bind lvL) W))
  (HI:∀W,Calls prog 20 #[.string ⟨s.toArray⟩,.string ⟨d.toArray⟩,.string ⟨x.toArray⟩] W (Pa ((Mp (C4 s d) x).bind lvL) W)):
  s.length<=1048576->d.length<=1048576->x.length<=1048576 ->
  Calls prog 5 #[.string ⟨s.toArray⟩,.string ⟨d.toArray⟩,.string ⟨x.toArray⟩] w fun e w'=>e=.returned (.bool true)/\Below w.heap.size w w':=by
  intro h1 h2 h3
  have hlen:=Qg4 (s:=s) (d:=d) (x:=x)
  have Hs:=Aa HS
  have Hi:=Aa HI
  clear HS HI
  unfold Pa at Hs Hi
  generalize (Mp (C4 s d) x).bind lvL=o at Hs Hi hlen
  obtain⟨ok,hok⟩:∃ok,ok=o.isSome:=⟨_,rfl⟩
  rw[<-hok]at Hs Hi
  clear hok
  generalize o.getD []=ts at *
  go_enter func5,ntmps5
  go_wp2_with fail
  refine(Hs.o _).mono ?_
  rintro e w1 ⟨B1,d1,he,own0,hb0⟩
  generalize Value.slice B1 ts.length d1=v0 at he own0
  subst he
  have hz0:=hb0.size
  have Own0:=Aa own0
  clear own0
  go_wp2_with fail
  refine(Hi.o _).mono ?_
  rintro e w2 ⟨B2,d2,he,own1,hb1⟩
  generalize Value.slice B2 ts.length d2=v1 at he own1
  subst he
  have hz1:=hb1.size
  have Own1:=Aa own1
  clear own1
  go_wp2_with fail
  refine(Qer _ _ _ _ v1 v0 ts ts w2 Own1.o (Ax Own0.o hb1)).mono ?_
  rintro e w3 ⟨rfl,q,rfl⟩
  go_wp2_with fail
  refine(Qeu _ _ 1 v1 ts (w2.drewN q) (by omega) Own1.o).mono ?_
  rintro e w4 ⟨rfl,own4,hg4⟩
  have Own4:=Aa own4
  clear own4
  have hz4:w2.heap.size<=w4.heap.size:=hg4.size
  have own04:=(show (w2.drewN q).ownsRow w.heap.size 9 1 v0 ts.length (Ag ts)from Ax Own0.o (below_drewN hb1 q)).kept hg4 (Qcs Own0.o Own1.o)
  have Own04:=Aa own04
  have hb4:Below w1.heap.size w1 w4:=(below_drewN hb1 q).grown hg4 hz1 (fun k hk=>(Own1.o.lt k hk).1)
  clear own04
  go_wp2_with fail
  refine(Yi _ _ 1 v1 w4 (by omega) Own4.o).mono ?_
  rintro e w5 ⟨rfl,hb5⟩
  go_wp2_with fail
  refine(Hi.o _).mono ?_
  rintro e w6 ⟨B6,d6,he,own6,hb6⟩
  generalize Value.slice B6 ts.length d6=v2 at he own6
  subst he
  have Own6:=Aa own6
  clear own6
  have hz5:=hb5.size
  have hz6:=hb6.size
  go_wp2_with fail
  refine(Qer _ _ _ _ v2 v0 ts ts w6 Own6.o (Ax (Ax Own04.o hb5) hb6)).mono ?_
  rintro e w7 ⟨rfl,q2,rfl⟩
  go_wp2_with fail
  refine(Yi _ _ 1 v1 (w6.drewN q2) (by omega) (show (w6.drewN q2).ownsRow _ _ _ _ _ _ from Ax (Ax Own4.o hb5) (below_drewN hb6 q2))).mono ?_
  rintro e w8 ⟨rfl,hb8⟩
  go_wp2_with fail
  go_ret
  refine⟨rfl,?_⟩
  have c1:Below w.heap.size w w4:=hb0.trans (hb4.mono hz0)
  have c2:Below w.heap.size w w6:=(c1.trans (hb5.mono c1.size)).trans (hb6.mono (Nat.le_trans c1.size hz5))
  exact(below_drewN c2 q2).trans (hb8.mono c2.size)
end
section
attribute [local go_sem] Qhh Qg3 Qfo
theorem Rj(s p:List UInt8):(s.take p.length == p)=p.isPrefixOf s:=by
 rw[Bool.eq_iff_iff,beq_iff_eq,List.isPrefixOf_iff_prefix,List.prefix_iff_eq_take];exact eq_comm
theorem Rm(s p:List UInt8)(h:¬p.length<=s.length):p.isPrefixOf s=false:=by
 rw[Bool.eq_false_iff,Ne,List.isPrefixOf_iff_prefix];intro hp;exact h hp.length_le
theorem Si(s p:List UInt8)(w:World):
  Calls prog 171 #[s,p] w fun e w'=>e=.returned (.bool (p.isPrefixOf s))/\w=w':=by
 by_cases h:p.length<=s.length
 ·have HS:=Aa (Rj s p);go_enter func171,ntmps171;go_wp2
  go_ret;exact⟨by rw[<-HS.o];rfl,rfl⟩
 have HS:=Aa (Rm s p h);go_enter func171,ntmps171;go_wp2
 go_ret;exact⟨by rw[HS.o];rfl,rfl⟩
theorem Ba{B:Nat}{w w':World}{b o:Nat}{cs:List Value}(h:w.rangeAt b o cs)(hb:b<B)(hw:Below B w w'):w'.rangeAt b o cs:=fun j v hv=>(hw.cell (p:=⟨b,o+j,none⟩) hb).trans (h j v hv)
theorem As{B:Nat}{w w':World}{b o n:Nat}(h:w.there b o n)(hb:b<B)(hw:Below B w w'):w'.there b o n:=fun j hj=>by
 rw[hw.cell (p:=⟨b,o+j,none⟩) hb,hw.frozen (p:=⟨b,o+j,none⟩) hb];exact h j hj
theorem Fo{w w':World}{b o:Nat}{cs:List Value}{row:Option Nat}(h:w.rangeAt b o cs)(hg:w.grownBy w' row)(hne:some b≠row):w'.rangeAt b o cs:=fun j v hv=>hg.cell (h j v hv) hne
theorem Fx{w w':World}{b o n:Nat}{row:Option Nat}(h:w.there b o n)(hg:w.grownBy w' row)(hb:b<w.heap.size)(hne:some b≠row):w'.there b o n:=fun j hj=>by
 rw[hg.cell_far ⟨b,o+j,none⟩ hb hne,hg.frozen_far ⟨b,o+j,none⟩ hb hne];exact h j hj
theorem H9{w:World}{b o n:Nat}(h:w.there b o n)(p m:Nat)(h1:o<=p)(h2:p+m<=o+n):w.there b p m:=fun j hj=>by
 have:=h (p+j - o) aG;rwa [show o+(p+j - o)=p+j by omega]at this
theorem Ch(w:World)(cs:List Value)(t:TypeId):(w.alloc (.cells cs.toArray t)).rangeAt w 0 cs:=fun j v hv=>by
 rw[World.cell?_alloc_new];simpa using hv
theorem Cx(w:World)(cs:List Value)(t:TypeId):(w.alloc (.cells cs.toArray t)).there w 0 cs.length:=fun j hj=>by
 refine⟨?_,by simp⟩;rw[World.cell?_alloc_new];simp;omega
theorem Af{B:Nat}{a:World}(b:Nat)(hb:B<=b):∀(vs:List Value) (o:Nat) (w:World),Below B a w->Below B a (w.setCells b o vs)
 |[],_,_,h=>h
 |v::r,o,w,h=>Af b hb r (o+1) _ (h.setCell hb v)
theorem C5(b:Nat):∀(vs:List Value) (o:Nat) (w:World),(w.setCells b o vs).heap.size=w.heap.size
 |[],_,_=>rfl
 |v::r,o,w=>by rw[World.setCells,C5 b r];simp
theorem Ac{w:World}{b o:Nat}{cs:List Value}(h:w.rangeAt b o cs)(j:Nat){v:Value}(hv:cs[j]?=some v):w.cell? ⟨b,o+j,none⟩=some v:=h j v hv
theorem Xb{w:World}{b o:Nat}(l1 l2 l3:List Value)(h:w.rangeAt b o (l1++(l2++l3))):w.rangeAt b (o+l1.length) l2:=fun j v hv=>by
 have hj:=(List.getElem?_eq_some_iff.1 hv).1;rw[Nat.add_assoc];exact h _ v (by rw[List.getElem?_append_right aG,Nat.add_sub_cancel_left,List.getElem?_append_left hj];exact hv)
theorem Cs{w:World}{b:Nat}(l1 l2 l3 l2':List Value)(h:w.rangeAt b 0 (l1++(l2++l3)))(hl:l2'.length=l2.length):(w.setCells b l1.length l2').rangeAt b 0 (l1++(l2'++l3)):=fun j v hv=>by
 have hjl:j<l1.length+(l2'.length+l3.length):=by
  have:=(List.getElem?_eq_some_iff.1 hv).1;simpa using this
 have hsome:∀i,i<l2'.length->(w.cell? ⟨b,l1.length+i,none⟩).isSome=true:=fun i hi=>by
  have e:(l1++(l2++l3))[l1.length+i]?=some (l2[i]' aG):=by
   rw[List.getElem?_append_right aG,List.getElem?_append_left aG,Nat.add_sub_cancel_left,List.getElem?_eq_getElem aG]
  have:=h _ _ e;rw[am]at this;rw[this];rfl
 rw[am];rcases aF j l1.length with h1|h1
 ·rw[World.cell?_setCells_out b l2' l1.length w ⟨b,j,none⟩ (fun _ _=>.inl h1)];rw[List.getElem?_append_left h1]at hv;have:=h j v (by rw[List.getElem?_append_left h1];exact hv);rwa [am]at this
 rw[List.getElem?_append_right h1]at hv;rcases aF (j - l1.length) l2'.length with h2|h2
 ·rw[List.getElem?_append_left h2,List.getElem?_eq_getElem h2]at hv;have:=World.cell?_setCells_in b l2' l1.length w hsome (j - l1.length) h2;rw[show l1.length+(j - l1.length)=j by omega]at this;rw[this];exact hv
 rw[World.cell?_setCells_out b l2' l1.length w ⟨b,j,none⟩ (fun _ _=>.inr (by show l1.length+l2'.length<=j;omega))];rw[List.getElem?_append_right h2]at hv;have:=h j v (by rw[List.getElem?_append_right h1,List.getElem?_append_right aG,<-hl];exact hv);rwa [am]at this
section
variable {P:Program}
theorem Ad{ops:Array Oper}{rest:List Oper}{op:Oper}{a:Act}{w:World}{Q:Exit->Act->World->Prop}(hgd:op.guard=none)(ty:TypeId)(x y:Operand)(ho:op.op=.store ty x y)
  (b o:Nat) (cs:List Value) (hx:a.eval x=.pointer (some ⟨b,o,none⟩)) (hy:a.eval y=.agg cs.toArray)
  (ht:w.there b o cs.length) (hi:(P.info? ty).map (·.size)=some cs.length) (h1:∀v∈cs,v.oneCell'=true)
  (h:∀w',Hid (w'=w.setCells b o cs)->wpList P ops Q rest (a.put op.dst undef) w'):wpList P ops Q (op::rest) a w:=
 wpList_store_mid hgd ty x y ho b o cs.toArray hx hy dz (by simpa using hi) (all_oneCell_toArray h1) (h _ rfl)
theorem Ao{fn:Func}{p q:Tmp}{ty:TypeId}(h:fn.results=#[.cell p ty,.tmp q])(tmps:Array Value)(w:World)(b:Nat)(cs:List Value)(d:TypeDesc)(x:Value)
  (hp:tmps.getD p undef=b) (hq:tmps.getD q undef=x) (hc:w.rangeAt b 0 cs) (hu:P.underlying ty=some d) (hd:d.isRow=true) (hi:(P.info? ty).map (·.size)=some cs.length):
  (results fn tmps).run P w=.ok (.tuple #[.agg cs.toArray,x]) w:=by
 have hp':tmps[p]?.getD undef=b:=dR;have hq':tmps[q]?.getD undef=x:=by simpa using hq
 simp[results,h,hp',hq',asAddr,run_loadVar_mid w b 0 ty cs d hc hu hd hi]
theorem Fa{fn:Func}{r p q:Tmp}{ty:TypeId}(h:fn.results=#[.tmp r,.cell p ty,.tmp q])(tmps:Array Value)(w:World)(b:Nat)(cs:List Value)(d:TypeDesc)(y x:Value)
  (hr:tmps.getD r undef=y) (hp:tmps.getD p undef=b) (hq:tmps.getD q undef=x) (hc:w.rangeAt b 0 cs) (hu:P.underlying ty=some d) (hd:d.isRow=true) (hi:(P.info? ty).map (·.size)=some cs.length):
  (results fn tmps).run P w=.ok (.tuple #[y,.agg cs.toArray,x]) w:=by
 have hp':tmps[p]?.getD undef=b:=dR;have hq':tmps[q]?.getD undef=x:=by simpa using hq
 have hr':tmps[r]?.getD undef=y:=dy;simp[results,h,hp',hq',hr',asAddr,run_loadVar_mid w b 0 ty cs d hc hu hd hi]
end
end
end Go.Proofs.YtpjijpcemejlnaaGreatDoor
