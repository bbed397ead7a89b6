/- Texts joined. Conditions: as each theorem names them. -/
import Derived.Laws.EntriesVeiled
import Derived.Test.YtkigmebejmmikaaGreatDoorQ03
import Derived.Test.YtkigmebejmmikaaGreatDoorQ04
import Derived.Test.YtkigmebejmmikaaGreatDoorQ09
import Derived.Test.YtkigmebejmmikaaGreatDoorQ11
import Derived.Test.YtkigmebejmmikaaGreatDoorQ13
set_option maxRecDepth 100000
set_option maxHeartbeats 32000000
set_option linter.unusedVariables false
set_option linter.unusedSimpArgs false
namespace Go.Proofs.YtkigmebejmmikaaGreatDoor
open Go.RowKit Go.Proofs.Tryz
section
attribute [local go_sem] Qja Qit Qib Qgw ByteArray.mk_append_mk
def Sf(B:Nat)(ls:List (List UInt8))(vo:Value)(w:World):Prop:=
 B+1<=w.heap.size/\w.cell? ⟨B,0,none⟩=some vo/\w.frozen? ⟨B,0,none⟩=false/\w.ownsRow (B+1) 9 1 vo ls.length (Ae ls)
structure Dk(B:Nat)(vo:Value)(w w':World)(vo':Value):Prop where
 os:w'.os=w.os
 tape:w'.tape=w.tape
 output:w'.output=w.output
 size:w.heap.size<=w'.heap.size
 block:∀b,b<w.heap.size->b≠B->some b≠vo.ownBlock->w'.heap[b]?=w.heap[b]?
 own:vo'.ownBlock=vo.ownBlock\/∃k,vo'.ownBlock=some k/\w.heap.size<=k
theorem Dk.of_gw{B:Nat}{vo vo':Value}{w w':World}(h:Gw vo vo' w w'):Dk B vo w w' vo':=⟨h.gr.os,h.gr.tape,h.gr.output,h.gr.size,fun b hb _ hne=>h.gr.block b hb hne,h.own⟩
theorem Dk.refl(B:Nat)(vo:Value)(w:World):Dk B vo w w vo:=.of_gw (Gw.refl vo w)
theorem Dk.of_below{B:Nat}{vo:Value}{w w':World}(h:Below w.heap.size w w'):Dk B vo w w' vo:=.of_gw (Gw.of h)
theorem Dk.trans{B:Nat}{v1 v2 v3:Value}{a b c:World}(h:Dk B v1 a b v2)(k:Dk B v2 b c v3):Dk B v1 a c v3:=by
 refine⟨k.os.trans h.os,k.tape.trans h.tape,k.output.trans h.output,Nat.le_trans h.size k.size,fun x hx h1 h3=>(k.block x (Nat.lt_of_lt_of_le hx h.size) h1 ?_).trans (h.block x hx h1 h3),?_⟩
 ·rcases h.own with e|⟨y,e,hy⟩
  ·rw[e];exact h3
  rw[e];intro he;injection he with he;omega
 rcases k.own with e|⟨y,e,hy⟩
 ·rw[e];exact h.own
 exact .inr ⟨y,e,Nat.le_trans h.size hy⟩
theorem Dk.set{B:Nat}(vo:Value)(w:World)(x:Value):Dk B vo w (w.setCell ⟨B,0,none⟩ x) vo:=
 ⟨rfl,rfl,rfl,by simp,fun k hk h1 _=>Below.heap_setCell w ⟨B,0,none⟩ x k h1,.inl rfl⟩
theorem Dk.cell{B:Nat}{vo vo':Value}{w w':World}(h:Dk B vo w w' vo'){b o:Nat}{u:Value}(hu:w.cell? ⟨b,o,none⟩=some u)(hb:b<w.heap.size)(h1:b≠B)(h3:some b≠vo.ownBlock):w'.cell? ⟨b,o,none⟩=some u:=(World.cell?_of_block (h.block b hb h1 h3)).trans hu
theorem Dk.under{B lo:Nat}{vo vo':Value}{w w':World}(h:Dk B vo w w' vo')(hl:lo<=w.heap.size)(hB:lo<=B)(hv:∀k,vo.ownBlock=some k->lo<=k):Below lo w w':=
 ⟨h.os,h.tape,h.output,h.size,fun k hk=>h.block k (Nat.lt_of_lt_of_le hk hl) (by omega) fun e=>by have:=hv k e.symm;omega⟩
theorem Sf.lt{B:Nat}{ls:List (List UInt8)}{vo:Value}{w:World}(h:Sf B ls vo w):∀k,vo.ownBlock=some k->B+1<=k/\k<w.heap.size:=fun k hk=>h.2.2.2.lt k hk
theorem Sf.below{B:Nat}{ls:List (List UInt8)}{vo:Value}{w w':World}(h:Sf B ls vo w)(hb:Below w.heap.size w w'):Sf B ls vo w':=by
 obtain⟨h1,h2,h3,h6⟩:=h
 exact⟨Nat.le_trans h1 hb.size,(hb.cell (p:=⟨B,0,none⟩) (show B<_ by omega)).trans h2,(hb.frozen (p:=⟨B,0,none⟩) (show B<_ by omega)).trans h3,Bf h6 hb⟩
theorem Qa0(w:World)(a:Addr)(v:Value):w.grownBy (w.setCell a v) (some a.block):=⟨rfl,rfl,rfl,by simp,fun k _ hne=>Below.heap_setCell w a v k (fun e=>hne (by rw[e]))⟩
def Ta(B n:Nat)(ls:List (List UInt8))(t:List UInt8)(vo:Value)(w:World):Bool->Bool->Bool->Value->Value->World->Prop
 |false,false,false,_,_,W=>Below w.heap.size w W
 |true,false,false,u3,_,W=>∃W0,Below w.heap.size w W0/\W=W0.alloc (.cells #[.string ⟨t.toArray⟩] 9)/\u3=.slice (some ⟨W0.heap.size,0,none⟩) 1 1
 |true,true,false,_,u4,W=>∃A c,u4=.slice A (n+1) c/\W.ownsRow (B+1) 9 1 (.slice A (n+1) c) (n+1) (Ae (ls++[t]))/\Gw vo (.slice A (n+1) c) w W
 |true,true,true,_,u4,W=>∃A c W2,u4=.slice A (n+1) c/\W2.ownsRow (B+1) 9 1 (.slice A (n+1) c) (n+1) (Ae (ls++[t]))/\Gw vo (.slice A (n+1) c) w W2/\W=W2.setCell ⟨B,0,none⟩ (.slice A (n+1) c)
 |_,_,_,_,_,_=>False
theorem Ta.kept{B n:Nat}{ls:List (List UInt8)}{t:List UInt8}{vo:Value}{w W:World}:∀{a b c:Bool} {u3 u4:Value},Ta B n ls t vo w a b c u3 u4 W->∃vo',Dk B vo w W vo'
 |false,false,false,_,_,h=>⟨_,Dk.of_below h⟩
 |true,false,false,_,_,⟨_,h,e,_⟩=>⟨_,by rw[e];exact Dk.of_below (h.alloc h.size _)⟩
 |true,true,false,_,_,⟨_,_,_,_,h⟩=>⟨_,Dk.of_gw h⟩
 |true,true,true,_,_,⟨_,_,_,_,_,h,e⟩=>⟨_,by rw[e];exact(Dk.of_gw h).trans (Dk.set _ _ _)⟩
 |false,true,_,_,_,h=>h.elim
 |false,false,true,_,_,h=>h.elim
 |true,false,true,_,_,h=>h.elim
def Qcn(B:Nat)(ok:Bool)(ls:List (List UInt8))(vo:Value)(w:World)(e:Ending)(w':World):Prop:=e=.returned (.bool ok)/\∃A n c,Sf B ls (.slice A n c) w'/\Dk B vo w w' (.slice A n c)
theorem Qae(B bs fb fo:Nat)(p:Value)(f:Fd)(y:Vl)(ysl:Value)(tx:List UInt8)(ok:Bool)(ls:List (List UInt8))(A0:Option Addr)(n0 c0:Nat)(w:World)(hst:Sf B ls (.slice A0 n0 c0) w)(hll:ls.length<=1000)
  (hp:w.cell? ⟨bs,0,none⟩=some p) (hbs:bs<w.heap.size) (hf:w.rangeAt fb fo (Qs f)) (hfb:fb<B) (hfl:f.name.length<=100) (htl:tx.length<=1000000) (hys:∃A n c,ysl=.slice A n c) (hpp:∃q,p=.pointer (some ⟨q,0,none⟩))
  (HF:∀W,Below w.heap.size w W->Calls prog 18 #[p,Fv f.kind,G1 y ysl] W fun e w'=>e=.returned (.tuple #[.string ⟨tx.toArray⟩,.bool ok])/\Below W.heap.size W w'):
  Calls prog 39 #[.pointer (some ⟨fb,fo,none⟩),G1 y ysl,.pointer (some ⟨bs,0,none⟩),.pointer (some ⟨B,0,none⟩)] w (Qcn B ok (ls++[f.name++58::tx]) (.slice A0 n0 c0) w):=by
 obtain⟨A7,n7,c7,rfl⟩:=hys
 obtain⟨q,rfl⟩:=hpp
 have f1:=Ac hf 1 rfl
 have f2:=Ac hf 2 rfl
 have f3:=Ac hf 3 rfl
 have f4:=Ac hf 4 rfl
 have hB1:B<w.heap.size:=by have:=hst.1;omega
 have Hst:=Aa hst
 have HF:=Aa HF
 clear hst hf
 unfold Fv G1 at *
 go_enter func39,ntmps39
 go_wp2_with fail
 generalize hwg:World.alloc w _=w1
 have hb1:Below w.heap.size w w1:=by rw[<-hwg];exact(As _ _).alloc (Ap _) _
 have y0:w1.cell? ⟨w.heap.size,0,none⟩=some (.int .u8 (y.what.toNat:Int)):=by rw[<-hwg];simp[go_sem]
 have y1:w1.cell? ⟨w.heap.size,1,none⟩=some (.string ⟨y.text.toArray⟩):=by rw[<-hwg];simp[go_sem]
 have y2:w1.cell? ⟨w.heap.size,2,none⟩=some (.int .i64 (y.tag:Int)):=by rw[<-hwg];simp[go_sem]
 have y3:w1.cell? ⟨w.heap.size,3,none⟩=some (.slice A7 n7 c7):=by rw[<-hwg];simp[go_sem]
 have l1:w.heap.size<w1.heap.size:=by rw[<-hwg];simp
 have p1:=(hb1.cell (p:=⟨bs,0,none⟩) hbs).trans hp
 have hfb':fb<w.heap.size:=by omega
 have g1:=(hb1.cell (p:=⟨fb,fo+1,none⟩) hfb').trans f1
 have g2:=(hb1.cell (p:=⟨fb,fo+2,none⟩) hfb').trans f2
 have g3:=(hb1.cell (p:=⟨fb,fo+3,none⟩) hfb').trans f3
 have g4:=(hb1.cell (p:=⟨fb,fo+4,none⟩) hfb').trans f4
 have m1:bs<w1.heap.size:=by omega
 have m2:fb<w1.heap.size:=by omega
 have Hb1:=Aa hb1
 clear hwg hb1 hp f1 f2 f3 f4
 refine rgB ?_
 iterate 6 refine sq ?_
 refine sqC (fun W hW=>HF.o W (Hb1.o.trans (hW.mono (by omega)))) ?_
 iterate 5 refine sq ?_
 refine dnB fun w2 HB=>?_
 have h1:=(HB.o.cell (p:=⟨fb,fo+1,none⟩) m2).trans g1
 have m3:fb<w2.heap.size:=Nat.lt_of_lt_of_le m2 HB.o.size
 have Hb2:=Aa (Hb1.o.trans (HB.o.mono (by omega)))
 have Hst2:=Aa (Hst.o.below Hb2.o)
 clear HB HF Hst y0 y1 y2 y3 p1 g1 g2 g3 g4 Hb1
 obtain⟨hz,k0,d0,hown⟩:=Hst2.o
 have hn0:n0=ls.length:=by obtain⟨_,_,e,_⟩:=Bh.own hown;injection e
 subst hn0
 have Hfl:=Aa (fun k hk=>hown.lt k hk)
 have Hown:=Aa hown
 have m4:B<w2.heap.size:=by omega
 have m5:fb≠B:=by omega
 have m6:some fb≠(Value.slice A0 ls.length c0).ownBlock:=fun e=>by have:=(Hfl.o _ e.symm).1;omega
 clear hown
 obtain⟨t,ht⟩:∃t,t=f.name++58::tx:=⟨_,rfl⟩
 have e58:ByteArray.mk (f.name++58::tx).toArray=ByteArray.mk t.toArray:=by rw[ht]
 have Ht:=Aa ht
 clear ht
 have z1:¬(9223372036854775807<f.name.length+1):=by omega
 have z2:¬(9223372036854775807<f.name.length+1+tx.length):=by omega
 have z3:¬(9223372036854775807<f.name.length+(tx.length+1)):=by omega
 have z4:¬(9223372036854775807<f.name.length+(1+tx.length)):=by omega
 go_wp2_with fail
 refine rgF (fun l u W=>Ta B ls.length ls t (.slice A0 ls.length c0) w2 (l 8) (l 9) (l 10) (u 8) (u 9) W) (fun _=>True) (fun _ _ _ _=>Ab) (As _ _).drew ?_
 refine Ku (fun x=>x=.slice A0 ls.length c0) (by
  intro l u W hl hp hF hG hi K hK
  have h4:=(hi.o 9 (by rfl)).1
  have hc:W.cell? ⟨B,0,none⟩=some (.slice A0 ls.length c0):=by
   have h:Ta B ls.length ls t (.slice A0 ls.length c0) w2 (l 8) (l 9) (l 10) (u 8) (u 9) W:=hF.o
   cases h3:l 8<;>cases h5:l 10<;>rw[h3,h4,h5]at h
   ·exact(h.cell (p:=⟨B,0,none⟩) m4).trans k0
   ·exact h.elim
   ·obtain⟨W0,hb,rfl,_⟩:=h
    exact((hb.alloc hb.size _).cell (p:=⟨B,0,none⟩) m4).trans k0
   exact h.elim
  clear h4 hp
  go_simp
  exact hK _ _ _ rfl hF.o rfl) ?_
 iterate 3 refine sq ?_
 refine Ku (fun x=>x=.string ⟨f.name.toArray⟩) (by
  intro l u W hl hp hF hG hi K hK
  simp[Region.binds,C7]at hp
  obtain⟨_,h⟩:=hF.o.kept
  have hc:=h.cell h1 m3 m5 m6
  clear h
  go_simp
  exact hK _ _ _ rfl hF.o (by simp[Act.put,hp])) ?_
 iterate 2 refine sq ?_
 refine Ku (fun x=>x=.string ⟨t.toArray⟩) (by
  intro l u W hl hp hF hG hi K hK
  simp[Region.binds,C7]at hp
  go_simp
  exact hK _ _ _ rfl hF.o (by simp[Act.put,hp])) ?_
 refine Ku (fun x=>True) (by
  intro l u W hl hp hF hG hi K hK
  have h4:=(hi.o 9 (by rfl)).1
  simp[Region.binds,C7]at hp
  have h:Ta B ls.length ls t (.slice A0 ls.length c0) w2 (l 8) (l 9) (l 10) (u 8) (u 9) W:=hF.o
  rw[hl,h4]at h
  cases h5:l 10<;>rw[h5]at h
  ·go_simp
   refine hK _ _ _ Ab ?_ (by simp[Act.put,hp];exact rfl)
   show Ta _ _ _ _ _ _ true (l 9) (l 10) _ _ _
   rw[h4,h5]
   exact⟨W,h,rfl,rfl⟩
  exact h.elim) ?_
 refine Ku (fun x=>True) (by
  intro l u W hl hp hF hG hi K hK
  have h5:=(hi.o 10 (by rfl)).1
  simp[Region.binds,C7]at hp
  have h:Ta B ls.length ls t (.slice A0 ls.length c0) w2 (l 8) (l 9) (l 10) (u 8) (u 9) W:=hF.o
  have h8:l 8=true:=by simp[hp]
  rw[hl,h5,h8]at h
  obtain⟨W0,hb,rfl,e3⟩:=h
  clear hG hi
  have hb':=Aa hb
  simp only[Region.wanted,if_true]
  refine Qj W0 (.tmp 19) (.tmp 27) 63 rfl (B+1) 9 (.string ⟨#[]⟩) 1 16 underlying63 Dl rfl (by decide) [.string ⟨t.toArray⟩] rfl (by simp[Value.oneCell']) (.slice A0 ls.length c0) ls.length (Ae ls) ?_ ?_ (Bf Hown.o hb) (by unfold maxLen;omega) (by omega) (by have:=hb.size;omega) ?_
  ·simp[hp];rfl
  ·simp[hp,e3];rfl
  intro v' w5 hown5 hg5 hwh5
  obtain⟨A5,c5,rfl,_⟩:=Bh.own hown5
  refine hK _ _ _ Ab ?_ rfl
  show Ta _ _ _ _ _ _ (l 8) true (l 10) _ _ _
  rw[h5,h8]
  refine⟨A5,c5,rfl,?_,?_⟩
  ·rw[Fx];exact hown5
  exact(Gw.of hb).trans ⟨hg5,hwh5⟩) ?_
 refine Ku (fun x=>True) (by
  intro l u W hl hp hF hG hi K hK
  simp[Region.binds,C7]at hp
  have h:Ta B ls.length ls t (.slice A0 ls.length c0) w2 (l 8) (l 9) (l 10) (u 8) (u 9) W:=hF.o
  have h4:l 9=true:=by simp[hp]
  rw[hl,h4]at h
  cases h3:l 8<;>rw[h3]at h
  ·exact h.elim
  obtain⟨A5,c5,e4,hown5,hg5⟩:=h
  have hne:some B≠(Value.slice A0 ls.length c0).ownBlock:=fun e=>by have:=(Hfl.o _ e.symm).1;omega
  have hc:W.cell? ⟨B,0,none⟩=some (.slice A0 ls.length c0):=hg5.gr.cell k0 hne
  have hf:W.frozen? ⟨B,0,none⟩=false:=(hg5.gr.frozen_far ⟨B,0,none⟩ m4 hne).trans d0
  clear hG hi
  go_simp
  refine hK undef _ _ Ab ?_ (by simp[Act.put,hp,e4])
  show Ta _ _ _ _ _ _ (l 8) (l 9) true _ _ _
  rw[h3,h4]
  exact⟨A5,c5,W,e4,hown5,hg5,by first|rfl|rw[e4]⟩) ?_
 intro l u W hl _ hR
 have h:Ta B ls.length ls t (.slice A0 ls.length c0) w2 (l 8) (l 9) (l 10) (u 8) (u 9) W:=hR
 rw[hl 8 (by decide),hl 9 (by decide),hl 10 (by decide)]at h
 obtain⟨A5,c5,W2,e4,hown5,hg5,hW⟩:=h
 have hne:some B≠(Value.slice A0 ls.length c0).ownBlock:=fun e=>by have:=(Hfl.o _ e.symm).1;omega
 have hc:W2.cell? ⟨B,0,none⟩=some (.slice A0 ls.length c0):=hg5.gr.cell k0 hne
 have hf:W2.frozen? ⟨B,0,none⟩=false:=(hg5.gr.frozen_far ⟨B,0,none⟩ m4 hne).trans d0
 have fin:Qcn B ok (ls++[t]) (.slice A0 ls.length c0) w (.returned (.bool ok)) W:=by
  refine⟨rfl,A5,ls.length+1,c5,⟨?_,?_,?_,?_⟩,((Dk.of_below Hb2.o).trans (Dk.of_gw hg5)).trans ?_⟩
  ·rw[hW];simp;have:=hg5.gr.size;omega
  ·rw[hW];simp[go_sem,hc,hf]
  ·rw[hW];simp[go_sem,hf]
  ·rw[hW]
   have:=hown5.kept (row:=some B) (Qa0 W2 ⟨B,0,none⟩ (.slice A5 (ls.length+1) c5)) (.inr fun e=>by have:=(hown5.lt _ e).1;omega)
   simpa using this
  rw[hW];exact Dk.set _ _ _
 rw[Ht.o]at fin
 have Fin:=Aa fin
 clear fin hR hW hown5 hg5 hc hf hl
 go_wp2_with fail
 go_ret
 exact Fin.o
def Nh(tx:List UInt8)(ok:Bool)(w:World)(e:Ending)(w':World):Prop:=e=.returned (.tuple #[.string ⟨tx.toArray⟩,.bool ok])/\Below w.heap.size w w'
def Qf6(S:List Ty)(d:Nat):Prop:=∀(k:Kd) (v:Vl),Jo S d k v->Co k->(Az v).length<=400->∀(P:Nat->Prop) (p sl:Value) (xs:List PT) (w:World),Qn w p xs->Ag xs=S->D8 P w sl v.kids ->
 Calls prog 18 #[p,Fv k,G1 v sl] w (Nh (Jt S d k v) (Cj S d k v) w)
structure FmE(w w3:World)(p:Value)(k:Kd)(v:Vl)(sl:Value):Prop where
 b:Below w.heap.size w w3
 l:w.heap.size+2<w3.heap.size
 p0:w3.cell? ⟨w.heap.size,0,none⟩=some p
 k0:w3.cell? ⟨w.heap.size+1,0,none⟩=some (.string ⟨k.signs.toArray⟩)
 k1:w3.cell? ⟨w.heap.size+1,1,none⟩=some (.string ⟨k.base.toArray⟩)
 k2:w3.cell? ⟨w.heap.size+1,2,none⟩=some (.string ⟨k.name.toArray⟩)
 v0:w3.cell? ⟨w.heap.size+2,0,none⟩=some (.int .u8 (v.what.toNat:Int))
 v1:w3.cell? ⟨w.heap.size+2,1,none⟩=some (.string ⟨v.text.toArray⟩)
 v2:w3.cell? ⟨w.heap.size+2,2,none⟩=some (.int .i64 (v.tag:Int))
 v3:w3.cell? ⟨w.heap.size+2,3,none⟩=some sl
theorem FmE.of{w w3:World}{t1 t2 t3:TypeId}{p:Value}{k:Kd}{v:Vl}{sl:Value}(h:((w.alloc (.cells #[p] t1)).alloc (.cells #[.string ⟨k.signs.toArray⟩,.string ⟨k.base.toArray⟩,.string ⟨k.name.toArray⟩] t2)).alloc (.cells #[.int .u8 (v.what.toNat:Int),.string ⟨v.text.toArray⟩,.int .i64 (v.tag:Int),sl] t3)=w3):FmE w w3 p k v sl:=by
 refine⟨?_,?_,?_,?_,?_,?_,?_,?_,?_,?_⟩<;>rw[<-h]
 ·exact(((As _ _).alloc (Ap _) _).alloc (by simp) _).alloc (by simp;omega) _
 all_goals simp[go_sem]
theorem FmE.below{w w3 w4:World}{p:Value}{k:Kd}{v:Vl}{sl:Value}(h:FmE w w3 p k v sl)(hb:Below w3.heap.size w3 w4):FmE w w4 p k v sl:=by
 have hl:=h.l
 have c:∀i j,i<=2->w4.cell? ⟨w.heap.size+i,j,none⟩=w3.cell? ⟨w.heap.size+i,j,none⟩:=fun i j hi=>hb.cell (p:=⟨w.heap.size+i,j,none⟩) (show w.heap.size+i<_ by omega)
 exact⟨h.b.trans (hb.mono h.b.size),Nat.lt_of_lt_of_le h.l hb.size,(c 0 0 (by omega)).trans h.p0,(c 1 0 (by omega)).trans h.k0,(c 1 1 (by omega)).trans h.k1,(c 1 2 (by omega)).trans h.k2,(c 2 0 (by omega)).trans h.v0,(c 2 1 (by omega)).trans h.v1,(c 2 2 (by omega)).trans h.v2,(c 2 3 (by omega)).trans h.v3⟩
theorem P4(P:Nat->Prop)(p:Value)(q:Nat)(hp:p=.pointer (some ⟨q,0,none⟩))(k:Kd)(hs:k.signs=[])(hb:k.base≠[64])(v:Vl)(hbd:Bd v)(sl:Value)(w:World)(h:D8 P w sl v.kids):
  Calls prog 18 #[p,Fv k,G1 v sl] w (Nh (Az v) true w):=by
 subst hp
 have HP:=Aa (fun W (hW:Below w.heap.size w W)=>Ts P hbd sl W (h.after hW))
 obtain⟨A,c,rfl⟩:=h.form
 have t1:(k.base != [64])=true:=by simpa using hb
 have t2:(k.base == [64])=false:=by simpa using hb
 unfold Fv
 unfold G1 at *
 rw[hs]
 clear hs h hb hbd
 go_enter func18,ntmps18
 go_wp2_with fail
 generalize hwg:World.alloc (World.alloc (World.alloc w _) _) _=w3
 have HE:=Aa (FmE.of (k:=⟨[],k.base,k.name⟩) (v:=v) hwg)
 clear hwg
 refine(D9 _ _ w3).mono ?_
 rintro e w4 ⟨rfl,hb4⟩
 obtain⟨hb,l3,_,_,k1,k2,v0,v1,v2,v3⟩:=HE.o.below hb4
 have Hb:=Aa hb
 simp only at k1 k2
 clear HE hb4 hb
 go_wp2_with fail
 refine(HP.o w4 Hb.o).mono ?_
 rintro e w5 ⟨rfl,hb5⟩
 have Hb5:=Aa (Hb.o.trans (hb5.mono Hb.o.size))
 clear hb5
 go_wp2_with fail
 go_ret2
 exact⟨rfl,Hb5.o⟩
theorem Qba{S:List Ty}(hS:∀t∈S,Dc t)(d:Nat)(ih:Qf6 S d)(k:Kd)(r:List UInt8)(hs:k.signs=91::r)(hk:Co k)(ks:List Vl)(h20:ks.length<=20)(hks:∀x∈ks,Jo S d k.part x)(hl:(Az (.mk 91 [] 0 ks)).length<=400)
  (P:Nat->Prop) (p sl:Value) (xs:List PT) (w:World) (hsc:Qn w p xs) (hxs:Ag xs=S) (hiv:D8 P w sl ks):
  Calls prog 18 #[p,Fv k,G1 (.mk 91 [] 0 ks) sl] w (Nh (Jt S (d+1) k (.mk 91 [] 0 ks)) (Cj S (d+1) k (.mk 91 [] 0 ks)) w):=by
 have HP:=Aa (fun W (hW:Below w.heap.size w W) (y:Vl) (hy:y∈ks) (ysl:Value) (hys:D8 P w ysl y.kids)=>ih k.part y (hks y hy) (Ks hk).1 (by
  have h:=Jx (List.mem_map_of_mem (f:=Az) hy)
  rw[Fr]at hl
  simp only[List.length_cons,List.length_append,Bb,List.length_nil]at hl
  omega) P p ysl xs W (hsc.below hW) hxs (hys.after hW))
 have hkl:=hk.2.2
 have hrl:r.length<=1000:=by unfold Bq at hkl;rw[hs]at hkl;simp at hkl;omega
 have HQ:=Aa (fun W=>N4 k W 91 r hs hrl)
 obtain⟨q,_,rfl,_⟩:=hsc.map
 have HF:=Aa (fun y (hy:y∈ks)=>And.intro (fun h=>Qbn (S:=S) (hks y hy) h) (Y6 hS (hks y hy)))
 have HO:=Aa (show Cj S (d+1) k (.mk 91 [] 0 ks)=ks.all (Cj S d k.part)by simp[Cj,Vl.what,Vl.kids])
 have HT:=Aa (show ks.all (Cj S d k.part)=true->Jt S (d+1) k (.mk 91 [] 0 ks)=91::(Ak 44 (ks.map (Gs S d k.part))++[93])from fun h=>by rw[Jg (by simp[Vl.what]) (by simp[Vl.what]),HO.o,h];simp[Gs,Vl.what,Vl.kids])
 have HN:=Aa (show ks.all (Cj S d k.part)=false->Jt S (d+1) k (.mk 91 [] 0 ks)=[]from fun h=>by rw[Jg (by simp[Vl.what]) (by simp[Vl.what]),HO.o,h];simp)
 have HLn:=Aa (show Cu (ks.map (Gs S d k.part))<=100000 by
  have:=Si (Gs S d k.part) Az ks fun y hy=>Qg hS _ _ _ (hks y hy)
  rw[Fr]at hl
  simp only[List.length_cons,List.length_append,Bb,List.length_nil]at hl
  omega)
 have HLp:=Aa (show ∀y∈ks,(Az y).length<=400 from fun y hy=>by
  have h:=Jx (List.mem_map_of_mem (f:=Az) hy)
  rw[Fr]at hl
  simp only[List.length_cons,List.length_append,Bb,List.length_nil]at hl
  omega)
 rw[HO.o]
 generalize Jt S (d+1) k (.mk 91 [] 0 ks)=out at *
 obtain⟨A9,c9,ys,rfl,hkv,hyl,hrow,hPr,hkid⟩:=hiv
 have Hrow:=Aa hrow
 have Hkid:=Aa hkid
 have Hkv:=Aa hkv
 have hlen:ys.length<=20:=by rw[hkv]at h20;simpa [Av]using h20
 have Hs:=Aa hs
 clear hs hsc ih hks hl hkl hrow hkid hkv hPr h20 HO
 unfold Fv at *
 unfold G1 at *
 simp only[Vl.what,Vl.text,Vl.tag]
 go_enter func18,ntmps18
 go_wp2_with fail
 generalize hwg:World.alloc (World.alloc (World.alloc w _) _) _=w3
 have HE:=Aa (FmE.of (k:=k) (v:=.mk 91 [] 0 ks) hwg)
 clear hwg
 have HSg:=Aa (Fm 91 r hrl ⟨k.base.toArray⟩ ⟨k.name.toArray⟩ w3)
 rw[<-Hs.o]at HSg
 refine HSg.o.mono ?_
 rintro e w4 ⟨rfl,hb4⟩
 have HE4:=Aa (HE.o.below hb4)
 obtain⟨hb,l3,p0,k0,k1,k2,v0,v1,v2,v3⟩:=HE.o.below hb4
 have Hb:=Aa hb
 clear HE hb4 hb HSg
 go_wp2_with fail
 go_loopw [26,8,10,11,12] (fun i u x10 x11 x12 wr=>∃(m:Nat) (A3:Option Addr) (n3 q3:Nat),i=.int .i64 m/\u=.slice A3 n3 q3/\m<=ys.length/\Hid (wr.ownsRow w4.heap.size 9 1 (.slice A3 n3 q3) m (Ae ((ys.take m).map fun y=>Gs S d k.part y.1)))/\Hid (Below w4.heap.size w4 wr)/\Hid ((ys.take m).all (fun y=>Cj S d k.part y.1)=true)) (fun i _ _ _ _ _=>ys.length - (intOf i).toNat)
 case atStart=>exact⟨0,none,0,0,rfl,rfl,Nat.zero_le _,World.ownsRow_nil _ _ _ _,As _ _,rfl⟩
 case round=>
  obtain⟨m,A3,n3,q3,rfl,rfl,hm,Hown,Hbr,Hall⟩:=hrel
  have m1:(0:Int)<=(m:Int):=by omega
  by_cases hlt:m<ys.length
  ·have m2:(m:Int)<(ys.length:Int):=by omega
   have hbw:Below w.heap.size w wr:=Hb.o.trans (Hbr.o.mono Hb.o.size)
   obtain⟨b,off,rfl,hb5,d0,d1,d2,d3⟩:=D8.at_ (Hrow.o.below hbw) hlt
   have Hts:=Aa (Bn ys m hlt)
   obtain⟨_,l3r,p0r,k0r,k1r,k2r,_,_,_,_⟩:=HE4.o.below Hbr.o
   have hsz:w4.heap.size<=wr.heap.size:=Hbr.o.size
   have hbn:¬(b=wr.heap.size):=by omega
   have hym:ys[m].1∈ks:=by rw[Hkv.o];exact List.mem_map_of_mem (List.getElem_mem hlt)
   have Hym:=Aa hym
   have Hkm:=Aa (Hkid.o _ (List.getElem_mem hlt))
   obtain⟨A7,c7,e7⟩:=Hkm.o.form
   rw[e7]at d3
   have E7:=Aa e7
   have HFm:=Aa (HF.o _ hym)
   have hol:(Az ys[m].1).length<=400:=HLp.o _ hym
   have HPm:=Aa (fun W (hW:Below w.heap.size w W)=>HP.o W hW _ hym _ Hkm.o)
   rw[E7.o]at HPm
   clear hym e7
   obtain⟨y,hy⟩:∃y,y=ys[m].1:=⟨_,rfl⟩
   rw[<-hy]at d0 d1 d2 d3 HFm HPm Hym hol
   have Hy:=Aa hy
   clear hy
   obtain⟨tx,htx⟩:∃tx,tx=Jt S d k.part y:=⟨_,rfl⟩
   obtain⟨okm,hok⟩:∃o,o=Cj S d k.part y:=⟨_,rfl⟩
   rw[<-htx,<-hok]at HFm HPm
   have Hok:=Aa hok
   clear htx hok
   have htl:tx.length<=8000:=by have:=HFm.o.2;omega
   go_wp2_with fail
   generalize hwk:World.alloc wr _=wk
   have hbk:Below wr.heap.size wr wk:=by rw[<-hwk];exact(As _ _).alloc (Ap _) _
   have y0:wk.cell? ⟨wr.heap.size,0,none⟩=some (.int .u8 (y.what.toNat:Int)):=by rw[<-hwk];simp[go_sem]
   have y1:wk.cell? ⟨wr.heap.size,1,none⟩=some (.string ⟨y.text.toArray⟩):=by rw[<-hwk];simp[go_sem]
   have y2:wk.cell? ⟨wr.heap.size,2,none⟩=some (.int .i64 (y.tag:Int)):=by rw[<-hwk];simp[go_sem]
   have y3:wk.cell? ⟨wr.heap.size,3,none⟩=some (.slice A7 y.kids.length c7):=by rw[<-hwk];simp[go_sem]
   have ly:wr.heap.size<wk.heap.size:=by rw[<-hwk];simp
   clear hwk
   obtain⟨_,l3k,p0k,k0k,k1k,k2k,_,_,_,_⟩:=(HE4.o.below Hbr.o).below hbk
   have l0k:w.heap.size<wk.heap.size:=by omega
   have l1k:w.heap.size+1<wk.heap.size:=by omega
   have Hbk:=Aa hbk
   clear hbk p0r k0r k1r k2r d0 d1 d2 d3 l3r
   refine rgB ?_
   iterate 2 refine sq ?_
   refine sqC (fun W hW=>HQ.o W) ?_
   refine sq ?_
   refine sqC (fun W hW=>HPm.o W (hbw.trans ((Hbk.o.trans (hW.mono Hbk.o.size)).mono hbw.size))) ?_
   iterate 5 refine sq ?_
   refine dnB fun w5 HB=>?_
   have hs5:w4.heap.size<=w5.heap.size:=by have:=Hbk.o.size;have:=HB.o.size;omega
   have Hb5:=Aa (Hbr.o.trans ((Hbk.o.trans (HB.o.mono Hbk.o.size)).mono hsz))
   have Ho5:=Aa (Bf Hown.o (Hbk.o.trans (HB.o.mono Hbk.o.size)))
   clear HB Hbk y0 y1 y2 y3 p0k k0k k1k k2k ly l3k l0k l1k HPm hbn hb5
   cases okm with
   |false=>
    have Hx:=Aa (show ks.all (Cj S d k.part)=false by rw[List.all_eq_false];exact⟨y,Hym.o,by rw[<-Hok.o];simp⟩)
    have Hb6:=Aa (Hb.o.trans (Hb5.o.mono Hb.o.size))
    go_wp2_with fail
    go_ret2
    rw[Hx.o,HN.o Hx.o]
    exact⟨rfl,Hb6.o⟩
   |true=>
    have Htx:=Aa (HFm.o.1 rfl)
    have Hall2:=Aa (show (ys.take (m+1)).all (fun y=>Cj S d k.part y.1)=true by rw[Hts.o,List.all_append,Hall.o];simp[<-Hy.o,<-Hok.o])
    go_wp2_with (at_builtin;refine Gt _ rfl _ _ 63 rfl w4.heap.size 9 (.string ⟨#[]⟩) 16 underlying63 Dl rfl w5 (.string ⟨tx.toArray⟩) rfl rfl (.slice A3 n3 q3) m (Ae ((ys.take m).map fun y=>Gs S d k.part y.1)) rfl rfl Ho5.o (by unfold maxLen;omega) (by omega) hs5 ?_;intro v' w6 hown6 hb6;obtain⟨A5,n5,c5,rfl⟩:=H8 hown6;have Ho:=Aa hown6;have Hb6:=Aa hb6;clear hown6 hb6)
    go_roundw
    case rel=>exact⟨m+1,A5,n5,c5,by go_num,rfl,by omega,(by rw[Hts.o,List.map_append,Fx];show World.ownsRow _ _ _ _ _ _ (_++Ae [Gs S d k.part ys[m].1]);rw[<-Hy.o,<-Htx.o];exact Ho.o),Hb5.o.trans Hb6.o,Hall2.o⟩
    case measure=>simp[intOf];omega
  ·obtain rfl:m=ys.length:=by omega
   have hown6:=Hown.o
   rw[List.take_length]at hown6
   obtain⟨A6,c6,e6,hr6⟩:=Bh.own hown6
   have hcap:=Sk hown6
   injection e6 with e7 e8 e9
   subst e7 e8 e9
   have hpl:(ys.map fun y=>Gs S d k.part y.1).length=ys.length:=by simp
   have hka:ks.all (Cj S d k.part)=true:=by
    have:=Hall.o
    rw[List.take_length]at this
    rw[Hkv.o,Av,List.all_map]
    exact this
   have hkm:ks.map (Gs S d k.part)=ys.map fun y=>Gs S d k.part y.1:=by rw[Hkv.o,Av,List.map_map];rfl
   obtain⟨jn,hjn⟩:∃j,j=Ak 44 (ks.map (Gs S d k.part)):=⟨_,rfl⟩
   have hjl:jn.length<=100000:=by rw[hjn,Bb];have:=HLn.o;omega
   have HJ:=Aa (by
    have:=Qbh 44 A3 q3 (ys.map fun y=>Gs S d k.part y.1) wr (by rw[hpl];exact hr6) (by rw[hpl];omega) (by rw[<-hkm];have:=HLn.o;omega)
    rw[hpl,<-hkm,<-hjn]at this
    exact this:Calls prog 37 #[.slice A3 ys.length q3,.string ⟨#[44]⟩] wr fun e w'=>e=.returned (.string ⟨jn.toArray⟩)/\Below wr.heap.size wr w')
   have Hka:=Aa hka
   have Hout:=Aa (HT.o hka)
   rw[<-hjn]at Hout
   have Hb6:=Aa (Hb.o.trans (Hbr.o.mono Hb.o.size))
   clear hown6 hr6 hcap hpl Hown hka hkm hjn HF HP
   go_wp2_with fail
   refine HJ.o.mono ?_
   rintro e w7 ⟨rfl,hb7⟩
   have Hb7:=Aa (Hb6.o.trans (hb7.mono Hb6.o.size))
   clear hb7
   go_wp2_with fail
   go_ret2
   rw[Hka.o,Hout.o]
   exact⟨by simp,Hb7.o⟩
theorem V6{S:List Ty}(hS:∀t∈S,Dc t)(d:Nat)(ih:Qf6 S d)(k:Kd)(r:List UInt8)(hs:k.signs=63::r)(hk:Co k)(ks:List Vl)(hks:ks=[]\/∃x,ks=[x]/\Jo S d k.part x)(hl:(Az (.mk 63 [] 0 ks)).length<=400)
  (P:Nat->Prop) (p sl:Value) (xs:List PT) (w:World) (hsc:Qn w p xs) (hxs:Ag xs=S) (hiv:D8 P w sl ks):
  Calls prog 18 #[p,Fv k,G1 (.mk 63 [] 0 ks) sl] w (Nh (Jt S (d+1) k (.mk 63 [] 0 ks)) (Cj S (d+1) k (.mk 63 [] 0 ks)) w):=by
 have hkl:=hk.2.2
 have hrl:r.length<=1000:=by unfold Bq at hkl;rw[hs]at hkl;simp at hkl;omega
 have HQ:=Aa (fun W=>N4 k W 63 r hs hrl)
 obtain⟨q,_,rfl,_⟩:=hsc.map
 obtain⟨sg,hsg,hsgv⟩:∃sg:Int,(∀W,Calls prog 35 #[Fv k.part] W fun e w'=>e=.returned (.int .u8 sg)/\Below W.heap.size W w')/\(sg == 63)=decide (k.part.signs.head?=some 63):=by
  cases hp:k.part.signs with
  |nil=>exact⟨0,fun W=>by unfold Fv;rw[hp];exact D9 _ _ W,by simp⟩
  |cons c t=>
   have hpr:k.part.signs=r:=by unfold Kd.part;rw[hs];rfl
   have ht:t.length<=1000:=by rw[hpr]at hp;rw[hp]at hrl;simp at hrl;omega
   refine⟨(c.toNat:Int),fun W=>by unfold Fv;rw[hp];exact Fm c t ht _ _ W,?_⟩
   rw[List.head?_cons,Bool.eq_iff_iff,beq_iff_eq,decide_eq_true_iff]
   exact⟨fun h=>congrArg some (UInt8.toNat_inj.1 (by show c.toNat=63;omega)),fun h=>by injection h with h;rw[h];rfl⟩
 have HSg2:=Aa hsg
 have HR:=Aa (show Jt S (d+1) k (.mk 63 [] 0 ks)=if k.part.signs.head?=some 63 then[]else match ks with|[]=>V7|x::_=>Jt S d k.part x by simp[Jt,Vl.what,Vl.kids]<;>rfl)
 have HO:=Aa (show Cj S (d+1) k (.mk 63 [] 0 ks)=(decide (k.part.signs.head?≠some 63) && ks.all (Cj S d k.part))by simp[Cj,Vl.what,Vl.kids])
 generalize Jt S (d+1) k (.mk 63 [] 0 ks)=out at *
 generalize Cj S (d+1) k (.mk 63 [] 0 ks)=oko at *
 have HP:=Aa (fun W (hW:Below w.heap.size w W) (y:Vl) (hy:ks=[y]) (ysl:Value) (hys:D8 P w ysl y.kids)=>ih k.part y (by
  rcases hks with h|⟨x,h,h2⟩
  ·rw[h]at hy;cases hy
  ·rw[h]at hy;injection hy with hy;rw[<-hy];exact h2) (Ks hk).1 (by
  rw[hy]at hl
  simp[Az,Dx,E8,Ak]at hl
  omega) P (.pointer (some ⟨q,0,none⟩)) ysl xs W (hsc.below hW) hxs (hys.after hW))
 obtain⟨A9,c9,ys,rfl,hkv,hyl,hrow,hPr,hkid⟩:=hiv
 have Hkid:=Aa hkid
 have Hkv:=Aa hkv
 have hy1:ys.length<=1:=by
  have:=congrArg List.length hkv
  rw[Av,List.length_map]at this
  rcases hks with h|⟨x,h,_⟩<;>rw[h]at this<;>simp at this<;>omega
 have Hs:=Aa hs
 obtain⟨n,hn⟩:∃n,n=ys.length:=⟨_,rfl⟩
 rw[<-hn]at hrow hy1 ⊢
 have Hrow:=Aa hrow
 have Hn:=Aa hn
 have enter:∀hd:Bool,decide (k.part.signs.head?=some 63)=hd->Calls prog 18 #[.pointer (some ⟨q,0,none⟩),Fv k,G1 (.mk 63 [] 0 ks) (.slice A9 n c9)] w (Nh out oko w):=by
  intro hd hhd
  rw[hhd]at hsgv
  have Hhd:=Aa hhd
  clear hhd hn hks hkl hl ih hs hsg hrow hPr hkid hkv hsc
  unfold Fv at *
  unfold G1 at *
  simp only[Vl.what,Vl.text,Vl.tag]
  have hsgn:decide (sg=63)=hd:=by rw[<-hsgv,Bool.eq_iff_iff];simp
  go_enter func18,ntmps18
  go_wp2_with fail
  generalize hwg:World.alloc (World.alloc (World.alloc w _) _) _=w3
  have HE:=Aa (FmE.of (k:=k) (v:=.mk 63 [] 0 ks) hwg)
  clear hwg
  have HSg:=Aa (Fm 63 r hrl ⟨k.base.toArray⟩ ⟨k.name.toArray⟩ w3)
  rw[<-Hs.o]at HSg
  refine HSg.o.mono ?_
  rintro e w4 ⟨rfl,hb4⟩
  have HE4:=Aa (HE.o.below hb4)
  obtain⟨hb,l3,p0,k0,k1,k2,v0,v1,v2,v3⟩:=HE.o.below hb4
  have Hb:=Aa hb
  clear HE hb4 hb HSg
  go_wp2_with fail
  refine(HQ.o w4).mono ?_
  rintro e w5 ⟨rfl,hb5⟩
  have Hb5:=Aa hb5
  clear hb5 p0 k0 k1 k2 v0 v1 v2 v3
  go_wp2_with fail
  refine(HSg2.o w5).mono ?_
  rintro e w6 ⟨rfl,hb6⟩
  have HE6:=Aa ((HE4.o.below Hb5.o).below hb6)
  obtain⟨hb,l6,p0,k0,k1,k2,v0,v1,v2,v3⟩:=(HE4.o.below Hb5.o).below hb6
  have Hb6:=Aa hb
  clear hb6 hb HE4 Hb5 Hb l3
  cases hd with
  |true=>
   have h1:=of_decide_eq_true Hhd.o
   have HR2:=Aa (HR.o.trans (if_pos h1))
   have HO2:=Aa (HO.o.trans (by rw[h1];rfl:_=false))
   clear h1
   go_wp2_with fail
   go_ret2
   rw[HR2.o,HO2.o]
   exact⟨rfl,Hb6.o⟩
  |false=>
   have h1:=of_decide_eq_false Hhd.o
   have HR2:=Aa (HR.o.trans (if_neg h1))
   have HO2:=Aa (HO.o.trans (by rw[decide_eq_true h1,Bool.true_and]:_=ks.all (Cj S d k.part)))
   clear h1
   obtain rfl|rfl:n=0\/n=1:=by omega
   ·have hn:ks=[]:=by rw[Hkv.o,List.eq_nil_of_length_eq_zero Hn.o.symm];rfl
    have HR3:=Aa (HR2.o.trans (by rw[hn]:_=V7))
    have HO3:=Aa (HO2.o.trans (by rw[hn];rfl:_=true))
    clear hn
    go_wp2_with fail
    go_ret2
    rw[HR3.o,HO3.o]
    exact⟨rfl,Hb6.o⟩
   obtain⟨z,rfl⟩:∃z,ys=[z]:=List.length_eq_one_iff.1 Hn.o.symm
   have hn:ks=[z.1]:=Hkv.o
   have HR3:=Aa (HR2.o.trans (by rw[hn]:_=Jt S d k.part z.1))
   have HO3:=Aa (HO2.o.trans (by rw[hn];simp:_=Cj S d k.part z.1))
   obtain⟨b,off,rfl,hb7,d0,d1,d2,d3⟩:=D8.at_ (xs:=[z]) (i:=0) (Hrow.o.below Hb6.o) (by simp)
   simp only[List.getElem_cons_zero,Nat.zero_mul,Nat.add_zero]at d0 d1 d2 d3
   have Hkm:=Aa (Hkid.o z (by simp))
   obtain⟨A7,c7,e7⟩:=Hkm.o.form
   have HPm:=Aa (fun W (hW:Below w.heap.size w W)=>HP.o W hW _ hn _ Hkm.o)
   rw[e7]at d3 HPm
   clear e7 hn HR HR2 HO HO2 Hkm
   generalize Jt S d k.part z.1=tx at *
   generalize Cj S d k.part z.1=okm at *
   generalize z.1=y at *
   have l0:w.heap.size<w6.heap.size:=by omega
   have l1:w.heap.size+1<w6.heap.size:=by omega
   go_wp2_with fail
   refine rgB ?_
   iterate 2 refine sq ?_
   refine sqC (fun W hW=>HQ.o W) ?_
   iterate 4 refine sq ?_
   refine sqC (fun W hW=>HPm.o W (Hb6.o.trans (hW.mono Hb6.o.size))) ?_
   iterate 4 refine sq ?_
   refine dnB fun w7 HB=>?_
   have Hb7:=Aa (Hb6.o.trans (HB.o.mono Hb6.o.size))
   clear HB
   go_wp2_with fail
   go_ret2
   rw[HR3.o,HO3.o]
   exact⟨rfl,Hb7.o⟩
 exact enter _ rfl
theorem Qc5{S:List Ty}(hS:∀t∈S,Dc t)(d:Nat)(k:Kd)(hs:k.signs=[])(hbs:k.base=[64])(hk:Co k)(f:Fd)
  (P:Nat->Prop) (p sl:Value) (xs:List PT) (w:World) (hsc:Qn w p xs) (hxs:Ag xs=S) (x:PT) (hx:Ej xs k.name=some x) (h9:x.ty.sort=69) (hf:Bg x.ty.fields f.tag=some f) (hiv:D8 P w sl []):
  Calls prog 18 #[p,Fv k,G1 (.mk 69 [] f.tag []) sl] w (Nh (Jt S (d+1) k (.mk 69 [] f.tag [])) (Cj S (d+1) k (.mk 69 [] f.tag [])) w):=by
 obtain⟨A9,c9,rfl⟩:=hiv.form
 have ht:By S k.name=some x.ty:=by rw[<-hxs,Gb,hx];rfl
 have hfo:=(hS x.ty (Bs ht).1).2.2.1.1 f (Bk hf).2
 have hfl:f.name.length<=3:=(C9.1 hfo.2.2.1).2.1
 have hft:f.tag<=1000000000:=by have:=hfo.2.1;omega
 have HO:=Aa (show Cj S (d+1) k (.mk 69 [] f.tag [])=true by simp[Cj,Vl.what])
 have HR:=Aa (show Jt S (d+1) k (.mk 69 [] f.tag [])=34::(f.name++[34])by rw[Jg (by simp[Vl.what]) (by simp[Vl.what]),HO.o];simp[Gs,Vl.what,Vl.tag,Eu ht hf])
 generalize Jt S (d+1) k (.mk 69 [] f.tag [])=out at *
 generalize Cj S (d+1) k (.mk 69 [] f.tag [])=oko at *
 obtain⟨fb,fo,hfb,hfr,hX⟩:=Qm w x (hsc.tys x (Dz hx).1) f.tag hft f hf
 have f1:=Ac hfr 1 rfl
 have HX:=Aa hX
 simp only[List.length_nil]at *
 clear hX hfr hfo ht hf hiv hxs hS
 have hkl:=Gp hk
 obtain⟨q,mb,rfl,hq,hm,hnm⟩:=hsc.map
 have hix:=hsc.tys x (Dz hx).1
 obtain⟨hy0,_,hy1,_⟩:=id hix
 have HL:=Aa (fun W (hW:Below w.heap.size w W)=>Fa (Di.below hnm hW) k.name (by omega))
 rw[hx]at HL
 unfold Rc PT.ptr at HL
 have Hix:=Aa hix
 have Hsc:=Aa hsc
 have Hs:=Aa hs
 have t1:(k.base != [64])=false:=by simp[hbs]
 have t2:(k.base == [64])=true:=by simp[hbs]
 have Hsc2:=Aa hsc
 rw[h9]at hy1
 clear hs hbs hsc hnm hk h9 hix
 unfold Fv at *
 unfold G1 at *
 simp only[Vl.what,Vl.text,Vl.tag]
 go_enter func18,ntmps18
 go_wp2_with fail
 generalize hwg:World.alloc (World.alloc (World.alloc w _) _) _=w3
 have HE:=Aa (FmE.of (k:=k) (v:=.mk 69 [] f.tag []) hwg)
 clear hwg
 have HSg:=Aa (D9 ⟨k.base.toArray⟩ ⟨k.name.toArray⟩ w3)
 rw[<-Hs.o]at HSg
 refine HSg.o.mono ?_
 rintro e w4 ⟨rfl,hb4⟩
 have HE4:=Aa (HE.o.below hb4)
 obtain⟨hb,l3,p0,k0,k1,k2,v0,v1,v2,v3⟩:=HE.o.below hb4
 have Hb:=Aa hb
 have q1:=(hb.cell (p:=⟨q,1,none⟩) hq).trans hm
 have y0:=(hb.cell (p:=⟨x.blk,0,none⟩) hy0).trans hy1
 have l4:q<w4.heap.size:=by omega
 have l5:x.blk<w4.heap.size:=by omega
 have l6:w.heap.size<w4.heap.size:=by omega
 have l7:w.heap.size+1<w4.heap.size:=by omega
 clear HE hb4 hb HSg hm hy1
 go_wp2_with fail
 refine rgB ?_
 iterate 6 refine sq ?_
 refine Ku (fun v=>v=.pointer (some ⟨x.blk,0,none⟩)) ?_ ?_
 ·intro l u W hl hp hF hG hi K hK
  have hlk:=HL.o W (Hb.o.trans (hF.o.mono Hb.o.size))
  unfold Ei at hG
  simp[Region.binds,C7]at hp
  go_simp
  exact hK _ _ _ rfl hF.o (by simp[Act.put,hp])
 refine sq ?_
 refine dnB fun w5 HB=>?_
 have HE5:=Aa (HE4.o.below HB.o)
 have Hb5:=Aa (Hb.o.trans (HB.o.mono Hb.o.size))
 replace y0:=(HB.o.cell (p:=⟨x.blk,0,none⟩) l5).trans y0
 replace l5:=Nat.lt_of_lt_of_le l5 HB.o.size
 clear HB HL HE4 Hb p0 k0 k1 k2 v0 v1 v2 v3 q1 l3 l4 l6 l7
 obtain⟨_,l3,p0,k0,k1,k2,v0,v1,v2,v3⟩:=HE5.o
 clear p0 k0 k1 k2 v0 v1 v3
 go_wp2_with fail
 have HXw:=Aa (HX.o w5 Hb5.o)
 refine HXw.o.mono ?_
 rintro e w6 ⟨rfl,rfl⟩
 have g1:=(Hb5.o.cell (p:=⟨fb,fo+1,none⟩) hfb).trans f1
 have g2:fb<w5.heap.size:=Nat.lt_of_lt_of_le hfb Hb5.o.size
 go_wp2_with fail
 go_ret2
 rw[HR.o,HO.o]
 exact⟨by simp,Hb5.o⟩
def AdR(B:Nat)(ls:List (List UInt8))(vo:Value)(w6:World)(b:Bool)(W:World):Prop:=Below B w6 W/\(b=false->Below w6.heap.size w6 W)/\(b=true->∃A n c,Sf B ls (.slice A n c) W/\Dk B vo w6 W (.slice A n c))
theorem Qdq{S:List Ty}(hS:∀t∈S,Dc t)(d:Nat)(ih:Qf6 S d)(k:Kd)(hs:k.signs=[])(hbs:k.base=[64])(hk:Co k)(f:Fd)(y:Vl)(hy:Jo S d f.kind y)(hl4:(Az (.mk 85 [] f.tag [y])).length<=400)
  (P:Nat->Prop) (p sl:Value) (xs:List PT) (w:World) (hsc:Qn w p xs) (hxs:Ag xs=S) (x:PT) (hx:Ej xs k.name=some x) (h9:x.ty.sort=85) (hf:Bg x.ty.fields f.tag=some f) (hiv:D8 P w sl [y]):
  Calls prog 18 #[p,Fv k,G1 (.mk 85 [] f.tag [y]) sl] w (Nh (Jt S (d+1) k (.mk 85 [] f.tag [y])) (Cj S (d+1) k (.mk 85 [] f.tag [y])) w):=by
 have ht:By S k.name=some x.ty:=by rw[<-hxs,Gb,hx];rfl
 have hfo:=(hS x.ty (Bs ht).1).2.2.1.1 f (Bk hf).2
 have hfl:f.name.length<=3:=(C9.1 hfo.2.2.1).2.1
 have hft:f.tag<=1000000000:=by have:=hfo.2.1;omega
 have hfk:Co f.kind:=(Ph hS ht (by rw[h9];decide) (Bk hf).2).1
 have hyl:(Az y).length<=400:=by simp[Az,Dx,E8,Ak]at hl4;omega
 have hfs:=Dn ht hf
 have HO:=Aa (show Cj S (d+1) k (.mk 85 [] f.tag [y])=Cj S d f.kind y by simp[Cj,Vl.what,Vl.kids,Vl.tag,hfs])
 have HR:=Aa (show Jt S (d+1) k (.mk 85 [] f.tag [y])=123::(f.name++58::(Jt S d f.kind y++[125]))by simp[Jt,Vl.what,Vl.tag,Vl.kids,M2,Eu ht hf,hfs])
 have htl:(Jt S d f.kind y).length<=8000:=by have:=Y6 hS hy;omega
 generalize Jt S (d+1) k (.mk 85 [] f.tag [y])=out at *
 generalize Cj S (d+1) k (.mk 85 [] f.tag [y])=oko at *
 have HP:=Aa (fun W (hW:Below w.heap.size w W) (ysl:Value) (hys:D8 P w ysl y.kids)=>ih f.kind y hy hfk hyl P p ysl xs W (hsc.below hW) hxs (hys.after hW))
 generalize Jt S d f.kind y=tx at *
 generalize Cj S d f.kind y=okm at *
 obtain⟨A9,c9,ys,rfl,hkv,_,hrow,hPr,hkid⟩:=hiv
 obtain⟨z,rfl⟩:∃z,ys=[z]:=List.length_eq_one_iff.1 (by have:=congrArg List.length hkv;simpa [Av]using this.symm)
 obtain rfl:y=z.1:=by injection hkv
 have Hrow:=Aa hrow
 have Hkm:=Aa (hkid z (by simp))
 obtain⟨A7,c7,e7⟩:=Hkm.o.form
 have HPm:=Aa (fun W (hW:Below w.heap.size w W)=>HP.o W hW _ Hkm.o)
 obtain⟨b,off,rfl,hb7,d0,d1,d2,d3⟩:=D8.at_ (xs:=[z]) (i:=0) (Hrow.o) (by simp)
 simp only[List.getElem_cons_zero,Nat.zero_mul,Nat.add_zero]at d0 d1 d2 d3
 rw[e7]at d3 HPm
 obtain⟨fb,fo,hfb,hfr,hX⟩:=Qm w x (hsc.tys x (Dz hx).1) f.tag hft f hf
 have Hfr:=Aa hfr
 have HX:=Aa hX
 simp only[List.length_cons,List.length_nil,Nat.zero_add]at *
 clear hX hfr hfo ht hf hxs hS hkv hrow hPr hkid ih hy hl4 hfk hfs HP hyl
 generalize z.1=y at *
 have hkl:=Gp hk
 obtain⟨q,mb,rfl,hq,hm,hnm⟩:=hsc.map
 have hix:=hsc.tys x (Dz hx).1
 obtain⟨hy0,_,hy1,_⟩:=id hix
 have HL:=Aa (fun W (hW:Below w.heap.size w W)=>Fa (Di.below hnm hW) k.name (by omega))
 rw[hx]at HL
 unfold Rc PT.ptr at HL
 have Hix:=Aa hix
 have Hsc:=Aa hsc
 have Hs:=Aa hs
 have t1:(k.base != [64])=false:=by simp[hbs]
 have t2:(k.base == [64])=true:=by simp[hbs]
 have Hsc2:=Aa hsc
 rw[h9]at hy1
 clear hs hbs hsc hnm hk h9 hix
 unfold Fv at *
 unfold G1 at *
 simp only[Vl.what,Vl.text,Vl.tag]
 go_enter func18,ntmps18
 go_wp2_with fail
 generalize hwg:World.alloc (World.alloc (World.alloc w _) _) _=w3
 have HE:=Aa (FmE.of (k:=k) (v:=.mk 85 [] f.tag [y]) hwg)
 clear hwg
 have HSg:=Aa (D9 ⟨k.base.toArray⟩ ⟨k.name.toArray⟩ w3)
 rw[<-Hs.o]at HSg
 refine HSg.o.mono ?_
 rintro e w4 ⟨rfl,hb4⟩
 have HE4:=Aa (HE.o.below hb4)
 obtain⟨hb,l3,p0,k0,k1,k2,v0,v1,v2,v3⟩:=HE.o.below hb4
 have Hb:=Aa hb
 have q1:=(hb.cell (p:=⟨q,1,none⟩) hq).trans hm
 have y0:=(hb.cell (p:=⟨x.blk,0,none⟩) hy0).trans hy1
 have l4:q<w4.heap.size:=by omega
 have l5:x.blk<w4.heap.size:=by omega
 have l6:w.heap.size<w4.heap.size:=by omega
 have l7:w.heap.size+1<w4.heap.size:=by omega
 clear HE hb4 hb HSg hm hy1
 go_wp2_with fail
 refine rgB ?_
 iterate 6 refine sq ?_
 refine Ku (fun v=>v=.pointer (some ⟨x.blk,0,none⟩)) ?_ ?_
 ·intro l u W hl hp hF hG hi K hK
  have hlk:=HL.o W (Hb.o.trans (hF.o.mono Hb.o.size))
  unfold Ei at hG
  simp[Region.binds,C7]at hp
  go_simp
  exact hK _ _ _ rfl hF.o (by simp[Act.put,hp])
 refine sq ?_
 refine dnB fun w5 HB=>?_
 have HE5:=Aa (HE4.o.below HB.o)
 have Hb5:=Aa (Hb.o.trans (HB.o.mono Hb.o.size))
 replace y0:=(HB.o.cell (p:=⟨x.blk,0,none⟩) l5).trans y0
 replace l5:=Nat.lt_of_lt_of_le l5 HB.o.size
 clear HB HL HE4 Hb p0 k0 k1 k2 v0 v1 v2 v3 q1 l3 l4 l6 l7
 obtain⟨_,l3,p0,k0,k1,k2,v0,v1,v2,v3⟩:=HE5.o
 replace d0:=(Hb5.o.cell (p:=⟨b,off,none⟩) hb7).trans d0
 replace d1:=(Hb5.o.cell (p:=⟨b,off+1,none⟩) hb7).trans d1
 replace d2:=(Hb5.o.cell (p:=⟨b,off+2,none⟩) hb7).trans d2
 replace d3:=(Hb5.o.cell (p:=⟨b,off+3,none⟩) hb7).trans d3
 have l7:b<w5.heap.size:=Nat.lt_of_lt_of_le hb7 Hb5.o.size
 have l8:fb<w5.heap.size:=Nat.lt_of_lt_of_le hfb Hb5.o.size
 go_wp2_with fail
 generalize hwg:World.alloc w5 _=w6
 obtain⟨B,hB⟩:∃B,B=w5.heap.size:=⟨_,rfl⟩
 have hb6:Below w5.heap.size w5 w6:=by rw[<-hwg];exact(As _ _).alloc (Ap _) _
 have HE6:=HE5.o.below hb6
 have hst:Sf B [] (.slice none 0 0) w6:=by
  refine⟨?_,?_,?_,World.ownsRow_nil _ _ _ _⟩<;>rw[<-hwg,hB]<;>simp[go_sem]
 replace d0:=(hb6.cell (p:=⟨b,off,none⟩) l7).trans d0
 replace d1:=(hb6.cell (p:=⟨b,off+1,none⟩) l7).trans d1
 replace d2:=(hb6.cell (p:=⟨b,off+2,none⟩) l7).trans d2
 replace d3:=(hb6.cell (p:=⟨b,off+3,none⟩) l7).trans d3
 replace y0:=(hb6.cell (p:=⟨x.blk,0,none⟩) l5).trans y0
 have Hb6:=Aa (Hb5.o.trans (hb6.mono Hb5.o.size))
 have hz6:B<w6.heap.size:=by have:=hst.1;omega
 rw[<-hB]at l3 l5 l7 l8 ⊢
 have Hst:=Aa hst
 clear hwg hb6 hst p0 k0 k1 k2 v0 v1 v2 v3
 obtain⟨_,_,p0,k0,k1,k2,v0,v1,v2,v3⟩:=HE6
 have m0:w.heap.size<B:=by omega
 have m1:w.heap.size+1<B:=by omega
 have m2:w.heap.size<w6.heap.size:=by omega
 have HB0:=Aa hB
 clear hB
 refine rgF (fun l u W=>AdR B [f.name++58::tx] (.slice none 0 0) w6 (l 9) W) (fun W=>∀b o j,b<B->W.cell? ⟨b,o,j⟩=w6.cell? ⟨b,o,j⟩) (fun _ _ W h b o j hb=>h.1.cell (p:=⟨b,o,j⟩) hb) ⟨(As _ _).drew,fun _=>(As _ _).drew,fun h=>absurd h (by simp)⟩ ?_
 iterate 4 refine sq ?_
 refine Ku (fun v=>v=.pointer (some ⟨fb,fo,none⟩)) (by
  intro l u W hl hp hF hG hi K hK
  have h9:=(hi.o 9 (by rfl)).1
  have hw:=hF.o.2.1 h9
  simp[Region.binds,C7]at hp
  clear h9
  have Hw:=Aa (Hb6.o.trans (hw.mono Hb6.o.size))
  clear hw
  go_simp
  refine(HX.o W Hw.o).mono ?_
  rintro e w' ⟨rfl,rfl⟩
  exact hK _ _ _ rfl hF.o (by simp[Act.put,hp])) ?_
 iterate 4 refine sq ?_
 refine Ku (fun v=>v=.bool okm) (by
  intro l u W hl hp hF hG hi K hK
  have hF:AdR B [f.name++58::tx] (.slice none 0 0) w6 (l 9) W:=hF.o
  rw[hl]at hF
  have hw:=hF.2.1 rfl
  simp[Region.binds,C7]at hp
  have HC:=Aa (Qae B w.heap.size fb fo (.pointer (some ⟨q,0,none⟩)) f y (.slice A7 y.kids.length c7) tx okm [] none 0 0 W (Hst.o.below hw) (by simp) ((hw.cell (p:=⟨w.heap.size,0,none⟩) m2).trans p0) (Nat.lt_of_lt_of_le m2 hw.size) (Ar (Ar Hfr.o hfb Hb6.o) (show fb<w6.heap.size by omega) hw) l8 (by omega) (by omega) ⟨_,_,_,rfl⟩ ⟨_,rfl⟩ (fun W' hW'=>HPm.o W' (Hb6.o.trans ((hw.trans (hW'.mono hw.size)).mono Hb6.o.size))))
  have Hw:=Aa hw
  clear hw hF hi
  unfold Fv G1 at HC
  go_simp
  refine HC.o.mono ?_
  rintro e w' ⟨rfl,A3,n3,c3,h3,k3⟩
  refine hK _ _ _ rfl ?_ (by simp[Act.put,hp])
  have kk:=(Dk.of_below (B:=B) (vo:=.slice none 0 0) Hw.o).trans k3
  exact⟨kk.under (Nat.le_of_lt hz6) (Ap _) (fun k h=>by cases h),fun h=>absurd h (by simp),fun _=>⟨A3,n3,c3,h3,kk⟩⟩) ?_
 refine sq ?_
 refine dn fun l u w7 hl _ hR=>?_
 have hR1:=hR.o.1
 obtain⟨A3,n3,c3,hst3,hk3⟩:=hR.o.2.2 (hl 9 (by decide))
 have Hb7:=Aa (Hb6.o.trans (hR1.mono (by omega)))
 obtain⟨hz7,hc7,_,hown7⟩:=hst3
 obtain⟨A4,c4,e4,hr4⟩:=Bh.own hown7
 have hcap:=Sk hown7
 injection e4 with e5 e6 e7
 subst e5 e6 e7
 have HJ:=Aa (by
  have:=Qgb [] A3 c3 [f.name++58::tx] w7 hr4 (by omega) (by simp[Cu];omega) (by rw[Lib.join_one];simp;omega)
  rw[show Lib.join [f.name++58::tx] []=f.name++58::tx from Lib.join_one _ _]at this
  exact this)
 have hl7:B<w7.heap.size:=by omega
 obtain⟨t,ht⟩:∃t,t=f.name++58::tx:=⟨_,rfl⟩
 rw[<-ht]at HJ
 have htt:t.length<=20000:=by rw[ht];simp;omega
 have Ht:=Aa ht
 simp only[List.length_cons,List.length_nil,Nat.zero_add]at HJ hc7
 clear ht hl hR hR1 hk3 hown7 hr4 hcap p0 k0 k1 k2 v0 v1 v2 v3 d0 d1 d2 d3 y0
 go_wp2_with fail
 refine HJ.o.mono ?_
 rintro e w8 ⟨rfl,hb8⟩
 have Hb8:=Aa (Hb7.o.trans (hb8.mono Hb7.o.size))
 clear hb8
 go_wp2_with fail
 go_ret2
 rw[HR.o,HO.o]
 exact⟨by rw[Ht.o];simp,Hb8.o⟩
theorem AdR.kept{B:Nat}{ls:List (List UInt8)}{vo:Value}{w6:World}{b:Bool}{W:World}(h:AdR B ls vo w6 b W):∃vo',Dk B vo w6 W vo':=by
 cases b
 ·exact⟨_,Dk.of_below (h.2.1 rfl)⟩
 obtain⟨A,n,c,_,k⟩:=h.2.2 rfl;exact⟨_,k⟩
def FdE(S:List Ty)(d:Nat)(k:Kd)(x:PT)(y:Vl):Prop:=∃f y1,y.kids=[y1]/\Bg x.ty.fields y.tag=some f/\Ed S k y.tag=f.name/\Fl S k y.tag=f.kind/\M2 y=y1/\Jo S d f.kind y1/\Co f.kind/\(Az y1).length<=400/\f.name.length<=3/\y.tag<=1000000000
def fdT(S:List Ty)(d:Nat)(k:Kd)(y:Vl):List UInt8:=Ed S k y.tag++58::Gs S d (Fl S k y.tag) (M2 y)
def Pe(S:List Ty)(d:Nat)(k:Kd)(y:Vl):Bool:=Cj S d (Fl S k y.tag) (M2 y)
theorem Qd2{S:List Ty}(hS:∀t∈S,Dc t)(d:Nat)(ih:Qf6 S d)(k:Kd)(hs:k.signs=[])(hbs:k.base=[64])(hk:Co k)(ks:List Vl)
  (P:Nat->Prop) (p sl:Value) (xs:List PT) (w:World) (hsc:Qn w p xs) (hxs:Ag xs=S) (x:PT) (hx:Ej xs k.name=some x) (h9:x.ty.sort=82) (hE:∀y∈ks,FdE S d k x y) (hk8:ks.length<=8)
  (hpw:ks.Pairwise fun a b=>Ed S k a.tag≠Ed S k b.tag) (hln:Cu ((byN S k ks).map (fdT S d k))<=100000) (hiv:D8 P w sl ks):
  Calls prog 18 #[p,Fv k,G1 (.mk 82 [] 0 ks) sl] w (Nh (Jt S (d+1) k (.mk 82 [] 0 ks)) (Cj S (d+1) k (.mk 82 [] 0 ks)) w):=by
 have HO:=Aa (show Cj S (d+1) k (.mk 82 [] 0 ks)=ks.all (Pe S d k)by simp[Cj,Vl.what,Vl.kids];rfl)
 have HR:=Aa (show Jt S (d+1) k (.mk 82 [] 0 ks)=if ks.all (Pe S d k)=true then 123::(Ak 44 ((byN S k ks).map (fdT S d k))++[125])else[]by rw[Jg (by simp[Vl.what]) (by simp[Vl.what]),HO.o];simp[Gs,Vl.what,Vl.kids];rfl)
 generalize Jt S (d+1) k (.mk 82 [] 0 ks)=out at *
 generalize Cj S (d+1) k (.mk 82 [] 0 ks)=oko at *
 have HP:=Aa (fun W (hW:Below w.heap.size w W) (f:Fd) (y:Vl) (hy:Jo S d f.kind y) (hfk:Co f.kind) (hyl:(Az y).length<=400) (P:Nat->Prop) (ysl:Value) (hys:D8 P W ysl y.kids)=>ih f.kind y hy hfk hyl P p ysl xs W (hsc.below hW) hxs hys)
 have hiv:=hiv.mono (Q:=fun c=>c<w.heap.size) (fun b _ h=>h)
 have Hiv:=Aa hiv
 obtain⟨A9,c9,rfl⟩:=hiv.form
 have HX:=Aa (fun(y:Vl) (hy:y∈ks) (f:Fd) (h:y.tag<=1000000000) (hf:Bg x.ty.fields y.tag=some f)=>Qm w x (hsc.tys x (Dz hx).1) y.tag h f hf)
 have HEl:=Aa hE
 have HB:=Aa (fun W (hW:Below w.heap.size w W)=>Qaw W x ((hsc.tys x (Dz hx).1).below hW) (.mk 82 [] 0 ks) _ (.slice A9 ks.length c9) (hiv.after hW) (fun g=>Ed S k g) (fun y hy=>by obtain⟨f,y1,_,h1,h2,_,_,_,_,_,_,h3⟩:=hE y hy;exact⟨h3,f,h1,h2.symm⟩) hpw (by show ks.length<=12;omega))
 have HPm:=Aa (Gr (fun y:Vl=>Ed S k y.tag) ks)
 have Hln:=Aa hln
 have HFl:=Aa (show ∀(f:Fd) (y:Vl),Jo S d f.kind y->(Az y).length<=400->(Jt S d f.kind y).length<=8000/\(Cj S d f.kind y=true->Jt S d f.kind y=Gs S d f.kind y)from fun f y h h4=>⟨by have:=Y6 hS h;omega,fun h5=>Qbn h h5⟩)
 simp only[Vl.kids]at HB
 unfold PT.ptr G1 at HB
 clear hiv hE ih hxs hS hpw hln
 have hkl:=Gp hk
 obtain⟨q,mb,rfl,hq,hm,hnm⟩:=hsc.map
 have hix:=hsc.tys x (Dz hx).1
 obtain⟨hy0,_,hy1,_⟩:=id hix
 have HL:=Aa (fun W (hW:Below w.heap.size w W)=>Fa (Di.below hnm hW) k.name (by omega))
 rw[hx]at HL
 unfold Rc PT.ptr at HL
 have Hix:=Aa hix
 have Hsc:=Aa hsc
 have Hs:=Aa hs
 have t1:(k.base != [64])=false:=by simp[hbs]
 have t2:(k.base == [64])=true:=by simp[hbs]
 have Hsc2:=Aa hsc
 rw[h9]at hy1
 clear hs hbs hsc hnm hk h9 hix
 unfold Fv at *
 unfold G1 at *
 simp only[Vl.what,Vl.text,Vl.tag]
 go_enter func18,ntmps18
 go_wp2_with fail
 generalize hwg:World.alloc (World.alloc (World.alloc w _) _) _=w3
 have HE:=Aa (FmE.of (k:=k) (v:=.mk 82 [] 0 ks) hwg)
 clear hwg
 have HSg:=Aa (D9 ⟨k.base.toArray⟩ ⟨k.name.toArray⟩ w3)
 rw[<-Hs.o]at HSg
 refine HSg.o.mono ?_
 rintro e w4 ⟨rfl,hb4⟩
 have HE4:=Aa (HE.o.below hb4)
 obtain⟨hb,l3,p0,k0,k1,k2,v0,v1,v2,v3⟩:=HE.o.below hb4
 have Hb:=Aa hb
 have q1:=(hb.cell (p:=⟨q,1,none⟩) hq).trans hm
 have y0:=(hb.cell (p:=⟨x.blk,0,none⟩) hy0).trans hy1
 have l4:q<w4.heap.size:=by omega
 have l5:x.blk<w4.heap.size:=by omega
 have l6:w.heap.size<w4.heap.size:=by omega
 have l7:w.heap.size+1<w4.heap.size:=by omega
 clear HE hb4 hb HSg hm hy1
 go_wp2_with fail
 refine rgB ?_
 iterate 6 refine sq ?_
 refine Ku (fun v=>v=.pointer (some ⟨x.blk,0,none⟩)) ?_ ?_
 ·intro l u W hl hp hF hG hi K hK
  have hlk:=HL.o W (Hb.o.trans (hF.o.mono Hb.o.size))
  unfold Ei at hG
  simp[Region.binds,C7]at hp
  go_simp
  exact hK _ _ _ rfl hF.o (by simp[Act.put,hp])
 refine sq ?_
 refine dnB fun w5 HB=>?_
 have HE5:=Aa (HE4.o.below HB.o)
 have Hb5:=Aa (Hb.o.trans (HB.o.mono Hb.o.size))
 replace y0:=(HB.o.cell (p:=⟨x.blk,0,none⟩) l5).trans y0
 replace l5:=Nat.lt_of_lt_of_le l5 HB.o.size
 clear HB HL HE4 Hb p0 k0 k1 k2 v0 v1 v2 v3 q1 l3 l4 l6 l7
 obtain⟨_,l3,p0,k0,k1,k2,v0,v1,v2,v3⟩:=HE5.o
 go_wp2_with fail
 generalize hwg:World.alloc w5 _=w6
 obtain⟨B,hB⟩:∃B,B=w5.heap.size:=⟨_,rfl⟩
 have hb6:Below w5.heap.size w5 w6:=by rw[<-hwg];exact(As _ _).alloc (Ap _) _
 have HE6:=HE5.o.below hb6
 have hst:Sf B [] (.slice none 0 0) w6:=by
  refine⟨?_,?_,?_,World.ownsRow_nil _ _ _ _⟩<;>rw[<-hwg,hB]<;>simp[go_sem]
 have Hb6:=Aa (Hb5.o.trans (hb6.mono Hb5.o.size))
 have hz6:B<w6.heap.size:=by have:=hst.1;omega
 have l8:w.heap.size+2<B:=by omega
 rw[<-hB]at l3 ⊢
 have HHB:=Aa (HB.o w6 Hb6.o)
 refine HHB.o.mono ?_
 rintro e w7 ⟨sl',rfl,hiv7,hb7⟩
 have HE7:=HE6.below hb7
 have Hst:=Aa (hst.below hb7)
 have Hb7:=Aa (Hb6.o.trans (hb7.mono Hb6.o.size))
 have hz7:B<w7.heap.size:=Nat.lt_of_lt_of_le hz6 hb7.size
 have hiv8:=hiv7.mono (Q:=fun c=>c≠B/\c<w7.heap.size) (fun b h hb=>⟨by rcases h with h|h<;>omega,hb⟩)
 obtain⟨vs,hvs⟩:∃vs,vs=Ex (fun y:Vl=>Ed S k y.tag) ks:=⟨_,rfl⟩
 rw[<-hvs]at hiv8 HPm
 obtain⟨A4,c4,rfl⟩:=hiv8.form
 have Hs4:=Aa hiv8
 have hyl:vs.length<=8:=by have:=HPm.o.length_eq;omega
 have Hm4:=Aa (fun z (hz:z∈vs)=>HPm.o.mem_iff.1 hz:∀z∈vs,z∈ks)
 have Hall4:=Aa (show ks.all (Pe S d k)=vs.all (Pe S d k)by
  rw[Bool.eq_iff_iff,List.all_eq_true,List.all_eq_true]
  exact⟨fun h z hz=>h _ (HPm.o.mem_iff.1 hz),fun h y hy=>h y (HPm.o.mem_iff.2 hy)⟩)
 have Hby:=Aa (show (byN S k ks).map (fdT S d k)=vs.map (fdT S d k)by rw[hvs];rfl)
 have HB0:=Aa hB
 clear hB hwg hb6 hst HE5 HE6 hiv7 hiv8 hvs hb7 HB HHB HPm p0 k0 k1 k2 v0 v1 v2 v3 y0 l5
 obtain⟨_,l9,p0,k0,k1,k2,v0,v1,v2,v3⟩:=HE7
 clear k0 k1 k2 v0 v1 v2 v3
 go_wp2_with fail
 go_loopw [120,18] (fun i x18 wr=>∃(m:Nat) (A3:Option Addr) (n3 q3:Nat),i=.int .i64 m/\m<=vs.length/\Hid (Sf B ((vs.take m).map (fdT S d k)) (.slice A3 n3 q3) wr)/\Hid (Dk B (.slice none 0 0) w7 wr (.slice A3 n3 q3))/\Hid ((vs.take m).all (Pe S d k)=true)) (fun i _ _=>vs.length - (intOf i).toNat)
 case atStart=>exact⟨0,none,0,0,rfl,Nat.zero_le _,Hst.o,Dk.refl _ _ _,rfl⟩
 case round=>
  obtain⟨m,A3,n3,q3,rfl,hm,Hst3,Hk3,Hall⟩:=hrel
  have m1:(0:Int)<=(m:Int):=by omega
  have Hon:=Aa (show ∀c,c≠B->c<w7.heap.size->some c≠(Value.slice A3 n3 q3).ownBlock from fun c _ h e=>by
   rcases Hk3.o.own with e2|⟨y,e2,hy⟩
   ·rw[e2]at e;cases e
   rw[e2]at e;injection e with e;omega)
  have Hbw:=Aa (Hb7.o.trans ((Hk3.o.under (lo:=B) (Nat.le_of_lt hz7) (Ap _) (fun k h=>by cases h)).mono (by omega)):Below w.heap.size w wr)
  by_cases hlt:m<vs.length
  ·have m2:(m:Int)<(vs.length:Int):=by omega
   obtain⟨A5,c5,ys5,e5,hkv5,hyl5,hrow5,_,hkid5⟩:=Hs4.o.kept (Q:=fun c=>c≠B/\c<w7.heap.size) (fun b o u hp hl hu=>Hk3.o.cell hu hl hp.1 (fun h=>by cases h)) Hk3.o.size (fun b h _=>h)
   injection e5 with e51 e52 e53
   subst e51 e53
   have hlt5:m<ys5.length:=by omega
   obtain⟨b,off,rfl,hb5,d0,d1,d2,d3⟩:=D8.at_ hrow5 hlt5
   have hvm:vs[m]=ys5[m].1:=by simp[hkv5,Av]
   have Hym:=Aa (Hm4.o _ (List.getElem_mem hlt))
   have Hkm:=hkid5 _ (List.getElem_mem hlt5)
   have Hts:=Aa (Bn vs m hlt)
   rw[hvm]at Hym Hts
   clear hkid5 hrow5 hkv5 hvm hyl5 e52
   generalize ys5[m]=z at *
   obtain⟨y,ysl⟩:=z
   simp only at d0 d1 d2 d3 Hkm Hym Hts
   obtain⟨f,y1,hyk,hyf,hyn,hyd,hy1,hyo,hyfk,hyp,hyfl,hyt⟩:=HEl.o y Hym.o
   rw[hyk]at Hkm
   obtain⟨A7,c7,zs,rfl,hkz,_,hrow7,hP7,hkid7⟩:=Hkm
   obtain⟨z,rfl⟩:∃z,zs=[z]:=List.length_eq_one_iff.1 (by have:=congrArg List.length hkz;simpa [Av]using this.symm)
   obtain rfl:y1=z.1:=by injection hkz
   obtain⟨b7,o7,rfl,hb7,z0,z1,z2,z3⟩:=D8.at_ (xs:=[z]) (i:=0) hrow7 (by simp)
   obtain⟨hP71,hP72⟩:=hP7 b7 o7 (by simp) rfl
   simp only[List.getElem_cons_zero,Nat.zero_mul,Nat.add_zero]at z0 z1 z2 z3
   have Hkz:=Aa (hkid7 z (by simp))
   obtain⟨A8,c8,e8⟩:=Hkz.o.form
   have Hkz2:=Hkz.o
   rw[e8]at z3 Hkz2
   have Hkz3:=Aa Hkz2
   have Hfd:=Aa (show fdT S d k y=f.name++58::Gs S d f.kind z.1 by unfold fdT;rw[hyn,hyd,hy1])
   have Hfo:=Aa (show Pe S d k y=Cj S d f.kind z.1 by unfold Pe;rw[hyd,hy1])
   obtain⟨htl,htx⟩:=HFl.o f z.1 hyo hyp
   obtain⟨fb,fo,hfb,hfr,hX⟩:=HX.o y Hym.o f hyt hyf
   have HX6:=Aa hX
   have Hfr:=Aa hfr
   have HPm:=Aa (fun W (hW:Below w.heap.size w W) (h2:Below wr.heap.size wr W)=>HP.o W hW f z.1 hyo hyfk hyp _ _ (Hkz3.o.after h2))
   have Htx:=Aa htx
   clear e8 Hkz Hkz2 hkid7 hrow7 hP7 hkz htx hfr hX hyk hyf hyn hyd hy1 hyo hyfk hyp
   generalize Jt S d f.kind z.1=tx at *
   generalize Cj S d f.kind z.1=okm at *
   generalize z.1=y1 at *
   simp only[List.length_cons,List.length_nil,Nat.zero_add]at *
   have g0:¬(b=wr.heap.size):=by omega
   go_wp2_with fail
   generalize hwk:World.alloc wr _=wk
   have hbk:Below wr.heap.size wr wk:=by rw[<-hwk];exact(As _ _).alloc (Ap _) _
   have u2:wk.cell? ⟨wr.heap.size,2,none⟩=some (.int .i64 (y.tag:Int)):=by rw[<-hwk];simp[go_sem]
   have u3:wk.cell? ⟨wr.heap.size,3,none⟩=some (.slice (some ⟨b7,o7,none⟩) 1 c7):=by rw[<-hwk];simp[go_sem]
   have lk:wr.heap.size<wk.heap.size:=by rw[<-hwk];simp
   replace z0:=(hbk.cell (p:=⟨b7,o7,none⟩) hb7).trans z0
   replace z1:=(hbk.cell (p:=⟨b7,o7+1,none⟩) hb7).trans z1
   replace z2:=(hbk.cell (p:=⟨b7,o7+2,none⟩) hb7).trans z2
   replace z3:=(hbk.cell (p:=⟨b7,o7+3,none⟩) hb7).trans z3
   have Hbk:=Aa hbk
   have Hstk:=Aa (Hst3.o.below hbk)
   have hpr:=(hbk.cell (p:=⟨w.heap.size,0,none⟩) (show w.heap.size<_ from by have:=Hbw.o.size;have:=Hk3.o.size;omega)).trans (Hk3.o.cell (b:=w.heap.size) p0 (by omega) (by omega) (fun h=>by cases h))
   have Hpr:=Aa hpr
   have Hfar:=Aa (show ∀c,(c=wr.heap.size\/c=b7)->c<wk.heap.size/\c≠B/\some c≠(Value.slice A3 n3 q3).ownBlock from fun c hc=>by
    rcases hc with rfl|rfl
    ·exact⟨lk,by have:=Hk3.o.size;omega,fun e=>by have:=(Hst3.o.lt _ e.symm).2;omega⟩
    exact⟨by omega,hP71,Hon.o _ hP71 hP72⟩)
   have n1:w.heap.size<wk.heap.size:=by have:=Hbw.o.size;have:=Hk3.o.size;omega
   have n2:B<=wr.heap.size:=by have:=Hk3.o.size;omega
   clear hwk hbk d0 d1 d2 d3 hpr
   refine rgF (fun l u W=>AdR B (((vs.take m).map (fdT S d k))++[f.name++58::tx]) (.slice A3 n3 q3) wk (l 9) W) (fun W=>(∀j,W.cell? ⟨wr.heap.size,j,none⟩=wk.cell? ⟨wr.heap.size,j,none⟩)/\∀j,W.cell? ⟨b7,j,none⟩=wk.cell? ⟨b7,j,none⟩) (fun _ _ W h=>by
    obtain⟨vo',hk⟩:=h.kept
    have hc:∀c,(c=wr.heap.size\/c=b7)->∀j,W.cell? ⟨c,j,none⟩=wk.cell? ⟨c,j,none⟩:=fun c hc j=>by
     obtain⟨h1,h2,h3⟩:=Hfar.o c hc
     exact World.cell?_of_block (hk.block c h1 h2 h3)
    exact⟨hc _ (.inl rfl),hc _ (.inr rfl)⟩) ⟨(As _ _).drew,fun _=>(As _ _).drew,fun h=>absurd h (by simp)⟩ ?_
   iterate 4 refine sq ?_
   refine Ku (fun v=>v=.pointer (some ⟨fb,fo,none⟩)) (by
    intro l u W hl hp hF hG hi K hK
    have h9:=(hi.o 9 (by rfl)).1
    have hw:=hF.o.2.1 h9
    simp[Region.binds,C7]at hp
    clear h9
    have Hw:=Aa (Hbw.o.trans ((Hbk.o.trans (hw.mono Hbk.o.size)).mono Hbw.o.size))
    clear hw
    go_simp
    refine(HX6.o W Hw.o).mono ?_
    rintro e w' ⟨rfl,rfl⟩
    exact hK _ _ _ rfl hF.o (by simp[Act.put,hp])) ?_
   iterate 4 refine sq ?_
   refine Ku (fun v=>v=.bool okm) (by
    intro l u W hl hp hF hG hi K hK
    have hF:AdR B (((vs.take m).map (fdT S d k))++[f.name++58::tx]) (.slice A3 n3 q3) wk (l 9) W:=hF.o
    rw[hl]at hF
    have hw:=hF.2.1 rfl
    simp[Region.binds,C7]at hp
    have hw2:Below w.heap.size w W:=Hbw.o.trans ((Hbk.o.trans (hw.mono Hbk.o.size)).mono Hbw.o.size)
    have HC:=Aa (Qae B w.heap.size fb fo (.pointer (some ⟨q,0,none⟩)) f y1 (.slice A8 y1.kids.length c8) tx okm ((vs.take m).map (fdT S d k)) A3 n3 q3 W (Hstk.o.below hw) (by simp;omega) ((hw.cell (p:=⟨w.heap.size,0,none⟩) n1).trans Hpr.o) (Nat.lt_of_lt_of_le n1 hw.size) (Ar Hfr.o hfb hw2) (by omega) (by omega) (by omega) ⟨_,_,_,rfl⟩ ⟨_,rfl⟩ (fun W' hW'=>HPm.o W' (hw2.trans (hW'.mono hw2.size)) (Hbk.o.trans ((hw.trans (hW'.mono hw.size)).mono Hbk.o.size))))
    have Hw:=Aa hw
    clear hw hw2 hF hi
    unfold Fv G1 at HC
    go_simp
    refine HC.o.mono ?_
    rintro e w' ⟨rfl,A6,n6,c6,h6,k6⟩
    refine hK _ _ _ rfl ?_ (by simp[Act.put,hp])
    have kk:=(Dk.of_below (B:=B) (vo:=.slice A3 n3 q3) Hw.o).trans k6
    exact⟨kk.under (by omega) (Ap _) (fun k h=>by have:=(Hst3.o.lt k h).1;omega),fun h=>absurd h (by simp),fun _=>⟨A6,n6,c6,h6,kk⟩⟩) ?_
   refine sq ?_
   refine dn fun l u w9 hl _ hR=>?_
   have hR1:=hR.o.1
   obtain⟨A6,n6,c6,hst6,hk6⟩:=hR.o.2.2 (hl 9 (by decide))
   have Hb9:=Aa (Hbw.o.trans (((Hbk.o.mono n2).trans hR1).mono (by omega)):Below w.heap.size w w9)
   have Hst6:=Aa hst6
   have Hk6:=Aa (Hk3.o.trans ((Dk.of_below Hbk.o).trans hk6))
   clear hl hR hR1 hst6 hk6 u2 u3 z0 z1 z2 z3 lk
   cases okm with
   |false=>
    have Hx:=Aa (show ks.all (Pe S d k)=false by rw[List.all_eq_false];exact⟨y,Hym.o,by rw[Hfo.o];simp⟩)
    go_wp2_with fail
    go_ret2
    rw[HR.o,HO.o,Hx.o]
    exact⟨rfl,Hb9.o⟩
   |true=>
    have hq:=Hst6.o
    rw[Htx.o rfl,<-Hfd.o]at hq
    have Hq:=Aa (show Sf B ((vs.take (m+1)).map (fdT S d k)) (.slice A6 n6 c6) w9 by rw[Hts.o,List.map_append];exact hq)
    have Hall2:=Aa (show (vs.take (m+1)).all (Pe S d k)=true by rw[Hts.o,List.all_append,Hall.o];simp[Hfo.o])
    clear hq
    go_wp2_with fail
    go_roundw
    case rel=>exact⟨m+1,A6,n6,c6,by go_num,by omega,Hq.o,Hk6.o,Hall2.o⟩
    case measure=>simp[intOf];omega
  ·obtain rfl:m=vs.length:=by omega
   obtain⟨hz9,hc9,_,hown9⟩:=Hst3.o
   rw[List.take_length]at hown9
   obtain⟨A6,c6,e6,hr6⟩:=Bh.own hown9
   have hcap:=Sk hown9
   injection e6 with e7 e8 e9
   subst e7 e8 e9
   have hpl:(vs.map (fdT S d k)).length=vs.length:=by simp
   have Hka:=Aa (show ks.all (Pe S d k)=true by have:=Hall.o;rw[List.take_length]at this;rw[Hall4.o];exact this)
   obtain⟨jn,hjn⟩:∃j,j=Ak 44 ((byN S k ks).map (fdT S d k)):=⟨_,rfl⟩
   have hjl:jn.length<=100000:=by rw[hjn,Bb];have:=Hln.o;omega
   have HJ:=Aa (by
    have:=Qbh 44 A3 q3 (vs.map (fdT S d k)) wr hr6 (by omega) (by rw[<-Hby.o];have:=Hln.o;omega)
    rw[hpl,<-Hby.o,<-hjn]at this
    exact this:Calls prog 37 #[.slice A3 vs.length q3,.string ⟨#[44]⟩] wr fun e w'=>e=.returned (.string ⟨jn.toArray⟩)/\Below wr.heap.size wr w')
   have Hout:=Aa (HR.o.trans (by rw[Hka.o,if_pos rfl,<-hjn]:_=123::(jn++[125])))
   have hl9:B<wr.heap.size:=by omega
   rw[hpl]at hc9
   clear hown9 hr6 hcap hpl hjn HP HX HEl HFl HB0
   go_wp2_with fail
   refine HJ.o.mono ?_
   rintro e w9 ⟨rfl,hb9⟩
   have Hb9:=Aa (Hbw.o.trans (hb9.mono Hbw.o.size))
   clear hb9
   go_wp2_with fail
   go_ret2
   rw[Hout.o,HO.o,Hka.o]
   exact⟨by simp,Hb9.o⟩
theorem Qfg{S:List Ty}(hS:∀t∈S,Dc t){d:Nat}{k:Kd}{ks:List Vl}(h:Jo S (d+1) k (.mk 82 [] 0 ks))(hl:(Az (.mk 82 [] 0 ks)).length<=400):Cu ((byN S k ks).map (fdT S d k))<=100000:=by
 have h1:=Qg hS _ _ _ h
 have h2:Gs S (d+1) k (.mk 82 [] 0 ks)=123::(Ak 44 ((byN S k ks).map (fdT S d k))++[125]):=by simp[Gs,Vl.what,Vl.kids];rfl
 rw[h2]at h1
 simp only[List.length_cons,List.length_append,Bb,List.length_nil]at h1
 omega
theorem Qda{S:List Ty}(hS:∀t∈S,Dc t):∀d,Qf6 S d:=by
 intro d
 induction d with
 |zero=>intro k v h;cases h
 |succ d ih=>
  intro k v hv hk hl P p sl xs w hsc hxs hiv
  have hbd:=Qdz hS _ k v hv (by omega)
  obtain⟨q,_,hq,_⟩:=hsc.map
  have hv':=hv
  cases hv with
  |n hs hb h=>rw[Jg (by simp[Vl.what]) (by simp[Vl.what])];exact P4 P p q hq k hs (by rw[hb];decide) _ hbd sl w hiv
  |t hs hb h=>rw[Jg (by simp[Vl.what]) (by simp[Vl.what])];exact P4 P p q hq k hs (by rw[hb];decide) _ hbd sl w hiv
  |f hs hb=>rw[Jg (by simp[Vl.what]) (by simp[Vl.what])];exact P4 P p q hq k hs (by rw[hb];decide) _ hbd sl w hiv
  |@lst _ _ r ks hs h20 h=>exact Qba hS d ih k r hs hk ks h20 h hl P p sl xs w hsc hxs hiv
  |@non _ _ r hs=>exact V6 hS d ih k r hs hk [] (.inl rfl) hl P p sl xs w hsc hxs hiv
  |@som _ _ r x hs h=>exact V6 hS d ih k r hs hk [x] (.inr ⟨x,rfl,h⟩) hl P p sl xs w hsc hxs hiv
  |@enm _ _ t f hs hb ht h9 hf=>
   obtain⟨x,hx,rfl⟩:=T6 (hxs.symm ▸ ht)
   exact Qc5 hS d k hs hb hk f P p sl xs w hsc hxs x hx h9 hf hiv
  |@uni _ _ t f y hs hb ht h5 hf h=>
   obtain⟨x,hx,rfl⟩:=T6 (hxs.symm ▸ ht)
   exact Qdq hS d ih k hs hb hk f y h hl P p sl xs w hsc hxs x hx h5 hf hiv
  |@rcd _ _ t fs hs hb ht h2 hf h hn hp=>
   obtain⟨x,hx,rfl⟩:=T6 (hxs.symm ▸ ht)
   have hnm:=Qc6 hS ht hf hp
   have hfew:=X7 hS ht hf hp
   refine Qd2 hS d ih k hs hb hk (fs.map Dg) P p sl xs w hsc hxs x hx h2 (fun y hy=>?_) (by simpa using hfew) ?_ (Qfg hS hv' hl) hiv
   ·obtain⟨c,hc,rfl⟩:=List.mem_map.1 hy
    have hfo:=(hS x.ty (Bs ht).1).2.2.1.1 c.1 (Bk (hf c hc)).2
    have h3:=Jx (List.mem_map_of_mem (f:=fun p=>Az (Dg p)) hc)
    simp only[Pb]at h3
    rw[Pa]at hl
    simp only[List.length_cons,List.length_append,Bb,List.length_nil]at hl
    exact⟨c.1,c.2,rfl,hf c hc,Eu ht (hf c hc),Dn ht (hf c hc),rfl,h c hc,(Ph hS ht (by rw[h2];decide) (Bk (hf c hc)).2).1,by omega,(C9.1 hfo.2.2.1).2.1,by have:=hfo.2.1;show c.1.tag<=_;omega⟩
   rw[List.pairwise_map]
   refine List.Pairwise.imp_of_mem (fun {p q} hp1 hq1 h e=>?_) hp
   have:=hnm _ (List.mem_map_of_mem hp1) _ (List.mem_map_of_mem hq1) e
   have h2:p.1.tag=q.1.tag:=congrArg Vl.tag this
   omega
theorem Qhw(s d x:List UInt8)(w:World)(HG:Calls prog 17 #[.string ⟨s.toArray⟩,.string ⟨d.toArray⟩,.string ⟨x.toArray⟩] w (Qi4 (C5 s d) x w)):
  Calls prog 9 #[.string ⟨s.toArray⟩,.string ⟨d.toArray⟩,.string ⟨x.toArray⟩] w (Qbe (vlB (C5 s d) x Ti) w):=by
 have HG:=Aa HG
 go_enter func9,ntmps9
 go_wp2_with fail
 refine HG.o.mono ?_
 rintro e w1 ⟨⟨p,k1,k2,k3,v,sl,rfl,hs1,hy⟩,hb1⟩
 obtain⟨A1,c1,rfl⟩:=hs1.form
 have Hb1:=Aa hb1
 cases hv:Tc (C5 s d) x with
 |none=>
  have HV:=Aa (Qcs (f:=Ti) hv)
  rw[Option.isSome_none]
  unfold G1
  clear hs1 hb1 hy hv HG
  go_wp2_with fail
  go_ret2
  refine⟨by rw[HV.o];rfl,?_⟩
  have h:=Hb1.o
  exact(h.alloc h.size _).alloc (by simp;have:=h.size;omega) _
 |some y=>
  obtain⟨rfl,S,k,xs,hbo,rfl,rfl,rfl,rfl,hsc⟩:=hy y hv
  obtain⟨S',k',e1,hok,hk,href,hkd,hvok,hpr,hxl⟩:=Vy hv
  rw[hbo]at e1
  injection e1 with e1
  injection e1 with e1 e2
  subst e1 e2
  have hS:=hok.1.1
  have HE:=Aa (show vlB (C5 s d) x Ti=Ti (Ag xs) k v by
   rw[hbo]
   have h:Jr (Ag xs) k x=some v:=by rw[hbo]at hv;exact hv
   simp[vlB,h])
  have HF:=Aa (fun W (hW:Below w1.heap.size w1 W)=>Qda hS 12 k v hvok hk (by rw[hpr];exact hxl) _ (.pointer p) (.slice A1 v.kids.length c1) xs W (hsc.below hW) rfl (hs1.after hW))
  have HT:=Aa (fun h=>Qbn (S:=Ag xs) hvok h)
  rw[Option.isSome_some]
  unfold Fv G1 at HF
  unfold G1
  generalize Jt (Ag xs) 12 k v=tx at *
  obtain⟨okm,hokm⟩:∃o,o=Cj (Ag xs) 12 k v:=⟨_,rfl⟩
  rw[<-hokm]at HF HT
  have Hok:=Aa hokm
  clear hs1 hb1 hy hv HG hbo hok hk href hkd hvok hpr hxl hsc hS hokm
  go_wp2_with fail
  generalize hwg:World.alloc (World.alloc w1 _) _=w2
  have hb2:Below w1.heap.size w1 w2:=by rw[<-hwg];exact((As _ _).alloc (Ap _) _).alloc (by simp) _
  have Hb2:=Aa hb2
  clear hwg hb2
  refine(HF.o w2 Hb2.o).mono ?_
  rintro e w3 ⟨rfl,hb3⟩
  have Hb3:=Aa (Hb1.o.trans ((Hb2.o.trans (hb3.mono Hb2.o.size)).mono Hb1.o.size))
  clear hb3
  cases okm with
  |true=>
   have HT2:=Aa (HT.o rfl)
   have HE2:=Aa (show vlB (C5 s d) x Ti=some tx by rw[HE.o,HT2.o];exact Qgq Hok.o.symm)
   go_wp2_with fail
   go_ret2
   exact⟨by rw[HE2.o];rfl,Hb3.o⟩
  |false=>
   have HE2:=Aa (show vlB (C5 s d) x Ti=none by rw[HE.o];exact Qe8 Hok.o.symm)
   go_wp2_with fail
   go_ret2
   exact⟨by rw[HE2.o];rfl,Hb3.o⟩
def Qfy:List UInt8:=[48,49,50,51,52,53,54,55,56,57]
theorem Qey(c:UInt8):Qfy.contains c=Ba c:=by
 have:=N0 (p:=fun c=>Qfy.contains c == Ba c) (by decide +kernel) c
 simpa using this
theorem Qfe(s:List UInt8):s.dropWhile (Qfy.contains ·)=s.dropWhile Ba:=by congr 1;funext c;exact Qey c
theorem Qfk(s:List UInt8):s.dropWhile (Qbr.contains ·)=s.dropWhile B0:=by congr 1;funext c;exact Z5 c
theorem P6(p:UInt8->Bool)(s:List UInt8):s.take (s.length - (s.dropWhile p).length)=s.takeWhile p/\(s.dropWhile p).length<=s.length:=by
 have e:s.takeWhile p++s.dropWhile p=s:=List.takeWhile_append_dropWhile
 have hl:(s.takeWhile p).length+(s.dropWhile p).length=s.length:=by rw[<-List.length_append,e]
 refine⟨?_,by omega⟩
 conv=>lhs;arg 2;rw[<-e]
 rw[show s.length - (s.dropWhile p).length=(s.takeWhile p).length by omega,List.take_left]
def Gx(t:List UInt8):Nat:=(Cf (t.takeWhile Ba)).getD 0
def Fy(m:Nat)(t:List UInt8):Bool:=match Cf (t.takeWhile Ba)with|some n=>decide (n<=m)|none=>false
theorem Qht(m:Nat)(t:List UInt8):pnV (t.takeWhile Ba) m=.tuple #[.int .i64 (Gx t:Int),.bool (Fy m t)]:=by
 unfold pnV Gx Fy
 cases Cf (t.takeWhile Ba)<;>rfl
theorem Fs.grow{w w':World}{b:Nat}{p:Value}{t:List UInt8}{bad:Bool}(h:Fs w b p t bad)(hb:Below w.heap.size w w'):Fs w' b p t bad:=h.far hb h.1
theorem Na(b m:Nat)(p:Value)(t:List UInt8)(bad:Bool)(w:World)(h:Fs w b p t bad)(hl:t.length<=4000000)(hm:m<=999999):
  Calls prog 98 #[.pointer (some ⟨b,0,none⟩),.int .i64 m] w fun e w'=>
   e=.returned (.int .i64 (Gx t:Int))/\C4 w b p (t.dropWhile Ba) (bad || !Fy m t) w':=by
 have Htl:=Aa (fun W=>Ms t Qfy W (by decide) (by decide))
 simp only[Qfe]at Htl
 have Hpn:=Aa (fun W=>Gh (t.takeWhile Ba) m W (by have:=(P6 Ba t).1;have h2:=List.length_take_le (t.length - (t.dropWhile Ba).length) t;rw[this]at h2;omega) hm)
 rw[Qht]at Hpn
 obtain⟨htk,hdl⟩:=P6 Ba t
 have Htk:=Aa htk
 unfold Qfy at Htl
 have HS:=Aa h
 have kw:IntKind.i64.wrap ((t.length:Int) - ((t.dropWhile Ba).length:Int))=(t.length:Int) - ((t.dropWhile Ba).length:Int):=IntWalk.i64_in _ (by omega)
 have k1:(0:Int)<=(t.length:Int) - ((t.dropWhile Ba).length:Int):=by omega
 have k2:(t.length:Int) - ((t.dropWhile Ba).length:Int)<=(t.length:Int):=by omega
 have k3:((t.length:Int) - ((t.dropWhile Ba).length:Int)).toNat=t.length - (t.dropWhile Ba).length:=by omega
 generalize Gx t=n at *
 generalize Fy m t=ok at *
 generalize t.takeWhile Ba=a at *
 generalize t.dropWhile Ba=r at *
 obtain⟨h0,h1,h2,h3,h4⟩:=h
 clear htk h1
 go_enter func98,ntmps98
 go_wp2_with fail
 refine(Htl.o _).mono ?_
 rintro e w1 ⟨rfl,hb1⟩
 have HS1:=Aa (HS.o.grow hb1)
 have Hb1:=Aa hb1
 have C1:=Aa ((hb1.cell (p:=⟨b,1,none⟩) h0).trans h3)
 have hz1:b<w1.heap.size:=by have:=hb1.size;omega
 clear hb1 HS h2 h3 h4
 go_wp2_with fail
 refine P3 [14,15,16,17,18,19,20,21,22,23,24,25,26,27,28,13,29,30,6,7]
  (fun ix v W=>match ix with|0=>v=.pointer (some ⟨b,0,none⟩)|1=>v=.pointer (some ⟨b,0,none⟩)|2=>v=.pointer (some ⟨b,1,none⟩)|3=>v=.string ⟨t.toArray⟩|4=>v=.pointer (some ⟨b,0,none⟩)|5=>v=.pointer (some ⟨b,0,none⟩)|6=>v=.pointer (some ⟨b,1,none⟩)|7=>v=.string ⟨t.toArray⟩|8=>v=.int .i64 (t.length:Int)|9=>v=.string ⟨r.toArray⟩|10=>v=.int .i64 (r.length:Int)|11=>v=.int .i64 ((t.length:Int) - (r.length:Int))|12=>v=.string ⟨a.toArray⟩|13=>v=.int .i64 (m:Int)|14=>v=.tuple #[.int .i64 (n:Int),.bool ok]|15=>v=.tuple #[.int .i64 (n:Int),.bool ok]|16=>v=.int .i64 (n:Int)|17=>v=.bool ok|18=>v=.int .i64 (n:Int)|19=>v=.bool ok|_=>True)
  (fun L U W=>∃k,W=w1.drewN k) (⟨1,rfl⟩) ?_ ?_
 ·repeat (first|exact Aq.nil|(refine Aq.cons ?_ ?_;rotate_left))
  all_goals
   rintro L U W hL hpre HR Hdep K hK
   obtain⟨k,hk⟩:=HR.o
   have c1:W.cell? ⟨b,1,none⟩=some (.string ⟨t.toArray⟩):=by rw[hk];exact C1.o
   clear hk
   first|(simp[Region.binds]at hpre;done)|simp[Region.binds]at hpre|clear hpre
  iterate 11
   ·go_simp
    first|exact hK _ _ _ rfl Ab HR.o rfl|exact kE hK HR.o|exact hK undef _ _ Ab Ab HR.o (by simp[Act.put,hpre])|exact hK _ _ _ Ab Ab HR.o rfl|exact kE hK HR.o
  ·go_simp
   first|exact hK _ _ _ rfl Ab HR.o rfl|exact kE hK HR.o
  ·go_simp
   rw[Htk.o]
   first|exact hK _ _ _ rfl Ab HR.o rfl|exact kE hK HR.o
  ·go_simp
   first|exact hK _ _ _ rfl Ab HR.o rfl|exact kE hK HR.o|exact hK undef _ _ Ab Ab HR.o (by simp[Act.put,hpre])|exact hK _ _ _ Ab Ab HR.o rfl|exact kE hK HR.o
  ·go_simp
   refine(Hpn.o W).mono ?_
   rintro e w' ⟨rfl,rfl⟩
   exact kE hK HR.o
  iterate 5
   ·go_simp
    first|exact hK _ _ _ rfl Ab HR.o rfl|exact kE hK HR.o|exact hK undef _ _ Ab Ab HR.o (by simp[Act.put,hpre])|exact hK _ _ _ Ab Ab HR.o rfl|exact kE hK HR.o
 rintro L U W hL hφ hR
 have e18:U 18=.int .i64 (n:Int):=hφ 18 (by decide)
 have e19:U 19=.bool ok:=hφ 19 (by decide)
 simp only[e18,e19]
 clear hφ
 obtain⟨k,rfl⟩:=hR
 clear hL
 have HS2:=Aa (HS1.o.drew k)
 have Hb2:=Aa (below_drewN Hb1.o k)
 obtain⟨q0,q1,_,_,_⟩:=HS2.o
 have hf1:=q1.live 1
 have hf2:=q1.live 2
 clear q1
 have j2:=HS2.o.2.2.2.1
 have j3:=HS2.o.2.2.2.2
 cases ok with
 |true=>
  go_wp2_with fail
  go_ret
  refine⟨rfl,by simpa using HS2.o.setText r,(Cp Hb2.o _).trans (Bc _ _ _ _)⟩
 |false=>
  go_wp2_with fail
  go_ret
  refine⟨rfl,by simpa using(HS2.o.setBad true).setText r,((Cp Hb2.o _).trans (Bc _ _ _ _)).trans (Bc _ _ _ _)⟩
def Qih(t:List UInt8)(bad:Bool)(b:Nat)(p:Value)(w:World)(e:Ending)(w':World):Prop:=
 ∃(x t':List UInt8) (bad':Bool),e=.returned (.string ⟨x.toArray⟩)/\C4 w b p t' bad' w'/\(if bad then none else Mn t)=(if bad' then none else some (x,t'))/\x.length+t'.length<=t.length
theorem Nz{c:UInt8}{t:List UInt8}:((Am c t).getD t).length<=t.length:=by
 cases h:Am c t with
 |none=>exact Ap _
 |some r=>rw[B9]at h;subst h;simp
theorem B6(c:UInt8)(t:List UInt8)(bad:Bool):Ax [c] t bad=if bad then none else Am c t:=by unfold Ax;rw[Qdl]
theorem Qat(t t1 t3:List UInt8)(bad b1 b2 b3:Bool)(h1:t1=(Ax [39] t bad).getD t)(hb1:b1=(Ax [39] t bad).isNone)(h3:t3=(Ax [39] (t1.dropWhile B0) b1).getD (t1.dropWhile B0))(hb2:b2=(Ax [39] (t1.dropWhile B0) b1).isNone)
  (hb3:b3=(b2 || decide (12<(t1.takeWhile B0).length))):
  (if bad then none else Mn t)=(if b3 then none else some (t1.takeWhile B0,t3))/\(t1.takeWhile B0).length+t3.length<=t.length:=by
 have e:(t1.takeWhile B0).length+(t1.dropWhile B0).length=t1.length:=by rw[<-List.length_append,List.takeWhile_append_dropWhile]
 rw[B6]at h1 hb1 h3 hb2
 subst h1 hb1 h3 hb2 hb3
 constructor
 ·cases bad with
  |true=>simp
  |false=>
   unfold Mn
   simp only[Bool.false_eq_true,if_false]
   cases Am 39 t with
   |none=>simp
   |some r=>
    simp only[Option.getD_some,Option.isNone_some,Bool.false_eq_true,if_false]
    cases Am 39 (r.dropWhile B0)with
    |none=>simp
    |some q=>
     simp only[Option.getD_some,Option.isNone_some,Bool.false_or,decide_eq_true_eq]
     by_cases h:(r.takeWhile B0).length<=12
     ·rw[if_pos h,if_neg (by omega)]
     rw[if_neg h,if_pos (by omega)]
 have k1:((if bad=true then none else Am 39 t).getD t).length<=t.length:=by cases bad;exact Nz;exact Ap _
 generalize (if bad=true then none else Am 39 t)=o at *
 have k2:((if o.isNone=true then none else Am 39 ((o.getD t).dropWhile B0)).getD ((o.getD t).dropWhile B0)).length<=((o.getD t).dropWhile B0).length:=by cases o.isNone;exact Nz;exact Ap _
 omega
theorem Qb6(b:Nat)(p:Value)(t:List UInt8)(bad:Bool)(w:World)(h:Fs w b p t bad)(hl:t.length<=4000000):
  Calls prog 99 #[.pointer (some ⟨b,0,none⟩)] w (Qih t bad b p w):=by
 have Hq:=Aa (Qat t)
 have Hw1:=Aa (fun W (h:Fs W b p t bad)=>C0 b p t [39] bad W h hl)
 have hk1:((Ax [39] t bad).getD t).length<=t.length:=by rw[B6];cases bad;exact Nz;exact Ap _
 have HS:=Aa h
 clear h
 obtain⟨t1,ht1⟩:∃t1,t1=(Ax [39] t bad).getD t:=⟨_,rfl⟩
 obtain⟨b1,hb1⟩:∃b1,b1=(Ax [39] t bad).isNone:=⟨_,rfl⟩
 rw[<-ht1]at hk1
 have Hq:=Aa (fun t3 b2 b3=>Hq.o t1 t3 bad b1 b2 b3 ht1 hb1)
 rw[<-ht1,<-hb1]at Hw1
 clear ht1 hb1
 have Htl:=Aa (fun W=>Ms t1 Qbr W (by decide) (by decide))
 simp only[Qfk]at Htl
 unfold Qbr at Htl
 obtain⟨htk,hdl⟩:=P6 B0 t1
 have Htk:=Aa htk
 have Hw2:=Aa (fun W (h:Fs W b p (t1.dropWhile B0) b1)=>C0 b p (t1.dropWhile B0) [39] b1 W h (by omega))
 clear htk
 go_enter func99,ntmps99
 go_wp2_with fail
 refine(Hw1.o _ HS.o).mono ?_
 rintro e w1 ⟨rfl,hs1,hg1⟩
 have HS1:=Aa hs1
 have Hg1:=Aa hg1
 obtain⟨z1,_,_,c1,_⟩:=hs1
 clear hg1
 go_wp2_with fail
 refine(Htl.o _).mono ?_
 rintro e w2 ⟨rfl,hb2⟩
 have HS2:=Aa (HS1.o.grow hb2)
 have Hg2:=Aa (Hg1.o.trans (Cp hb2 _))
 have C2:=Aa HS2.o.2.2.2.1
 have hz2:b<w2.heap.size:=HS2.o.1
 clear hb2 c1 z1
 have kw:IntKind.i64.wrap ((t1.length:Int) - ((t1.dropWhile B0).length:Int))=(t1.length:Int) - ((t1.dropWhile B0).length:Int):=IntWalk.i64_in _ (by omega)
 have k1:(0:Int)<=(t1.length:Int) - ((t1.dropWhile B0).length:Int):=by omega
 have k2:(t1.length:Int) - ((t1.dropWhile B0).length:Int)<=(t1.length:Int):=by omega
 have k3:((t1.length:Int) - ((t1.dropWhile B0).length:Int)).toNat=t1.length - (t1.dropWhile B0).length:=by omega
 obtain⟨a,ha⟩:∃a,a=t1.takeWhile B0:=⟨_,rfl⟩
 obtain⟨r,hr⟩:∃r,r=t1.dropWhile B0:=⟨_,rfl⟩
 rw[<-ha]at Htk
 rw[<-hr]at Htk Hw2 hdl kw k1 k2 k3
 simp only[<-hr]
 have Hq:=Aa (fun t3 b2 b3=>Hq.o t3 b2 b3)
 simp only[<-hr,<-ha]at Hq
 clear ha hr
 go_wp2_with fail
 refine P3 [12,13,14,15,16,17,18,19,20,21,22,23,24,4]
  (fun ix v W=>match ix with|0=>v=.pointer (some ⟨b,0,none⟩)|1=>v=.pointer (some ⟨b,0,none⟩)|2=>v=.pointer (some ⟨b,1,none⟩)|3=>v=.string ⟨t1.toArray⟩|4=>v=.pointer (some ⟨b,0,none⟩)|5=>v=.pointer (some ⟨b,0,none⟩)|6=>v=.pointer (some ⟨b,1,none⟩)|7=>v=.string ⟨t1.toArray⟩|8=>v=.int .i64 (t1.length:Int)|9=>v=.string ⟨r.toArray⟩|10=>v=.int .i64 (r.length:Int)|11=>v=.int .i64 ((t1.length:Int) - (r.length:Int))|12=>v=.string ⟨a.toArray⟩|13=>v=.string ⟨a.toArray⟩|_=>True)
  (fun L U W=>∃k,W=w2.drewN k) (⟨1,rfl⟩) ?_ ?_
 ·repeat (first|exact Aq.nil|(refine Aq.cons ?_ ?_;rotate_left))
  all_goals
   rintro L U W hL hpre HR Hdep K hK
   obtain⟨k,hk⟩:=HR.o
   have c1:W.cell? ⟨b,1,none⟩=some (.string ⟨t1.toArray⟩):=by rw[hk];exact C2.o
   clear hk
   first|(simp[Region.binds]at hpre;done)|simp[Region.binds]at hpre|clear hpre
  iterate 11
   ·go_simp
    first|exact hK _ _ _ rfl Ab HR.o rfl|exact kE hK HR.o|exact hK undef _ _ Ab Ab HR.o (by simp[Act.put,hpre])|exact hK _ _ _ Ab Ab HR.o rfl|exact kE hK HR.o
  ·go_simp
   first|exact hK _ _ _ rfl Ab HR.o rfl|exact kE hK HR.o
  ·go_simp
   rw[Htk.o]
   first|exact hK _ _ _ rfl Ab HR.o rfl|exact kE hK HR.o
  ·go_simp
   first|exact hK _ _ _ rfl Ab HR.o rfl|exact kE hK HR.o|exact hK undef _ _ Ab Ab HR.o (by simp[Act.put,hpre])|exact hK _ _ _ Ab Ab HR.o rfl|exact kE hK HR.o
 rintro L U W hL hφ hR
 have e13:U 13=.string ⟨a.toArray⟩:=hφ 13 (by decide)
 simp only[e13]
 clear hφ
 obtain⟨k,rfl⟩:=hR
 clear hL
 have HS3:=Aa (HS2.o.drew k)
 have Hg3:=Aa (Hg2.o.trans (Cp (below_drewN (As _ _) k) _))
 have hf1:=HS3.o.2.1.live 1
 have q0:=HS3.o.1
 have j2:=HS3.o.2.2.2.1
 have j3:=HS3.o.2.2.2.2
 go_wp2_with fail
 refine(Hw2.o _ (HS3.o.setText r)).mono ?_
 rintro e w4 ⟨rfl,hs4,hg4⟩
 have HS4:=Aa hs4
 have Hg4:=Aa ((Hg3.o.trans (Bc _ _ _ _)).trans hg4)
 clear hg4 hs4 j2 j3 hf1 q0
 have Hq4:=Aa (fun b3=>Hq.o _ _ b3 rfl rfl)
 generalize (Ax [39] r b1).getD r=t3 at *
 generalize (Ax [39] r b1).isNone=b2 at *
 have hf2:=HS4.o.2.1.live 2
 have q0:=HS4.o.1
 have k3:=HS4.o.2.2.2.2
 by_cases hlen:a.length<=12
 ·have t1:decide ((12:Int)<(a.length:Int))=false:=by simp;omega
  go_wp2_with fail
  go_ret
  obtain⟨h1,h2⟩:=Hq4.o b2 (by simp;omega)
  exact⟨a,t3,b2,rfl,⟨HS4.o,Hg4.o⟩,h1,h2⟩
 have t1:decide ((12:Int)<(a.length:Int))=true:=by simp;omega
 go_wp2_with fail
 go_ret
 obtain⟨h1,h2⟩:=Hq4.o true (by simp;omega)
 exact⟨a,t3,true,rfl,⟨HS4.o.setBad true,Hg4.o.trans (Bc _ _ _ _)⟩,h1,h2⟩
theorem Yv{w W:World}{row:Option Nat}{B o:Nat}(h:w.grownBy W row)(hB:w.heap.size<=B):∀(cs:List Value) (o:Nat),w.grownBy (W.setCells B o cs) row:=by
 intro cs
 induction cs generalizing W with
 |nil=>intro o;exact h
 |cons v cs ih=>
  intro o
  refine ih (W:=W.setCell ⟨B,o,none⟩ v) ⟨h.os,h.tape,h.output,by simpa using h.size,fun k hk hne=>?_⟩ (o+1)
  rw[Go.heap_setCell_other _ _ _ _ (show k≠B by omega)]
  exact h.block k hk hne
theorem C4.trans{w w1 w2:World}{b:Nat}{p:Value}{t t':List UInt8}{x y:Bool}(h1:C4 w b p t x w1)(h2:C4 w1 b p t' y w2):C4 w b p t' y w2:=⟨h2.1,h1.2.trans h2.2⟩
theorem C4.pre{w w1 w2:World}{b:Nat}{p:Value}{t:List UInt8}{x:Bool}(hb:Below w.heap.size w w1)(h:C4 w1 b p t x w2):C4 w b p t x w2:=⟨h.1,(Cp hb _).trans h.2⟩
theorem C4.post{w w1 w2:World}{b:Nat}{p:Value}{t:List UInt8}{x:Bool}(h:C4 w b p t x w1)(hb:Below w1.heap.size w1 w2):C4 w b p t x w2:=⟨h.1.grow hb,h.2.trans (Cp hb _)⟩
theorem C4.set{w W:World}{b B:Nat}{p:Value}{t:List UInt8}{x:Bool}(h:C4 w b p t x W)(hB:w.heap.size<=B)(hne:B≠b)(cs:List Value):C4 w b p t x (W.setCells B 0 cs):=by
 obtain⟨⟨h0,h1,h2,h3,h4⟩,hg⟩:=h
 have hk:(W.setCells B 0 cs).heap[b]?=W.heap[b]?:=(Jm B cs 0 W).block b h0 (by simpa using hne.symm)
 have hc:∀o,(W.setCells B 0 cs).cell? ⟨b,o,none⟩=W.cell? ⟨b,o,none⟩:=fun o=>World.cell?_of_block (a:=⟨b,o,none⟩) hk
 obtain⟨c1,t1,e1⟩:=h1
 exact⟨⟨by rw[Cy];exact h0,⟨c1,t1,hk.trans e1⟩,(hc 0).trans h2,(hc 1).trans h3,(hc 2).trans h4⟩,Yv (o:=0) hg hB cs 0⟩
theorem C4.env{w0 w w1:World}{b:Nat}{p:Value}{t:List UInt8}{x:Bool}(h:C4 w b p t x w1)(h0:Below w0.heap.size w0 w)(hb:w0.heap.size<=b):Below w0.heap.size w0 w1:=
 h0.grown h.2 h0.size fun k hk=>by injection hk with hk;omega
theorem D8.set{P:Nat->Prop}{w:World}{v:Value}{ks:List Vl}(h:D8 P w v ks){B:Nat}(hB:¬P B)(cs:List Value):D8 P (w.setCells B 0 cs) v ks:=
 h.grown (Jm B cs 0 w) fun b hb e=>by injection e with e;subst e;exact hB hb
def J2(w:World)(b:Nat)(p:Value)(t:List UInt8)(N:Nat)(r:Option (Vl × List UInt8))(e:Ending)(w':World):Prop:=
 ∃(v:Vl) (sl:Value) (t':List UInt8),e=.returned (G1 v sl)/\D8 (fun b=>w.heap.size<=b) w' sl v.kids/\C4 w b p t' r.isNone w'/\(∀x,r=some x->v=x.1/\t'=x.2)/\Bd v/\t'.length<=t.length/\(Az v).length+t'.length<=t.length+8*N
def Fi:Vl:=.mk 0 [] 0 []
theorem El{w:UInt8}{tx:List UInt8}{tg:Nat}(h1:tg<=1000000000)(h3:tx.length<=1000000):Bd (.mk w tx tg []):=.mk h1 (by simp[Cu]) h3 (by simp)
end
end Go.Proofs.YtkigmebejmmikaaGreatDoor
