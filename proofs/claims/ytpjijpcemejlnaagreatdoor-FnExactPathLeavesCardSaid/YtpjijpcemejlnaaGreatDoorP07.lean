/- Texts joined. Conditions: as each theorem names them. -/
import Derived.Laws.EntriesVeiled
import Derived.Deep.AppendLies
import Derived.Deep.RegionWith
import Derived.Laws.Rows
import Derived.ArgAppend
import Derived.Test.YtpjijpcemejlnaaGreatDoorP06
import Derived.Test.YtpjijpcemejlnaaGreatDoorP10
set_option maxRecDepth 100000
set_option maxHeartbeats 32000000
set_option linter.unusedVariables false
set_option linter.unusedSimpArgs false
namespace Go.Proofs.YtpjijpcemejlnaaGreatDoor
open Go.RowKit Go.Proofs.Tryz
theorem Tryz.xtraJ:Builder.Extra prog Tryz.lays156_ren where
 sizeBuilder:=aM
 liesBuilder:=aM
 t5:=underlying5
 a5:=isAgg5
 z5:=sizeOf5
 v5:=zeroValue5
 infoByte:=aM
 cellsByte:=aM
 sizeByte:=aM
 neB5:=aJ
theorem Sb(c:UInt8):∀ps:List (List UInt8),Lib.join ps [c]=Aq c ps
 |[]=>rfl
 |[p]=>by rw[Lib.join_one];rfl
 |p::q::r=>by
  have ih:=Sb c (q::r);rw[Cj c p aK,<-ih,Lib.join_cons p,Lib.join_cons q];simp[Lib.joinTail]
theorem Qby(ps:List (List UInt8)):ps.length<=Df ps:=by
 induction ps with
 |nil=>exact Ap _
 |cons p ps ih=>rw[Er,List.length_cons];omega
theorem Qg7(sep:List UInt8)(A:Option Addr)(c:Nat)(ps:List (List UInt8))(w:World)(hr:Bf w A ps.length (Ag ps))(hcp:ps.length<=c)(hl:Df ps<=2000000)(hj:(Lib.join ps sep).length<=2000000):
  Calls prog 45 #[.slice A ps.length c,sep] w fun e w'=>e=.returned (.string ⟨(Lib.join ps sep).toArray⟩)/\Below w w w':=by
 by_cases h0:ps.length=0
 ·have e0:ps=[]:=List.length_eq_zero_iff.1 h0;subst e0;exact(Any.strings_Join_none Tryz.lays156 Tryz.xtraJ A c ⟨sep.toArray⟩ w).mono fun e w' ⟨he,hw⟩=>⟨he,hw ▸ Au _ _⟩
 have hpl:=Qby ps;obtain⟨hlc,_,hrow⟩:=hr;obtain⟨b,off,rfl,hb,hcl⟩:=hrow aG;have e1:(ps.map fun p=>(⟨p.toArray⟩:ByteArray)).map (·.data.toList)=ps:=by rw[List.map_map];exact List.map_id ps
 have h:=Any.strings_Join Tryz.lays156 Tryz.xtraJ b off c (ps.map fun p=>(⟨p.toArray⟩:ByteArray)) ⟨sep.toArray⟩ w (fun j x hx=>by
  rw[List.getElem?_map]at hx;obtain⟨p,hp,rfl⟩:=Option.map_eq_some_iff.1 hx;exact hcl j _ (by rw[Ag,List.getElem?_map,hp];rfl)) hb (by rw[List.length_map];omega) (by rw[List.length_map];exact hcp) (by rw[e1];show (Lib.join ps sep).length<=_;omega)
 rw[e1,List.length_map]at h;exact h
theorem Qes(s:UInt8)(A:Option Addr)(c:Nat)(ps:List (List UInt8))(w:World)(hr:Bf w A ps.length (Ag ps))(hcp:ps.length<=c)(hl:Df ps<=2000000):
  Calls prog 45 #[.slice A ps.length c,.string ⟨#[s]⟩] w fun e w'=>e=.returned (.string ⟨(Aq s ps).toArray⟩)/\Below w w w':=by
 have:=Qg7 [s] A c ps w hr hcp hl (by rw[Sb,Bw];omega);rwa [Sb]at this
theorem Qg2(A:Option Addr)(c:Nat)(ps:List (List UInt8))(w:World)(hr:Bf w A ps.length (Ag ps))(hcp:ps.length<=c)(hl:Df ps<=2000000):
  Calls prog 45 #[.slice A ps.length c,.string ⟨#[44]⟩] w fun e w'=>e=.returned (.string ⟨(Aq 44 ps).toArray⟩)/\Below w w w':=Qes 44 A c ps w hr hcp hl
section
attribute [local go_sem] Qhy Qhh Qg3 Qfo ByteArray.mk_append_mk
def Kf(B:Nat)(okb:Bool)(ls:List (List UInt8))(vo:Value)(w:World):Prop:=
 B+2<=w.heap.size/\w.cell? ⟨B,0,none⟩=some (.bool okb)/\w.frozen? ⟨B,0,none⟩=false/\w.cell? ⟨B+1,0,none⟩=some vo/\w.frozen? ⟨B+1,0,none⟩=false/\w.ownsRow (B+2) 9 1 vo ls.length (Ag ls)
structure Cw(B:Nat)(vo:Value)(w w':World)(vo':Value):Prop where
 os:w'.os=w.os
 tape:w'.tape=w.tape
 output:w'.output=w.output
 size:w.heap.size<=w'.heap.size
 block:∀b,b<w.heap.size->b≠B->b≠B+1->some b≠vo.ownBlock->w'.heap[b]?=w.heap[b]?
 own:vo'.ownBlock=vo.ownBlock\/∃k,vo'.ownBlock=some k/\w.heap.size<=k
theorem Cw.of_gw{B:Nat}{vo vo':Value}{w w':World}(h:Gw vo vo' w w'):Cw B vo w w' vo':=⟨h.gr.os,h.gr.tape,h.gr.output,h.gr.size,fun b hb _ _ hne=>h.gr.block b hb hne,h.own⟩
theorem Cw.refl(B:Nat)(vo:Value)(w:World):Cw B vo w w vo:=.of_gw (Gw.refl vo w)
theorem Cw.of_below{B:Nat}{vo:Value}{w w':World}(h:Below w.heap.size w w'):Cw B vo w w' vo:=.of_gw (Gw.of h)
theorem Cw.trans{B:Nat}{v1 v2 v3:Value}{a b c:World}(h:Cw B v1 a b v2)(k:Cw B v2 b c v3):Cw B v1 a c v3:=by
 refine⟨k.os.trans h.os,k.tape.trans h.tape,k.output.trans h.output,Nat.le_trans h.size k.size,fun x hx h1 h2 h3=>(k.block x (Nat.lt_of_lt_of_le hx h.size) h1 h2 ?_).trans (h.block x hx h1 h2 h3),?_⟩
 ·rcases h.own with e|⟨y,e,hy⟩
  ·rw[e];exact h3
  rw[e];intro he;injection he with he;omega
 rcases k.own with e|⟨y,e,hy⟩
 ·rw[e];exact h.own
 exact .inr ⟨y,e,Nat.le_trans h.size hy⟩
theorem Cw.set{B b:Nat}(vo:Value)(w:World)(hb:b=B\/b=B+1)(x:Value):Cw B vo w (w.setCell ⟨b,0,none⟩ x) vo:=
 ⟨rfl,rfl,rfl,by simp,fun k hk h1 h2 _=>Below.heap_setCell w ⟨b,0,none⟩ x k (by rcases hb with rfl|rfl;exact h1;exact h2),.inl rfl⟩
theorem Cw.cell{B:Nat}{vo vo':Value}{w w':World}(h:Cw B vo w w' vo'){b o:Nat}{u:Value}(hu:w.cell? ⟨b,o,none⟩=some u)(hb:b<w.heap.size)(h1:b≠B)(h2:b≠B+1)(h3:some b≠vo.ownBlock):w'.cell? ⟨b,o,none⟩=some u:=(World.cell?_of_block (h.block b hb h1 h2 h3)).trans hu
theorem Kf.lt{B:Nat}{okb:Bool}{ls:List (List UInt8)}{vo:Value}{w:World}(h:Kf B okb ls vo w):∀k,vo.ownBlock=some k->B+2<=k/\k<w.heap.size:=fun k hk=>h.2.2.2.2.2.lt k hk
theorem Kf.below{B:Nat}{okb:Bool}{ls:List (List UInt8)}{vo:Value}{w w':World}(h:Kf B okb ls vo w)(hb:Below w.heap.size w w'):Kf B okb ls vo w':=by
 obtain⟨h1,h2,h3,h4,h5,h6⟩:=h
 exact⟨Nat.le_trans h1 hb.size,(hb.cell (p:=⟨B,0,none⟩) (show B<_ by omega)).trans h2,(hb.frozen (p:=⟨B,0,none⟩) (show B<_ by omega)).trans h3,(hb.cell (p:=⟨B+1,0,none⟩) (show B+1<_ by omega)).trans h4,(hb.frozen (p:=⟨B+1,0,none⟩) (show B+1<_ by omega)).trans h5,Ax h6 hb⟩
theorem Sh(w:World)(a:Addr)(v:Value):w.grownBy (w.setCell a v) (some a.block):=⟨rfl,rfl,rfl,by simp,fun k _ hne=>Below.heap_setCell w a v k (fun e=>hne (by rw[e]))⟩
def Sl(B n:Nat)(ls:List (List UInt8))(t:List UInt8)(vo:Value)(w:World):Bool->Bool->Bool->Value->Value->World->Prop
 |false,false,false,_,_,W=>Below w.heap.size w W
 |true,false,false,u3,_,W=>∃W0,Below w.heap.size w W0/\W=W0.alloc (.cells #[.string ⟨t.toArray⟩] 9)/\u3=.slice (some ⟨W0.heap.size,0,none⟩) 1 1
 |true,true,false,_,u4,W=>∃A c,u4=.slice A (n+1) c/\W.ownsRow (B+2) 9 1 (.slice A (n+1) c) (n+1) (Ag (ls++[t]))/\Gw vo (.slice A (n+1) c) w W
 |true,true,true,_,u4,W=>∃A c W2,u4=.slice A (n+1) c/\W2.ownsRow (B+2) 9 1 (.slice A (n+1) c) (n+1) (Ag (ls++[t]))/\Gw vo (.slice A (n+1) c) w W2/\W=W2.setCell ⟨B+1,0,none⟩ (.slice A (n+1) c)
 |_,_,_,_,_,_=>False
def Xc(B:Nat)(okb:Bool)(ls:List (List UInt8))(vo:Value)(w:World)(e:Ending)(w':World):Prop:=e=.returned (.tuple #[])/\∃A n c,Kf B okb ls (.slice A n c) w'/\Cw B vo w w' (.slice A n c)
theorem Qd6(B:Nat)(okb:Bool)(ls:List (List UInt8))(A0:Option Addr)(n0 c0:Nat)(w:World)(hst:Kf B okb ls (.slice A0 n0 c0) w)(hll:ls.length<=100000)(ps:List (List UInt8))(A:Option Addr)(c:Nat)(hr:Bf w A ps.length (Ag ps))(hcp:ps.length<=c)
  (hfar:∀g o,0<ps.length->A=some ⟨g,o,none⟩->g≠B/\g≠B+1/\some g≠(Value.slice A0 n0 c0).ownBlock) (hl:Df ps<=1000000):
  Calls prog 44 #[.slice A ps.length c,.pointer (some ⟨B,0,none⟩),.pointer (some ⟨B+1,0,none⟩)] w (Xc B (okb && decide ((ps.length:Int)<=8)) (ls++[Aq 47 ps]) (.slice A0 n0 c0) w):=by
 obtain⟨hz,k0,f0,k1,f1,hown⟩:=hst
 obtain⟨X,hX⟩:∃X,X=(okb && decide ((ps.length:Int)<=8)):=⟨_,rfl⟩
 rw[<-hX]
 obtain⟨w1,hw1⟩:∃w1,w1=w.setCell ⟨B,0,none⟩ (.bool X):=⟨_,rfl⟩
 have hB1:B<w.heap.size:=by omega
 have hB2:B+1<w.heap.size:=by omega
 have hfl:=fun k hk=>hown.lt k hk
 have hk1:Cw B (.slice A0 n0 c0) w w1 (.slice A0 n0 c0):=by rw[hw1];exact Cw.set _ _ (.inl rfl) _
 have hz1:w1.heap.size=w.heap.size:=by rw[hw1];simp
 have g0:w1.cell? ⟨B,0,none⟩=some (.bool X):=by rw[hw1];simp[go_sem,k0,f0]
 have d0:w1.frozen? ⟨B,0,none⟩=false:=by rw[hw1];simp[go_sem,f0]
 have g1:w1.cell? ⟨B+1,0,none⟩=some (.slice A0 n0 c0):=by rw[hw1];rw[World.cell?_setCell_other _ _ _ _ (by intro e;injection e with e1 e2;omega)];exact k1
 have d1:w1.frozen? ⟨B+1,0,none⟩=false:=by rw[hw1];simp[go_sem,f1]
 have hown1:w1.ownsRow (B+2) 9 1 (.slice A0 n0 c0) ls.length (Ag ls):=by
  rw[hw1]
  refine hown.kept (row:=some B) (Sh w ⟨B,0,none⟩ _) (.inr fun e=>?_)
  have:=(hfl B e).1
  omega
 have hr1:Bf w1 A ps.length (Ag ps):=hr.keptP (P:=fun g=>g≠B/\g≠B+1/\some g≠(Value.slice A0 n0 c0).ownBlock) hfar (fun b o u hp hb hu=>hk1.cell hu hb hp.1 hp.2.1 hp.2.2) hk1.size
 have hlB:B<w1.heap.size:=by omega
 have hlB1:B+1<w1.heap.size:=by omega
 have Hk1:=Aa hk1
 have HX:=Aa hX
 have Hown1:=Aa hown1
 have HJ:=Aa (fun W (hW:Below w1.heap.size w1 W)=>Qes 47 A c ps W (hr1.below hW) hcp (by omega))
 have Hfl:=Aa hfl
 have hn0:n0=ls.length:=by obtain⟨_,_,e,_⟩:=Bf.own hown;injection e
 subst hn0
 clear hX hfl hk1 hown1 hr1 hown hr hfar hz1 hB1 hB2
 cases okb<;>
 ·go_enter func44,ntmps44
  go_wp2_with fail
  simp only[Bool.false_and,Bool.true_and]at HX
  have hX:=HX.o
  rw[hX]at hw1
  rw[<-hw1]
  clear hw1 hX
  refine rgF (fun l u W=>Sl B ls.length ls (Aq 47 ps) (.slice A0 ls.length c0) w1 (l 3) (l 4) (l 5) (u 3) (u 4) W) (fun _=>True) (fun _ _ _ _=>Ab) (Au _ _).drew ?_
  refine Py (fun x=>x=.slice A0 ls.length c0) (by
   intro l u W hl hp hF hG hi K hK
   have h4:=(hi.o 4 (by rfl)).1
   have hc:W.cell? ⟨B+1,0,none⟩=some (.slice A0 ls.length c0):=by
    have h:Sl B ls.length ls (Aq 47 ps) (.slice A0 ls.length c0) w1 (l 3) (l 4) (l 5) (u 3) (u 4) W:=hF.o
    cases h3:l 3<;>cases h5:l 5<;>rw[h3,h4,h5]at h
    ·exact(h.cell (p:=⟨B+1,0,none⟩) hlB1).trans g1
    ·exact h.elim
    ·obtain⟨W0,hb,rfl,_⟩:=h
     exact((hb.alloc hb.size _).cell (p:=⟨B+1,0,none⟩) hlB1).trans g1
    exact h.elim
   clear h4 hp
   go_simp
   exact hK _ _ _ rfl hF.o rfl) ?_
  refine sq ?_
  refine Py (fun x=>x=.string ⟨(Aq 47 ps).toArray⟩) (by
   intro l u W hl hp hF hG hi K hK
   have h3:=(hi.o 3 (by rfl)).1
   simp[Region.binds,Et]at hp
   have h:Sl B ls.length ls (Aq 47 ps) (.slice A0 ls.length c0) w1 (l 3) (l 4) (l 5) (u 3) (u 4) W:=hF.o
   rw[h3]at h
   cases h4:l 4<;>cases h5:l 5<;>rw[h4,h5]at h
   ·go_simp
    refine(HJ.o W h).mono ?_
    rintro e w' ⟨rfl,hb⟩
    refine hK _ _ _ rfl ?_ (by simp[Act.put,hp])
    show Sl _ _ _ _ _ _ (l 3) (l 4) (l 5) _ _ _
    rw[h3,h4,h5]
    exact h.trans (hb.mono h.size)
   ·exact h.elim
   ·exact h.elim
   exact h.elim) ?_
  refine Py (fun x=>True) (by
   intro l u W hl hp hF hG hi K hK
   have h4:=(hi.o 4 (by rfl)).1
   simp[Region.binds,Et]at hp
   have h:Sl B ls.length ls (Aq 47 ps) (.slice A0 ls.length c0) w1 (l 3) (l 4) (l 5) (u 3) (u 4) W:=hF.o
   rw[hl,h4]at h
   cases h5:l 5<;>rw[h5]at h
   ·go_simp
    refine hK _ _ _ Ab ?_ (by simp[Act.put,hp];exact rfl)
    show Sl _ _ _ _ _ _ true (l 4) (l 5) _ _ _
    rw[h4,h5]
    exact⟨W,h,rfl,rfl⟩
   exact h.elim) ?_
  refine Py (fun x=>True) (by
   intro l u W hl hp hF hG hi K hK
   have h5:=(hi.o 5 (by rfl)).1
   simp[Region.binds,Et]at hp
   have h:Sl B ls.length ls (Aq 47 ps) (.slice A0 ls.length c0) w1 (l 3) (l 4) (l 5) (u 3) (u 4) W:=hF.o
   rw[hl,h5,hp.2.1]at h
   obtain⟨W0,hb,rfl,e3⟩:=h
   clear hG hi
   have hb':=Aa hb
   simp only[Region.wanted,if_true]
   refine Pp W0 (.tmp 10) (.tmp 13) 31 rfl (B+2) 9 (.string ⟨#[]⟩) 1 16 underlying31 Gd rfl (by decide) [.string ⟨(Aq 47 ps).toArray⟩] rfl (by simp[Value.oneCell']) (.slice A0 ls.length c0) ls.length (Ag ls) ?_ ?_ (Ax Hown1.o hb) (by unfold maxLen;omega) (by omega) (by have:=hb.size;omega) ?_
   ·simp[hp];rfl
   ·simp[hp,e3];rfl
   intro v' w5 hown5 hg5 hwh5
   obtain⟨A5,c5,rfl,_⟩:=Bf.own hown5
   refine hK _ _ _ Ab ?_ rfl
   show Sl _ _ _ _ _ _ (l 3) true (l 5) _ _ _
   rw[h5,hp.2.1]
   refine⟨A5,c5,rfl,?_,?_⟩
   ·rw[Nv];exact hown5
   exact(Gw.of hb).trans ⟨hg5,hwh5⟩) ?_
  refine Py (fun x=>True) (by
   intro l u W hl hp hF hG hi K hK
   simp[Region.binds,Et]at hp
   have h:Sl B ls.length ls (Aq 47 ps) (.slice A0 ls.length c0) w1 (l 3) (l 4) (l 5) (u 3) (u 4) W:=hF.o
   have h4:l 4=true:=by simp[hp]
   rw[hl,h4]at h
   cases h3:l 3<;>rw[h3]at h
   ·exact h.elim
   obtain⟨A5,c5,e4,hown5,hg5⟩:=h
   have hne:some (B+1)≠(Value.slice A0 ls.length c0).ownBlock:=fun e=>by have:=(Hfl.o _ e.symm).1;omega
   have hc:W.cell? ⟨B+1,0,none⟩=some (.slice A0 ls.length c0):=hg5.gr.cell g1 hne
   have hf:W.frozen? ⟨B+1,0,none⟩=false:=(hg5.gr.frozen_far ⟨B+1,0,none⟩ hlB1 hne).trans d1
   clear hG hi
   go_simp
   refine hK undef _ _ Ab ?_ (by simp[Act.put,hp,e4])
   show Sl _ _ _ _ _ _ (l 3) (l 4) true _ _ _
   rw[h3,h4]
   exact⟨A5,c5,W,e4,hown5,hg5,by first|rfl|rw[e4]⟩) ?_
  intro l u W hl _ hR
  have h:Sl B ls.length ls (Aq 47 ps) (.slice A0 ls.length c0) w1 (l 3) (l 4) (l 5) (u 3) (u 4) W:=hR
  rw[hl 3 (by decide),hl 4 (by decide),hl 5 (by decide)]at h
  obtain⟨A5,c5,W2,e4,hown5,hg5,hW⟩:=h
  have hne:some (B+1)≠(Value.slice A0 ls.length c0).ownBlock:=fun e=>by have:=(Hfl.o _ e.symm).1;omega
  have hne0:some B≠(Value.slice A0 ls.length c0).ownBlock:=fun e=>by have:=(Hfl.o _ e.symm).1;omega
  have hc:W2.cell? ⟨B+1,0,none⟩=some (.slice A0 ls.length c0):=hg5.gr.cell g1 hne
  have hf:W2.frozen? ⟨B+1,0,none⟩=false:=(hg5.gr.frozen_far ⟨B+1,0,none⟩ hlB1 hne).trans d1
  have hc0:W2.cell? ⟨B,0,none⟩=_:=hg5.gr.cell g0 hne0
  have hf0:W2.frozen? ⟨B,0,none⟩=false:=(hg5.gr.frozen_far ⟨B,0,none⟩ hlB hne0).trans d0
  have fin:Xc B X (ls++[Aq 47 ps]) (.slice A0 ls.length c0) w (.returned (.tuple #[])) W:=by
   refine⟨rfl,A5,ls.length+1,c5,⟨?_,?_,?_,?_,?_,?_⟩,(Hk1.o.trans (Cw.of_gw hg5)).trans ?_⟩
   ·rw[hW];simp;have:=hg5.gr.size;omega
   ·rw[hW,World.cell?_setCell_other _ _ _ _ (by intro e;injection e with e1 e2;omega)];exact hc0
   ·rw[hW];simp[go_sem,hf0]
   ·rw[hW];simp[go_sem,hc,hf]
   ·rw[hW];simp[go_sem,hf]
   ·rw[hW]
    have:=hown5.kept (row:=some (B+1)) (Sh W2 ⟨B+1,0,none⟩ (.slice A5 (ls.length+1) c5)) (.inr fun e=>by have:=(hown5.lt _ e).1;omega)
    simpa using this
   rw[hW];exact Cw.set _ _ (.inr rfl) _
  have Fin:=Aa fin
  clear fin hR hW hown5 hg5 hc hf hc0 hf0 hl
  go_wp2_with fail
  apply bodyPost_end
  rotate_left
  ·rfl
  ·exact Fin.o
  exact results_none (by kernel_rfl) _ _ _
def Jv(k:Kd):Value:=.agg #[k.signs,k.base,k.name]
def Gm(o:Option Kd)(w:World)(e:Ending)(w':World):Prop:=
 (match o with
  |some k=>e=.returned (.tuple #[Jv k,.bool true])
  |none=>∃(a b c:ByteArray),e=.returned (.tuple #[.agg #[.string a,.string b,.string c],.bool false]))/\Below w w w'
theorem Gm.no{w w':World}{e:Ending}{o:Option Kd}(ho:o=none){a b c:ByteArray}(he:e=.returned (.tuple #[.agg #[.string a,.string b,.string c],.bool false]))(hb:Below w w w'):Gm o w e w':=by
 rw[ho];exact⟨⟨a,b,c,he⟩,hb⟩
theorem Gm.yes{w w':World}{e:Ending}{o:Option Kd}{k:Kd}(ho:o=some k)(he:e=.returned (.tuple #[Jv k,.bool true]))(hb:Below w w w'):Gm o w e w':=by
 rw[ho];exact⟨he,hb⟩
theorem Qeb(c:UInt8):([91,63]:List UInt8).contains c=Bl c:=by
 have:=Nj (p:=fun c=>([91,63]:List UInt8).contains c == Bl c) dN c;simpa using this
theorem Qdb(s:List UInt8):s.dropWhile (([91,63]:List UInt8).contains ·)=s.dropWhile Bl:=by
 congr 1;funext c;exact Qeb c
theorem Nq(r:List UInt8)(c:UInt8):Lib.hasSuffix r [c]=decide (r.getLast?=some c):=by
 rcases Dv r with rfl|⟨t,d,rfl⟩
 ·rfl
 unfold Lib.hasSuffix List.isSuffixOf;rw[List.reverse_append,List.getLast?_append];by_cases h:c=d
 ·subst h;simp[List.isPrefixOf]
 have h':d≠c:=fun e=>h e.symm;simp[List.isPrefixOf,h,h']
theorem Zo(s:List UInt8)(h:s.length<=12):∃g r,s=g++r/\s.dropWhile Bl=r /\
  ((∃b,(b=110\/b=116\/b=102)/\r=[b]/\Cg s=some ⟨g,r,[]⟩) \/
   (∃nm,r=64::(nm++[59])/\Cg s=if At nm=true then some ⟨g,[64],nm⟩else none) \/
   ((r == [110])=false/\(r == [116])=false/\(r == [102])=false/\(r.head?≠some 64\/(r.head?=some 64/\r.getLast?≠some 59))/\Cg s=none)):=by
 refine⟨s.takeWhile Bl,s.dropWhile Bl,List.takeWhile_append_dropWhile.symm,rfl,?_⟩;unfold Cg;rw[if_neg aG];by_cases h1:s.dropWhile Bl=[110]\/s.dropWhile Bl=[116]\/s.dropWhile Bl=[102]
 ·left;rw[if_pos h1];rcases h1 with h|h|h
  ·exact⟨110,by simp,h,rfl⟩
  ·exact⟨116,by simp,h,rfl⟩
  exact⟨102,by simp,h,rfl⟩
 right;rw[if_neg h1];simp only[not_or]at h1;by_cases h2:(s.dropWhile Bl).head?=some 64
 ·by_cases h3:(s.dropWhile Bl).getLast?=some 59
  ·left;have e:=Qbo h2 h3;refine⟨((s.dropWhile Bl).drop 1).dropLast,e,?_⟩;by_cases h4:At ((s.dropWhile Bl).drop 1).dropLast=true
   ·rw[if_pos ⟨h2,h3,h4⟩,if_pos h4]
   rw[if_neg (fun h=>h4 h.2.2),if_neg h4]
  right;refine⟨by simpa using h1.1,by simpa using h1.2.1,by simpa using h1.2.2,.inr ⟨h2,h3⟩,?_⟩;rw[if_neg (fun h=>h3 h.2.1)]
 right;refine⟨by simpa using h1.1,by simpa using h1.2.1,by simpa using h1.2.2,.inl h2,?_⟩;rw[if_neg (fun h=>h2 h.1)]
theorem Pt(s:List UInt8)(w:World)(hs:s.length<=4000000):
  Calls prog 96 #[s] w (Gm (Cg s) w):=by
 rcases aF 12 s.length with h12|h12
 ·have Hn:=Aa (show Cg s=none by unfold Cg;rw[if_pos h12]);go_enter func96,ntmps96;go_wp2_with fail;refine aE (v:=.tuple #[.agg #[a8,a8,a8],.bool false]) (by simp[results,results96,go_sem]) rfl ?_;exact Gm.no Hn.o rfl ((Au _ _).alloc (Ap _) _)
 obtain⟨g,r,hsr,hr,hcase⟩:=Zo s h12;have hT:=fun W=>Ma s [91,63] W aJ aJ;simp only[Qdb,hr]at hT;have HT:=Aa hT;have hl:s.length=g.length+r.length:=by rw[hsr];simp
 have Htk:=Aa (show s.take (s.length - r.length)=g by rw[hl,hsr];simp);have k1:(0:Int)<=(s.length:Int) - (r.length:Int):=aG;have k2:(s.length:Int) - (r.length:Int)<=(s.length:Int):=aG;have k3:((s.length:Int) - (r.length:Int)).toNat=s.length - r.length:=aG;have hr12:r.length<=12:=aG;have hl1:r.length<=s.length:=aG;clear hT hr hl hsr;rcases hcase with⟨b,hb,rfl,hk⟩|⟨nm,rfl,hk⟩|⟨q1,q2,q3,hh,hk⟩
 ·have h1:1<=s.length:=by simp at hl1;omega
  have Hg:=Aa (show s.take (s.length - 1)=g by simpa using Htk.o);have Hk:=Aa hk;clear hk k1 k2 k3;rcases hb with rfl|rfl|rfl
  ·go_enter func96,ntmps96;go_wp2_with fail;refine(HT.o _).mono ?_;rintro e w1 ⟨rfl,hb⟩;obtain⟨hc,hfz,hz⟩:=Bv hb;have hzz:=hz w.heap.size aK;have hn1:¬(w1.heap.size=w.heap.size):=aG;have hn2:¬(w.heap.size=w1.heap.size):=aG;have Hb:=Aa (((Au w.heap.size w).alloc (Ap _) _).trans (hb.mono aK));have u0:w1.cell? (w,0)=a8:=eK;have u1:w1.cell? (w,1)=a8:=eL;have u2:w1.cell? (w,2)=a8:=eM;have fu:∀j,w1.frozen? ⟨w.heap.size,j,none⟩=false:=fun j=>eI;clear hb hc hfz hz;go_wp2_with fail;refine aE (v:=.tuple #[.agg #[.string ⟨(s.take (s.length - 1)).toArray⟩,.string ⟨#[110]⟩,a8],.bool true]) (by simp[results,results96,go_sem,u0,u1,u2,fu,hn1,hn2,hzz]) rfl ?_;exact Gm.yes Hk.o ee aT
  ·go_enter func96,ntmps96;go_wp2_with fail;refine(HT.o _).mono ?_;rintro e w1 ⟨rfl,hb⟩;obtain⟨hc,hfz,hz⟩:=Bv hb;have hzz:=hz w.heap.size aK;have hn1:¬(w1.heap.size=w.heap.size):=aG;have hn2:¬(w.heap.size=w1.heap.size):=aG;have Hb:=Aa (((Au w.heap.size w).alloc (Ap _) _).trans (hb.mono aK));have u0:w1.cell? (w,0)=a8:=eK;have u1:w1.cell? (w,1)=a8:=eL;have u2:w1.cell? (w,2)=a8:=eM;have fu:∀j,w1.frozen? ⟨w.heap.size,j,none⟩=false:=fun j=>eI;clear hb hc hfz hz;go_wp2_with fail;refine aE (v:=.tuple #[.agg #[.string ⟨(s.take (s.length - 1)).toArray⟩,.string ⟨#[116]⟩,a8],.bool true]) (by simp[results,results96,go_sem,u0,u1,u2,fu,hn1,hn2,hzz]) rfl ?_;exact Gm.yes Hk.o ee aT
  go_enter func96,ntmps96;go_wp2_with fail;refine(HT.o _).mono ?_;rintro e w1 ⟨rfl,hb⟩;obtain⟨hc,hfz,hz⟩:=Bv hb;have hzz:=hz w.heap.size aK;have hn1:¬(w1.heap.size=w.heap.size):=aG;have hn2:¬(w.heap.size=w1.heap.size):=aG;have Hb:=Aa (((Au w.heap.size w).alloc (Ap _) _).trans (hb.mono aK));have u0:w1.cell? (w,0)=a8:=eK;have u1:w1.cell? (w,1)=a8:=eL;have u2:w1.cell? (w,2)=a8:=eM;have fu:∀j,w1.frozen? ⟨w.heap.size,j,none⟩=false:=fun j=>eI;clear hb hc hfz hz;go_wp2_with fail;refine aE (v:=.tuple #[.agg #[.string ⟨(s.take (s.length - 1)).toArray⟩,.string ⟨#[102]⟩,a8],.bool true]) (by simp[results,results96,go_sem,u0,u1,u2,fu,hn1,hn2,hzz]) rfl ?_;exact Gm.yes Hk.o ee aT
 ·have h1:nm.length+2<=s.length:=by simp at hl1;omega
  have Hg:=Aa (show s.take (s.length - (nm.length+1+1))=g by simpa using Htk.o);have hnl:nm.length<=12:=aG;have hmid:(nm++[59]).take nm.length=nm:=aK;have Hn:=Aa (fun W=>Jd nm W aG);have hp:([64]:List UInt8).isPrefixOf (64::(nm++[59]))=true:=rfl;have hs:Lib.hasSuffix (64::(nm++[59])) [59]=true:=by
   rw[Nq,show (64:UInt8)::(nm++[59])=(64::nm)++[59]from rfl,List.getLast?_append];rfl
  have Hp:=Aa (fun W=>Ns (64::(nm++[59])) [64] W);have Hs:=Aa (fun W=>Nt (64::(nm++[59])) [59] W aN);rw[hp]at Hp;rw[hs]at Hs;clear hp hs k1 k2 k3;rcases Bool.eq_false_or_eq_true (At nm)with hnm|hnm
  ·rw[if_pos hnm]at hk;rw[hnm]at Hn;have Hk:=Aa hk;clear hk hnm;go_enter func96,ntmps96;go_wp2_with fail;refine(HT.o _).mono ?_;rintro e w1 ⟨rfl,hb⟩;obtain⟨hc,hfz,hz⟩:=Bv hb;have hzz:=hz w.heap.size aK;have hn1:¬(w1.heap.size=w.heap.size):=aG;have hn2:¬(w.heap.size=w1.heap.size):=aG;have Hb:=Aa (((Au w.heap.size w).alloc (Ap _) _).trans (hb.mono aK));have u0:w1.cell? (w,0)=a8:=eK;have u1:w1.cell? (w,1)=a8:=eL;have u2:w1.cell? (w,2)=a8:=eM;have fu:∀j,w1.frozen? ⟨w.heap.size,j,none⟩=false:=fun j=>eI;clear hb hc hfz hz;go_wp2_with fail;refine(Hp.o _).mono ?_;rintro e w2 ⟨rfl,rfl⟩;go_wp2_with fail;refine(Hs.o _).mono ?_;rintro e w2 ⟨rfl,rfl⟩;go_wp2_with fail;go_region_with (go_at_call 140;refine(Hn.o _).mono ?_;rintro e w' ⟨rfl,hb6⟩;obtain⟨hc6,hfz6,hz6⟩:=Bv hb6;have y0:w'.cell? (w,0)=a8:=dF;have y1:w'.cell? (w,1)=a8:=dG;have y2:w'.cell? (w,2)=a8:=dH;have y6:=hz6 w.heap.size aN)
   all_goals
    go_wp2
    refine aE (v:=.tuple #[.agg #[.string ⟨(s.take (s.length - (nm.length+1+1))).toArray⟩,.string ⟨#[64]⟩,nm],.bool true]) (by simp[results,results96,go_sem,u0,u1,u2,fu,hn1,hn2,hzz,y0,y1,y2]) rfl ?_;exact Gm.yes Hk.o ee bD
  rw[if_neg (by rw[hnm];decide)]at hk;rw[hnm]at Hn;have Hk:=Aa hk;clear hk hnm;go_enter func96,ntmps96;go_wp2_with fail;refine(HT.o _).mono ?_;rintro e w1 ⟨rfl,hb⟩;obtain⟨hc,hfz,hz⟩:=Bv hb;have hzz:=hz w.heap.size aK;have hn1:¬(w1.heap.size=w.heap.size):=aG;have hn2:¬(w.heap.size=w1.heap.size):=aG;have Hb:=Aa (((Au w.heap.size w).alloc (Ap _) _).trans (hb.mono aK));have u0:w1.cell? (w,0)=a8:=eK;have u1:w1.cell? (w,1)=a8:=eL;have u2:w1.cell? (w,2)=a8:=eM;have fu:∀j,w1.frozen? ⟨w.heap.size,j,none⟩=false:=fun j=>eI;clear hb hc hfz hz;go_wp2_with fail;refine(Hp.o _).mono ?_;rintro e w2 ⟨rfl,rfl⟩;go_wp2_with fail;refine(Hs.o _).mono ?_;rintro e w2 ⟨rfl,rfl⟩;go_wp2_with fail;go_region_with (go_at_call 140;refine(Hn.o _).mono ?_;rintro e w' ⟨rfl,hb6⟩;obtain⟨hc6,hfz6,hz6⟩:=Bv hb6;have y0:w'.cell? (w,0)=a8:=dF;have y1:w'.cell? (w,1)=a8:=dG;have y2:w'.cell? (w,2)=a8:=dH;have y6:=hz6 w.heap.size aN)
  all_goals
   go_wp2
   refine aE (v:=.tuple #[.agg #[.string ⟨(s.take (s.length - (nm.length+1+1))).toArray⟩,.string ⟨#[64]⟩,nm],.bool false]) (by simp[results,results96,go_sem,u0,u1,u2,fu,hn1,hn2,hzz,y0,y1,y2]) rfl ?_;exact Gm.no Hk.o rfl bD
 have Hp:=Aa (fun W=>Ns r [64] W);have Hs:=Aa (fun W=>Nt r [59] W aG);have Hk:=Aa hk;have q1':¬(r=[110]):=by simpa using q1
 have q2':¬(r=[116]):=by simpa using q2
 have q3':¬(r=[102]):=by simpa using q3
 clear hk k1 k2 k3;rcases hh with hh|⟨hh,hl2⟩
 ·have hp:([64]:List UInt8).isPrefixOf r=false:=by
   cases r with
   |nil=>rfl
   |cons c r=>simp at hh;simp[List.isPrefixOf];exact fun e=>hh e.symm
  rw[hp]at Hp;clear hp hh;go_enter func96,ntmps96;go_wp2_with fail;refine(HT.o _).mono ?_;rintro e w1 ⟨rfl,hb⟩;obtain⟨hc,hfz,hz⟩:=Bv hb;have hzz:=hz w.heap.size aK;have hn1:¬(w1.heap.size=w.heap.size):=aG;have hn2:¬(w.heap.size=w1.heap.size):=aG;have Hb:=Aa (((Au w.heap.size w).alloc (Ap _) _).trans (hb.mono aK));have u0:w1.cell? (w,0)=a8:=eK;have u1:w1.cell? (w,1)=a8:=eL;have u2:w1.cell? (w,2)=a8:=eM;have fu:∀j,w1.frozen? ⟨w.heap.size,j,none⟩=false:=fun j=>eI;clear hb hc hfz hz;go_wp2_with fail;refine(Hp.o _).mono ?_;rintro e w2 ⟨rfl,rfl⟩;go_wp2_with fail;refine aE (v:=.tuple #[.agg #[a8,a8,a8],.bool false]) (by simp[results,results96,go_sem,u0,u1,u2,fu,hn1,hn2,hzz]) rfl ?_;exact Gm.no Hk.o rfl aT
 have hp:([64]:List UInt8).isPrefixOf r=true:=by
  cases r with
  |nil=>simp at hh
  |cons c r=>simp at hh;subst hh;rfl
 have hs:Lib.hasSuffix r [59]=false:=by rw[Nq];simpa using hl2
 rw[hp]at Hp;rw[hs]at Hs;clear hp hs hh hl2;go_enter func96,ntmps96;go_wp2_with fail;refine(HT.o _).mono ?_;rintro e w1 ⟨rfl,hb⟩;obtain⟨hc,hfz,hz⟩:=Bv hb;have hzz:=hz w.heap.size aK;have hn1:¬(w1.heap.size=w.heap.size):=aG;have hn2:¬(w.heap.size=w1.heap.size):=aG;have Hb:=Aa (((Au w.heap.size w).alloc (Ap _) _).trans (hb.mono aK));have u0:w1.cell? (w,0)=a8:=eK;have u1:w1.cell? (w,1)=a8:=eL;have u2:w1.cell? (w,2)=a8:=eM;have fu:∀j,w1.frozen? ⟨w.heap.size,j,none⟩=false:=fun j=>eI;clear hb hc hfz hz;go_wp2_with fail;refine(Hp.o _).mono ?_;rintro e w2 ⟨rfl,rfl⟩;go_wp2_with fail;refine(Hs.o _).mono ?_;rintro e w2 ⟨rfl,rfl⟩;go_wp2_with fail;refine aE (v:=.tuple #[.agg #[a8,a8,a8],.bool false]) (by simp[results,results96,go_sem,u0,u1,u2,fu,hn1,hn2,hzz]) rfl ?_;exact Gm.no Hk.o rfl aT
end
def Rk(f:Fd):List Value:=[(f.tag:Int),f.name,f.kind.signs,f.kind.base,f.kind.name,f.given]
def ifV(f:Fd):Value:=.agg #[(f.tag:Int),f.name,f.kind.signs,f.kind.base,f.kind.name,f.given]
theorem Qbu(f:Fd):(Rk f).length=6:=rfl
def S5(w:World)(v:Value)(fs:List Fd):Prop:=∃A c,v=.slice A fs.length c/\fs.length<=8/\Bf w A (fs.length*6) (fs.flatMap Rk)
theorem S5.below{w w':World}{v:Value}{fs:List Fd}(h:S5 w v fs)(hb:Below w w w'):S5 w' v fs:=by
 exact gB
theorem S5.at_{w:World}{A:Option Addr}{fs:List Fd}(hr:Bf w A (fs.length*6) (fs.flatMap Rk)){i:Nat}(hi:i<fs.length):
  ∃b off,A=some ⟨b,off,none⟩/\b<w.heap.size/\w.cell? ⟨b,off+i*6,none⟩=some (.int .i64 (fs[i].tag:Int))/\w.cell? ⟨b,off+i*6+1,none⟩=some (.string ⟨fs[i].name.toArray⟩) /\
   w.cell? ⟨b,off+i*6+2,none⟩=some (.string ⟨fs[i].kind.signs.toArray⟩)/\w.cell? ⟨b,off+i*6+3,none⟩=some (.string ⟨fs[i].kind.base.toArray⟩) /\
   w.cell? ⟨b,off+i*6+4,none⟩=some (.string ⟨fs[i].kind.name.toArray⟩)/\w.cell? ⟨b,off+i*6+5,none⟩=some (.string ⟨fs[i].given.toArray⟩):=by
 obtain⟨b,off,e,hlt,hc⟩:=hr.elem Qbu aJ hi;refine⟨b,off,e,hlt,?_,?_,?_,?_,?_,?_⟩
 ·exact gh
 ·exact fU
 ·exact g7
 ·have:=hc 3 _ rfl;simpa [Nat.add_assoc]using this
 ·have:=hc 4 _ rfl;simpa [Nat.add_assoc]using this
 have:=hc 5 _ rfl;simpa [Nat.add_assoc]using this
structure PT where
 ty:Ty
 blk:Nat
 fv:Value
def Ny(w:World)(b:Nat):Prop:=∃cs t,w.heap[b]?=some (.cells cs t (0,0))
theorem Ny.belowAt{B:Nat}{w w':World}{b:Nat}(h:Ny w b)(hb:b<B)(hw:Below B w w'):Ny w' b:=by
 obtain⟨cs,t,h⟩:=h;exact⟨cs,t,(hw.block b hb).trans h⟩
theorem Ny.grown{w w':World}{b:Nat}{row:Option Nat}(h:Ny w b)(hb:b<w.heap.size)(hg:w.grownBy w' row)(hne:some b≠row):Ny w' b:=by
 obtain⟨cs,t,h⟩:=h;exact⟨cs,t,(hg.block b hb hne).trans h⟩
theorem Ny.set{w:World}{b o:Nat}(h:Ny w b)(v:Value):Ny (w.setCell ⟨b,o,none⟩ v) b:=by
 obtain⟨cs,t,h⟩:=h;exact⟨_,t,heap_setCell_same w b o cs t v h⟩
theorem Ny.new(w:World)(cs:Array Value)(t:TypeId):Ny (w.alloc (.cells cs t)) w.heap.size:=⟨cs,t,heap_alloc_new w _⟩
def PT.ptr(x:PT):Value:=x.blk
def Sf(w:World)(x:PT):Prop:=
 x.blk<w.heap.size/\Ny w x.blk/\w.cell? (x.blk,0)=some (.int .u8 (x.ty.sort.toNat:Int))/\w.cell? (x.blk,1)=x.ty.name/\w.cell? (x.blk,2)=some x.fv/\w.cell? (x.blk,3)=some (.string ⟨(Vf x.ty).toArray⟩)/\S5 w x.fv x.ty.fields
theorem Sf.below{w w':World}{x:PT}(h:Sf w x)(hb:Below w w w'):Sf w' x:=by
 obtain⟨h0,hk,h1,h2,h3,h4,h5⟩:=h;obtain⟨hc,_,hz⟩:=Bv hb;exact⟨hz _ h0,hk.belowAt h0 hb,(hc _ _ h0).trans h1,(hc _ _ h0).trans h2,(hc _ _ h0).trans h3,(hc _ _ h0).trans h4,h5.below hb⟩
def Aj(xs:List PT):List Ty:=xs.map (·.ty)
def Fj(xs:List PT)(n:Cm):Option PT:=xs.find? fun x=>decide (x.ty.name=n)
theorem Jq(xs:List PT)(n:Cm):Ck (Aj xs) n=(Fj xs n).map (·.ty):=by
 unfold Ck Aj Fj;rw[List.find?_map];rfl
theorem H5{xs:List PT}{n:Cm}{x:PT}(h:Fj xs n=some x):x∈xs/\x.ty.name=n/\Ck (Aj xs) n=some x.ty:=by
 refine⟨List.mem_of_find?_eq_some h,?_,by rw[Jq,h];rfl⟩;have:=List.find?_some h;simpa using this
def Tv:Option PT->Value
 |some x=>x.ptr
 |none=>.pointer none
def Se(xs:List PT)(l:Lit):Value:=match l with|.string s=>Tv (Fj xs s)|_=>.pointer none
theorem Tryz.keyStr:Go.Maps.Keyed prog 9:=Go.Maps.string_keyed underlying9
theorem Tryz.zeroPtr(w:World):(zeroValue 100).run prog w=.ok (.pointer none) w:=aM
def M7(w:World)(mb:Nat)(xs:List PT):Prop:=Dm prog 9 (.pointer none) w mb xs.length (Se xs)
def Tq(w:World)(p:Value)(xs:List PT):Prop:=
 ∃b A c mb,p=.pointer (some ⟨b,0,none⟩)/\b<w.heap.size/\w.cell? ⟨b,0,none⟩=some (.slice A xs.length c)/\w.cell? ⟨b,1,none⟩=some (.map (some mb))/\Bf w A xs.length (xs.map (·.ptr))/\M7 w mb xs/\(∀x∈xs,Sf w x)/\xs.Pairwise fun x y=>x.blk≠y.blk
theorem Tq.below{w w':World}{p:Value}{xs:List PT}(h:Tq w p xs)(hb:Below w w w'):Tq w' p xs:=by
 obtain⟨b,A,c,mb,e,h0,h1,h2,h3,h4,h5,h6⟩:=h;obtain⟨hc,_,hz⟩:=Bv hb;exact⟨b,A,c,mb,e,hz _ h0,(hc _ _ h0).trans h1,(hc _ _ h0).trans h2,h3.below hb,Dm.below h4 hb,fun x hx=>(h5 x hx).below hb,h6⟩
theorem Qbl{n:Cm}(h:n.length<=9223372036854775807):keyOf prog 9 n=some (.string n):=by
 have:=Go.WideMaps.keyOf_string_mk (P:=prog) (k:=9) underlying9 (s:=⟨n.toArray⟩) (by unfold maxLen;exact h);simpa using this
def Dl(o:Option Fd)(w:World)(e:Ending)(w':World):Prop:=
 (match o with
  |some f=>e=.returned (.tuple #[ifV f,.bool true])
  |none=>∃(n:Int) (a b c d g:ByteArray),e=.returned (.tuple #[.agg #[.int .i64 n,.string a,.string b,.string c,.string d,.string g],.bool false]))/\Below w w w'
theorem Dl.no{w w':World}{e:Ending}{o:Option Fd}(ho:o=none){n:Int}{a b c d g:ByteArray}(he:e=.returned (.tuple #[.agg #[.int .i64 n,.string a,.string b,.string c,.string d,.string g],.bool false]))(hb:Below w w w'):Dl o w e w':=by
 rw[ho];exact⟨⟨n,a,b,c,d,g,he⟩,hb⟩
theorem Dl.yes{w w':World}{e:Ending}{o:Option Fd}{f:Fd}(ho:o=some f)(he:e=.returned (.tuple #[ifV f,.bool true]))(hb:Below w w w'):Dl o w e w':=by
 rw[ho];exact⟨he,hb⟩
def Np(x:Vl × Value):List Value:=[.int .u8 (x.1.what.toNat:Int),x.1.text,(x.1.tag:Int),x.2]
def Kc(v:Vl)(sl:Value):Value:=.agg #[.int .u8 (v.what.toNat:Int),v.text,(v.tag:Int),sl]
theorem Qbs(x:Vl × Value):(Np x).length=4:=rfl
def Av(xs:List (Vl × Value)):List Vl:=xs.map (·.1)
inductive Eb(P:Nat->Prop)(w:World):Value->List Vl->Prop
 |mk {v:Value} {ks:List Vl} (A:Option Addr) (c:Nat) (xs:List (Vl × Value)) (hv:v=.slice A xs.length c) (hk:ks=Av xs) (hl:xs.length<=1000) (hr:Bf w A (xs.length*4) (xs.flatMap Np))
   (hP:∀g o,0<xs.length->A=some ⟨g,o,none⟩->P g) (h:∀x∈xs,Eb P w x.2 x.1.kids):Eb P w v ks
theorem Eb.kept{P Q:Nat->Prop}{w w':World}{v:Value}{ks:List Vl}(h:Eb P w v ks)(hc:∀b o u,P b->b<w.heap.size->w.cell? ⟨b,o,none⟩=some u->w'.cell? ⟨b,o,none⟩=some u)
  (hz:w.heap.size<=w'.heap.size) (hQ:∀b,P b->b<w.heap.size->Q b):Eb Q w' v ks:=by
 induction h with
 |mk A c xs hv hk hl hr hP h ih=>
  refine .mk A c xs hv hk hl ⟨hr.1,hr.2.1,fun hn=>?_⟩ (fun g o hn e=>?_) ih
  ·obtain⟨b,off,e,hlt,hcs⟩:=hr.2.2 hn;exact⟨b,off,e,by omega,fun j u hu=>hc b _ u (hP b off aG e) hlt (hcs j u hu)⟩
  obtain⟨b,off,e2,hlt,_⟩:=hr.2.2 aG;rw[e]at e2;injection e2 with e2;injection e2 with e2 _ _;subst e2;exact hQ g (hP g o hn e) hlt
theorem Eb.after{P:Nat->Prop}{w w':World}{v:Value}{ks:List Vl}(h:Eb P w v ks)(hb:Below w w w'):Eb P w' v ks:=
 h.kept (fun b o u _ hl hu=>(hb.cell (p:=⟨b,o,none⟩) hl).trans hu) hb.size fun _ h _=>h
theorem Eb.mono{P Q:Nat->Prop}{w:World}{v:Value}{ks:List Vl}(h:Eb P w v ks)(hQ:∀b,P b->b<w.heap.size->Q b):Eb Q w v ks:=h.kept (fun _ _ _ _ _ hu=>hu) (Ap _) hQ
theorem Eb.grown{P:Nat->Prop}{w w':World}{v:Value}{ks:List Vl}{row:Option Nat}(h:Eb P w v ks)(hg:w.grownBy w' row)(hne:∀b,P b->some b≠row):Eb P w' v ks:=
 h.kept (fun b o u hp _ hu=>hg.cell hu (hne b hp)) hg.size fun _ h _=>h
theorem Eb.nil(P:Nat->Prop)(w:World):Eb P w (.slice none 0 0) []:=.mk none 0 [] rfl rfl aK ⟨rfl,ag _,fun h=>absurd h aK⟩ (fun _ _ h=>absurd h aK) aK
theorem Eb.form{P:Nat->Prop}{w:World}{v:Value}{ks:List Vl}(h:Eb P w v ks):∃A c,v=.slice A ks.length c:=by
 obtain⟨A,c,xs,rfl,rfl,_,_,_,_⟩:=h;exact⟨A,c,by simp[Av]⟩
theorem Eb.at_{w:World}{A:Option Addr}{xs:List (Vl × Value)}(hr:Bf w A (xs.length*4) (xs.flatMap Np)){i:Nat}(hi:i<xs.length):
  ∃b off,A=some ⟨b,off,none⟩/\b<w.heap.size/\w.cell? ⟨b,off+i*4,none⟩=some (.int .u8 (xs[i].1.what.toNat:Int))/\w.cell? ⟨b,off+i*4+1,none⟩=some (.string ⟨xs[i].1.text.toArray⟩) /\
   w.cell? ⟨b,off+i*4+2,none⟩=some (.int .i64 (xs[i].1.tag:Int))/\w.cell? ⟨b,off+i*4+3,none⟩=some xs[i].2:=by
 obtain⟨b,off,e,hlt,hc⟩:=hr.elem Qbs aJ hi;refine⟨b,off,e,hlt,?_,?_,?_,?_⟩
 ·exact gh
 ·exact fU
 ·exact g7
 have:=hc 3 _ rfl;simpa [Nat.add_assoc]using this
section
attribute [local go_sem] Qhy Qhh Qg3 Qfo ByteArray.mk_append_mk
def Tt(B:Nat):Value:=.func (.func 44) #[] #[.pointer (some ⟨B,0,none⟩),.pointer (some ⟨B+1,0,none⟩)]
def Nn(okb:Bool)(p:List Nat)(qs:List (List Nat)):Bool:=okb && qs.all fun q=>decide ((p++q).length<=8)
def Rt(B:Nat)(okb:Bool)(ls:List (List UInt8))(p:List Nat)(qs:List (List Nat))(vo:Value)(w:World)(e:Ending)(w':World):Prop:=e=.returned (.tuple #[])/\∃A n c,Kf B (Nn okb p qs) (ls++qs.map fun q=>En (p++q)) (.slice A n c) w'/\Cw B vo w w' (.slice A n c)
def Qha(S:List Ty)(d:Nat):Prop:=∀(k:Kd) (v:Vl),J9 S d k v->∀(P:Nat->Prop) (w:World) (sl:Value) (B:Nat) (okb:Bool) (ls:List (List UInt8)) (A0:Option Addr) (n0 c0:Nat) (p:List Nat) (A:Option Addr) (c:Nat),Eb P w sl v.kids->(∀x,P x->x<w.heap.size->x≠B/\x≠B+1/\some x≠(Value.slice A0 n0 c0).ownBlock) ->
 Kf B okb ls (.slice A0 n0 c0) w->Bf w A p.length (Ag (p.map An))->p.length<=c->(p=[]->A=none)->(∀g o,0<p.length->A=some ⟨g,o,none⟩->g≠B/\g≠B+1/\some g≠(Value.slice A0 n0 c0).ownBlock)->(∀g∈p,g<=1000)->p.length+d<=100->ls.length+(Co d v).length<=100000 ->
 Calls prog 43 #[Kc v sl,.slice A p.length c,Tt B] w (Rt B okb ls p (Co d v) (.slice A0 n0 c0) w)
theorem Qfe(wh:UInt8)(tx:List UInt8)(tg:Nat)(n:Nat)(hwh:wh=110\/wh=116\/wh=102\/wh=69\/wh=63/\n=0)(A9:Option Addr)(c9:Nat)(w:World)(B:Nat)(okb:Bool)(ls:List (List UInt8))(A0:Option Addr)(n0 c0:Nat)(p:List Nat)(A:Option Addr)(c:Nat)
  (hst:Kf B okb ls (.slice A0 n0 c0) w) (hr:Bf w A p.length (Ag (p.map An))) (hpc:p.length<=c) (hfar:∀g o,0<p.length->A=some ⟨g,o,none⟩->g≠B/\g≠B+1/\some g≠(Value.slice A0 n0 c0).ownBlock) (hp:∀g∈p,g<=1000) (hpl:p.length<=100) (hll:ls.length<=100000):
  Calls prog 43 #[.agg #[.int .u8 (wh.toNat:Int),.string ⟨tx.toArray⟩,.int .i64 (tg:Int),.slice A9 n c9],.slice A p.length c,Tt B] w (Rt B okb ls p [[]] (.slice A0 n0 c0) w):=by
 have hlen:Df (p.map An)<=1000000:=by
  have h:=Qb0 hp
  unfold En at h
  rw[Bw]at h
  omega
 have hal:=(Au w.heap.size w).alloc (Ap _) (.cells #[.int .u8 (wh.toNat:Int),.string ⟨tx.toArray⟩,.int .i64 (tg:Int),.slice A9 n c9] 47)
 have HS:=Aa (Qd6 B okb ls A0 n0 c0 _ (hst.below hal) hll (p.map An) A c (by simpa using hr.below hal) (by simpa using hpc) (by simpa using hfar) hlen)
 rw[show (p.map An).length=p.length by simp]at HS
 have HE:=Aa (show Nn okb p [[]]=(okb && decide ((p.length:Int)<=8))by
  unfold Nn
  simp only[List.all_cons,List.all_nil,List.append_nil,Bool.and_true]
  congr 1
  exact decide_eq_decide.2 (by omega))
 have Hal:=Aa hal
 clear hst hr hpc hfar hp hlen hal
 have fin:∀e w',Xc B (okb && decide ((p.length:Int)<=8)) (ls++[Aq 47 (p.map An)]) (.slice A0 n0 c0) (w.alloc (.cells #[.int .u8 (wh.toNat:Int),.string ⟨tx.toArray⟩,.int .i64 (tg:Int),.slice A9 n c9] 47)) e w'->Rt B okb ls p [[]] (.slice A0 n0 c0) w e w':=by
  rintro e w' ⟨he,A5,n5,c5,h1,h2⟩
  refine⟨he,A5,n5,c5,?_,(Cw.of_below Hal.o).trans h2⟩
  rw[HE.o,show (ls++([[]]:List (List Nat)).map fun q=>En (p++q))=ls++[Aq 47 (p.map An)]by simp[En]]
  exact h1
 have Fin:=Aa fin
 clear fin
 unfold Tt
 rcases hwh with rfl|rfl|rfl|rfl|⟨rfl,rfl⟩<;>
 ·go_enter func43,ntmps43
  go_wp2_with fail
  refine HS.o.mono ?_
  rintro e w' hpost
  have he:=hpost.1
  have Hf:=Aa (Fin.o _ _ hpost)
  subst he
  clear hpost
  go_wp2_with fail
  refine bodyPost_ret (results_none (by kernel_rfl) _ _ _) rfl ?_
  exact Hf.o
def Ju(B:Nat)(okb:Bool)(ls:List (List UInt8))(p:List Nat)(g:Nat)(qs:List (List Nat))(vo:Value)(wk:World):Bool->Bool->Bool->Value->Value->World->Prop
 |false,false,false,_,_,W=>Below wk.heap.size wk W
 |true,false,false,u9,_,W=>∃W0,Below wk.heap.size wk W0/\W=W0.alloc (.cells #[.string ⟨(An g).toArray⟩] 9)/\u9=.slice (some ⟨W0.heap.size,0,none⟩) 1 1
 |true,true,false,_,u10,W=>∃A5 c5,u10=.slice A5 (p++[g]).length c5/\W.ownsRow wk.heap.size 9 1 (.slice A5 (p++[g]).length c5) (p++[g]).length (Ag ((p++[g]).map An))/\Below wk.heap.size wk W
 |true,true,true,_,_,W=>∃A n c,Kf B (Nn okb (p++[g]) qs) (ls++qs.map fun q=>En (p++[g]++q)) (.slice A n c) W/\Cw B vo wk W (.slice A n c)
 |_,_,_,_,_,_=>False
theorem Rs{P:Program}(W:World){o:Oper}{a:Act}{K:Act->World->Prop}{Q:Exit->Act->World->Prop}(s x:Operand)(t:TypeId)
  (ho:o.op=.call {callee:=.builtin .append,args:=#[s,x],argTypes:=#[t,t]})
  (e:TypeId) (z:Value) (bytes:Nat) (ht:P.underlying t=some (.slice e)) (hinfo:(P.info? e).map (fun i=>(i.zero,i.size,i.bytes))=some (some z,1,bytes))
  (hzs:z.cells.size=1) (y:Value) (hy:y.oneCell'=true) (A:Option Addr) (n:Nat) (xs:List Value) (hs:a.eval s=.slice A n n) (hx:a.eval x=.slice (some ⟨W.heap.size,0,none⟩) 1 1)
  (hr:Bf W A n xs) (hnil:n=0->A=none) (h63:n+1<=maxLen) (hbytes:(n+1)*bytes<=140737488355328)
  (h:∀v' w',w'.ownsRow W.heap.size e 1 v' (n+1) (xs++[y])->Below W.heap.size W w'->K (a.put o.dst v') w'):Oper.wp P o a (W.alloc (.cells #[y] e)) K Q:=by
 obtain⟨i0,hi,hz0,hz1,hz2⟩:=info_parts hinfo
 have hW:Below W.heap.size W (W.alloc (.cells #[y] e)):=(Au _ _).alloc (Ap _) _
 have hcell:∀j u,[y][j]?=some u->(W.alloc (.cells #[y] e)).cell? ((⟨W.heap.size,0,none⟩:Addr).add j)=some u:=by
  intro j u hj
  match j,hj with
  |0,hj=>simp at hj;subst hj;simp[Addr.add,World.cell?_alloc_new]
 have key:∃v' w',(Builtin.append_ #[t,t] o.type #[.slice A n n,.slice (some ⟨W.heap.size,0,none⟩) 1 1]).run P (W.alloc (.cells #[y] e))=.ok v' w'/\w'.ownsRow W.heap.size e 1 v' (n+1) (xs++[y])/\Below W.heap.size W w':=by
  by_cases h0:n=0
  ·have e1:xs=[]:=List.eq_nil_of_length_eq_zero (by rw[hr.1,h0])
   rw[hnil h0,h0,e1]
   obtain⟨v',w',hrun,r1,r2,_⟩:=run_append_own (P:=P) (W.alloc (.cells #[y] e)) W.heap.size t o.type e i0 z 1 bytes ht hi hz0 hz1 hz2 hzs (by decide) (.slice none 0 0) 0 [] (World.ownsRow_nil _ _ _ _) ⟨W.heap.size,0,none⟩ 1 1 [y] rfl hcell (by simp[hy]) (by decide) (by have:=hbytes;rw[h0]at this;exact this) (by simp)
   exact⟨v',w',hrun,r1,hW.trans ⟨r2.os,r2.tape,r2.output,r2.size,fun k hk=>r2.block k (by simp;omega) (by simp[Value.ownBlock])⟩⟩
  obtain⟨b,off,rfl,hb,hc⟩:=hr.2.2 (by omega)
  obtain⟨v',w',hrun,r1,r2⟩:=run_append_arg_grows (P:=P) (W.alloc (.cells #[y] e)) t o.type e i0 z 1 bytes ht hi hz0 hz1 hz2 hzs (by decide) ⟨b,off,none⟩ n n xs (by rw[hr.1];omega) (fun j u hj=>by rw[Addr.add_lit];exact(hW.cell (p:=⟨b,off+j,none⟩) hb).trans (hc j u hj)) ⟨W.heap.size,0,none⟩ 1 1 [y] rfl hcell (by omega) h63 hbytes
  exact⟨v',w',hrun,Mi r1 (by simp),hW.trans ⟨r2.os,r2.tape,r2.output,r2.size,fun k hk=>r2.block k (by simp;omega) (by simp)⟩⟩
 obtain⟨v',w',hrun,r1,r2⟩:=key
 unfold Oper.wp
 simp[execOp,ho,resolve,invoke,builtin,hs,hx,hrun,Result.andThen]
 exact h v' w' r1 r2
theorem Ju.bel{B:Nat}{okb:Bool}{ls:List (List UInt8)}{p:List Nat}{g:Nat}{qs:List (List Nat)}{vo:Value}{wk W:World}{l9 l10:Bool}{u9 u10:Value}(h:Ju B okb ls p g qs vo wk l9 l10 false u9 u10 W):Below wk.heap.size wk W:=by
 cases l9<;>cases l10
 ·exact h
 ·exact h.elim
 ·obtain⟨W0,hb,rfl,_⟩:=h
  exact hb.alloc hb.size _
 obtain⟨_,_,_,_,hb⟩:=h
 exact hb
theorem Pr{w:World}{base n m c:Nat}{A:Option Addr}{e:TypeId}{zs:List Value}(h:w.ownsRow base e 1 (.slice A m c) n zs):n<=c:=by
 rcases h.2 with⟨e,h0⟩|⟨g,cap,cur,e,_,_,hnc,_⟩
 ·omega
 injection e with _ _ e2;subst e2;exact hnc
def R11(wr wq:World)(cs:List Value):Bool->World->Prop
 |false,W=>∃k,W=wq.drewN k
 |true,W=>Below wr.heap.size wr W/\wr.heap.size<W.heap.size/\W.cell? ⟨wr.heap.size,0,none⟩=cs[0]?/\W.cell? ⟨wr.heap.size,1,none⟩=cs[1]?/\W.cell? ⟨wr.heap.size,2,none⟩=cs[2]?/\W.cell? ⟨wr.heap.size,3,none⟩=cs[3]?
theorem P5{okb:Bool}{p:List Nat}{qs:List (List Nat)}{g:Nat}{rs:List (List Nat)}:Nn okb p (qs++rs.map (g :: ·))=Nn (Nn okb p qs) (p++[g]) rs:=by
 unfold Nn
 rw[List.all_append,Bool.and_assoc]
 congr 2
 rw[List.all_map]
 congr 1
 funext q
 simp
theorem Qfg{S:List Ty}(hS:∀t∈S,Du t)(d:Nat)(ih:Qha S d):Qha S (d+1):=by
 intro k v hv P w sl B okb ls A0 n0 c0 p A c hiv hP hst hr hpc hpn hfar hp hpd hcnt
 rcases Qgw hv hS with⟨hlf,hl1⟩|⟨hwh,st,ys,hyl,hkl,htg,hst1,hyv,hl1,hA,hB,hC⟩
 ·obtain⟨A9,c9,rfl⟩:=hiv.form
  rw[hl1]
  exact Qfe v.what v.text v.tag v.kids.length hlf A9 c9 w B okb ls A0 n0 c0 p A c hst hr hpc hfar hp (by omega) (by omega)
 obtain⟨A9,c9,xs,rfl,hks,hxl,hrow,hPr,hkid⟩:=hiv
 obtain⟨w1,hw1⟩:∃w1,w1=w.alloc (.cells #[.int .u8 (v.what.toNat:Int),.string ⟨v.text.toArray⟩,.int .i64 (v.tag:Int),.slice A9 xs.length c9] 47):=⟨_,rfl⟩
 have hb1:Below w.heap.size w w1:=by rw[hw1];exact(Au _ _).alloc (Ap _) _
 have hz1:w1.heap.size=w.heap.size+1:=by rw[hw1];simp
 have k0:w1.cell? ⟨w.heap.size,0,none⟩=some (.int .u8 (v.what.toNat:Int)):=by rw[hw1];simp
 have k2:w1.cell? ⟨w.heap.size,2,none⟩=some (.int .i64 (v.tag:Int)):=by rw[hw1];simp
 have k3:w1.cell? ⟨w.heap.size,3,none⟩=some (.slice A9 xs.length c9):=by rw[hw1];simp
 have hxk:xs.length=v.kids.length:=by rw[hks];simp[Av]
 have hfb:=hst.lt
 have hzB:=hst.1
 have Hn:=Aa (show ∀(x:Nat),w.heap.size<=x->x≠B/\x≠B+1/\some x≠(Value.slice A0 n0 c0).ownBlock from fun x hx=>⟨by omega,by omega,fun e=>by have:=(hfb x e.symm).2;omega⟩)
 have Hiv:=Aa (show Eb (fun x=>P x/\x<w.heap.size) w1 (.slice A9 xs.length c9) v.kids from((Eb.mk A9 c9 xs rfl hks hxl hrow hPr hkid).mono (Q:=fun x=>P x/\x<w.heap.size) fun x hx hl=>⟨hx,hl⟩).after hb1)
 have HP:=Aa hP
 have Hst:=Aa (hst.below hb1)
 have Hr:=Aa (hr.below hb1)
 have Hfar:=Aa hfar
 have Hyv:=Aa hyv
 have Hst1:=Aa hst1
 have HL:=Aa hl1
 have Hcnt:=Aa hcnt
 have HA:=Aa hA
 have HB:=Aa hB
 have HC:=Aa hC
 have Hyl:=Aa hyl
 have Hxk:=Aa hxk
 have Hih:=Aa ih
 have Hp:=Aa hp
 have Hpn:=Aa hpn
 have Hb1:=Aa hb1
 have Hw1:=Aa hw1
 have Hks:=Aa hks
 have hb0:w.heap.size<w1.heap.size:=by omega
 clear hrow hkid hPr hP hst hr hfar hks hyv hst1 hl1 hcnt hA hB hC hyl hxk ih hp hpn hb1 hw1 hv hfb hzB
 have enter:∀(wh:UInt8),v.what=wh->(wh=91\/wh=63/\v.kids.length≠0\/wh=85\/wh=82)->Calls prog 43 #[Kc v (.slice A9 xs.length c9),.slice A p.length c,Tt B] w (Rt B okb ls p (Co (d+1) v) (.slice A0 n0 c0) w):=by
  intro wh hw hwh
  unfold Kc Tt
  have Hw1':=Hw1.o
  rw[hw]at Hw1' k0 ⊢
  have Hw1'':=Aa Hw1'
  have HW:=Aa hw
  clear hw Hw1' Hw1
  have hn:wh=63->¬(xs.length=0):=fun e=>by
   have:=Hxk.o
   rcases hwh with h|⟨_,h⟩|h|h
   ·rw[h]at e;exact absurd e (by decide)
   ·omega
   ·rw[h]at e;exact absurd e (by decide)
   rw[h]at e;exact absurd e (by decide)
  have Hn63:=Aa hn
  clear hn
  have hwh2:(wh=91\/wh=63\/wh=85)\/wh=82:=by
   rcases hwh with h|⟨h,_⟩|h|h
   ·exact .inl (.inl h)
   ·exact .inl (.inr (.inl h))
   ·exact .inl (.inr (.inr h))
   exact .inr h
  clear hwh
  rcases hwh2 with(rfl|rfl|rfl)|rfl
  ·clear Hn63
   go_enter func43,ntmps43
   go_wp2_with fail
   generalize hwg:World.alloc w _=wg
   obtain rfl:w1=wg:=Hw1''.out.trans hwg
   clear hwg Hw1''
   go_loopw [44,6,7,8] (fun i x6 x7 x8 wr=>∃(m:Nat) (A3:Option Addr) (n3 c3:Nat),i=.int .i64 m/\m<=xs.length/\Hid (Kf B (Nn okb p (Ct (Co d) st ((ys.map (·.2)).take m))) (ls++(Ct (Co d) st ((ys.map (·.2)).take m)).map fun q=>En (p++q)) (.slice A3 n3 c3) wr)/\Hid (Cw B (.slice A0 n0 c0) w1 wr (.slice A3 n3 c3))) (fun i _ _ _ _=>xs.length - (intOf i).toNat)
   case atStart=>exact⟨0,A0,n0,c0,rfl,Nat.zero_le _,by show Kf _ _ _ _ _;simpa [Ct,Nn]using Hst.o,Cw.refl _ _ _⟩
   case round=>
    obtain⟨m,A3,n3,c3,rfl,hm,Hst3,Hk3⟩:=hrel
    have m1:(0:Int)<=(m:Int):=by omega
    obtain⟨f1,f2,f3⟩:=Hn.o w.heap.size (Ap _)
    have q0:=Hk3.o.cell k0 hb0 f1 f2 f3
    have q3:=Hk3.o.cell k3 hb0 f1 f2 f3
    have hlr:w.heap.size<wr.heap.size:=Nat.lt_of_lt_of_le hb0 Hk3.o.size
    have hlr2:¬(w.heap.size=wr.heap.size):=by omega
    clear f1 f2 f3
    by_cases hlt:m<xs.length
    ·have m2:(m:Int)<(xs.length:Int):=by omega
     have hly:m<ys.length:=by have:=Hyl.o;have:=Hxk.o;omega
     have hiv3:Eb (fun x=>P x/\x<w.heap.size) wr (.slice A9 xs.length c9) v.kids:=Hiv.o.kept (fun b o u hP hl hu=>Hk3.o.cell hu hl (HP.o b hP.1 hP.2).1 (HP.o b hP.1 hP.2).2.1 (HP.o b hP.1 hP.2).2.2) Hk3.o.size fun _ h _=>h
     obtain⟨A9',c9',xs',e9,hks',hxl',hrow',_,hkid'⟩:=hiv3
     injection e9 with e91 e92 e93
     subst e91 e93
     have hlt':m<xs'.length:=by omega
     obtain⟨b,off,rfl,hb,d0,d1,d2,d3⟩:=Eb.at_ hrow' hlt'
     have Hkx:=Aa (hkid' xs'[m] (List.getElem_mem hlt'))
     have hym:v.kids[m]?=some xs'[m].1:=by rw[hks'];simp[Av,hlt']
     have Hym:=Aa hym
     clear hkid' hrow' hks' hym
     generalize xs'[m]=x at *
     obtain⟨y,ysl⟩:=x
     obtain⟨A7,c7,e7⟩:=Hkx.o.form
     simp only at e7 d0 d1 d2 d3 Hkx Hym
     subst e7
     clear e92 hlt' hxl'
     have hbn:¬(b=wr.heap.size):=by omega
     have hvm:=Hyv.o ys[m] (List.getElem_mem hly)
     have hgm:st m<=1000:=(Hst1.o m).resolve_right (by omega)
     have hys:y=ys[m].2:=by have h:=(HA.o (by rw[HW.o];simp)).2;have h2:=Hym.o;rw[h]at h2;simpa [hly]using h2.symm
     have Hsm:=Aa ((HA.o (by rw[HW.o];simp)).1 m)
     subst hys
     have HQ:=Aa (show (ls++(Ct (Co d) st ((ys.map (·.2)).take m)).map fun q=>En (p++q))++(Co d ys[m].2).map (fun q=>En (p++[m]++q))=ls++(Ct (Co d) st ((ys.map (·.2)).take (m+1))).map fun q=>En (p++q)by
      rw[Be (ys.map (·.2)) m (by simpa using hly),Fc,List.map_append,List.append_assoc]
      simp[Function.comp_def,Nat.min_eq_left (Nat.le_of_lt hly),Hsm.o])
     have HO:=Aa (show Nn (Nn okb p (Ct (Co d) st ((ys.map (·.2)).take m))) (p++[m]) (Co d ys[m].2)=Nn okb p (Ct (Co d) st ((ys.map (·.2)).take (m+1)))by
      rw[Be (ys.map (·.2)) m (by simpa using hly),Fc,P5]
      simp[Nat.min_eq_left (Nat.le_of_lt hly),Hsm.o])
     have hcm:(ls++(Ct (Co d) st ((ys.map (·.2)).take m)).map fun q=>En (p++q)).length+(Co d ys[m].2).length<=100000:=by
      have h1:=congrArg List.length HQ.o
      have h2:=Ke (Co d) st (ys.map (·.2)) (m+1)
      have h3:=Hcnt.o
      rw[HL.o]at h3
      simp only[List.length_append,List.length_map]at h1 h2 ⊢
      omega
     obtain⟨qm,hqm⟩:∃q,q=Co d ys[m].2:=⟨_,rfl⟩
     rw[<-hqm]at HQ HO hcm
     have Hqm:=Aa hqm
     clear hqm
     generalize Nn okb p (Ct (Co d) st ((ys.map (·.2)).take m))=okm at *
     generalize (ls++(Ct (Co d) st ((ys.map (·.2)).take m)).map fun q=>En (p++q))=lm at *
     generalize ys[m].2=z at *
     go_wp2_with fail
     generalize hwk:World.alloc wr _=wk
     have hbk:Below wr.heap.size wr wk:=by rw[<-hwk];exact(Au _ _).alloc (Ap _) _
     have hlk:wr.heap.size<wk.heap.size:=by rw[<-hwk];simp
     have e0:wk.cell? ⟨wr.heap.size,0,none⟩=some (.int .u8 (z.what.toNat:Int)):=by rw[<-hwk];simp
     have e1:wk.cell? ⟨wr.heap.size,1,none⟩=some (.string ⟨z.text.toArray⟩):=by rw[<-hwk];simp
     have e2:wk.cell? ⟨wr.heap.size,2,none⟩=some (.int .i64 (z.tag:Int)):=by rw[<-hwk];simp
     have e3:wk.cell? ⟨wr.heap.size,3,none⟩=some (.slice A7 z.kids.length c7):=by rw[<-hwk];simp
     have Hz:=Aa (Hkx.o.after hbk)
     clear hwk
     have Hbk:=Aa hbk
     have hgm2:m<=1000:=by have:=Hsm.o;omega
     have HD:=Aa (fun W=>Ez m m W (Ap _) (by omega))
     have HR:=Aa (fun W A5 c5 (hW:Below wk.heap.size wk W) (ho:W.ownsRow wk.heap.size 9 1 (.slice A5 (p++[m]).length c5) (p++[m]).length (Ag ((p++[m]).map An)))=>Hih.o ys[m].1 z hvm (fun x=>P x/\x<w.heap.size) W (.slice A7 z.kids.length c7) B _ _ A3 n3 c3 (p++[m]) A5 c5 (Hz.o.after hW) (fun x hx _=>by
       obtain⟨g1,g2,g3⟩:=HP.o x hx.1 hx.2
       refine⟨g1,g2,?_⟩
       rcases Hk3.o.own with e|⟨k,e,hk⟩
       ·rw[e];exact g3
       rw[e];intro e2;injection e2 with e2;have:=hx.2;omega)
      ((Hst3.o.below Hbk.o).below hW) (by obtain⟨_,_,e,hr⟩:=Bf.own ho;injection e with e1 e2 e3;subst e1;exact hr) (Pr ho) (by simp) (fun g o _ e=>by
       have h1:=(ho.lt g (by rw[e];rfl)).1
       have h2:=Hst3.o.1
       have h3:=Hst3.o.lt
       exact⟨by omega,by omega,fun e2=>by have:=(h3 g e2.symm).2;omega⟩)
      (fun g hg=>by rcases List.mem_append.1 hg with hg|hg;exact Hp.o g hg;simp only[List.mem_singleton]at hg;omega) (by simp;omega) (by rw[<-Hqm.o];exact hcm))
     clear hcm hvm hgm
     unfold Tt at HR
     have Hpa:=Aa (Hr.o.keptP (P:=fun g=>g≠B/\g≠B+1/\some g≠(Value.slice A0 n0 c0).ownBlock) Hfar.o (fun b o u hp hl hu=>Hk3.o.cell hu hl hp.1 hp.2.1 hp.2.2) Hk3.o.size)
     rw[<-Hqm.o]at HR
     refine rgF (fun l u W=>Ju B okm lm p m qm (.slice A3 n3 c3) wk (l 9) (l 10) (l 12) (u 9) (u 10) W) (fun _=>True) (fun _ _ _ _=>Ab) (Au _ _).drew ?_
     refine Py (fun x=>x=.agg #[.int .u8 (z.what.toNat:Int),.string ⟨z.text.toArray⟩,.int .i64 (z.tag:Int),.slice A7 z.kids.length c7]) (by
      intro l u W hl hp hF hG hi K hK
      have h12:=(hi.o 12 (by rfl)).1
      have h:Ju B okm lm p m qm (.slice A3 n3 c3) wk (l 9) (l 10) (l 12) (u 9) (u 10) W:=hF.o
      rw[h12]at h
      have hb:=h.bel
      have h0:=(hb.cell (p:=⟨wr.heap.size,0,none⟩) hlk).trans e0
      have h1:=(hb.cell (p:=⟨wr.heap.size,1,none⟩) hlk).trans e1
      have h2:=(hb.cell (p:=⟨wr.heap.size,2,none⟩) hlk).trans e2
      have h3:=(hb.cell (p:=⟨wr.heap.size,3,none⟩) hlk).trans e3
      clear h hb hp h12
      go_simp
      exact hK _ _ _ rfl hF.o rfl) ?_
     iterate 7 refine sq ?_
     refine Py (fun x=>x=.string ⟨(An m).toArray⟩) (by
      intro l u W hl hp hF hG hi K hK
      have h9:=(hi.o 9 (by rfl)).1
      simp[Region.binds,Et]at hp
      have h:Ju B okm lm p m qm (.slice A3 n3 c3) wk (l 9) (l 10) (l 12) (u 9) (u 10) W:=hF.o
      rw[h9]at h
      cases h10:l 10<;>cases h12:l 12<;>rw[h10,h12]at h
      ·go_simp
       refine(HD.o W).mono ?_
       rintro e w' ⟨rfl,hb⟩
       refine hK _ _ _ rfl ?_ (by simp[Act.put,hp])
       show Ju _ _ _ _ _ _ _ _ (l 9) (l 10) (l 12) _ _ _
       rw[h9,h10,h12]
       exact h.trans (hb.mono h.size)
      all_goals exact h.elim) ?_
     refine Py (fun _=>True) (by
      intro l u W hl hp hF hG hi K hK
      have h10:=(hi.o 10 (by rfl)).1
      simp[Region.binds,Et]at hp
      have h:Ju B okm lm p m qm (.slice A3 n3 c3) wk (l 9) (l 10) (l 12) (u 9) (u 10) W:=hF.o
      rw[hl,h10]at h
      cases h12:l 12<;>rw[h12]at h
      ·go_simp
       refine hK _ _ _ Ab ?_ (by simp[Act.put,hp];exact rfl)
       show Ju _ _ _ _ _ _ _ _ true (l 10) (l 12) _ _ _
       rw[h10,h12]
       exact⟨W,h,rfl,rfl⟩
      exact h.elim) ?_
     refine Py (fun _=>True) (by
      intro l u W hl hp hF hG hi K hK
      have h12:=(hi.o 12 (by rfl)).1
      simp[Region.binds,Et]at hp
      have h:Ju B okm lm p m qm (.slice A3 n3 c3) wk (l 9) (l 10) (l 12) (u 9) (u 10) W:=hF.o
      rw[hl,h12,hp.2.1]at h
      obtain⟨W0,hb,rfl,e3⟩:=h
      clear hG hi
      simp only[Region.wanted,if_true]
      refine Rs W0 (.tmp 70) (.tmp 73) 31 rfl 9 (.string ⟨#[]⟩) 16 underlying31 Gd (by decide) (.string ⟨(An m).toArray⟩) rfl A p.length (Ag (p.map An)) ?_ ?_ ((Hpa.o.below Hbk.o).below hb) ?_ (by unfold maxLen;omega) (by omega) ?_
      ·simp[hp];rfl
      ·simp[hp,e3];rfl
      ·exact fun e=>Hpn.o (List.eq_nil_of_length_eq_zero e)
      intro v' w5 hown5 hb5
      have e5:p.length+1=(p++[m]).length:=by simp
      have e6:Ag (p.map An)++[.string ⟨(An m).toArray⟩]=Ag ((p++[m]).map An):=by simp[Ag]
      rw[e5,e6]at hown5
      obtain⟨A5,c5,rfl,_⟩:=Bf.own hown5
      refine hK _ _ _ Ab ?_ rfl
      show Ju _ _ _ _ _ _ _ _ (l 9) true (l 12) _ _ _
      rw[h12,hp.2.1]
      exact⟨A5,c5,rfl,Mi hown5 hb.size,hb.trans (hb5.mono hb.size)⟩) ?_
     refine sq ?_
     refine Py (fun _=>True) (by
      intro l u W hl hp hF hG hi K hK
      simp[Region.binds,Et]at hp
      have h:Ju B okm lm p m qm (.slice A3 n3 c3) wk (l 9) (l 10) (l 12) (u 9) (u 10) W:=hF.o
      have h10:l 10=true:=by simp[hp]
      rw[hl,h10]at h
      cases h9:l 9<;>rw[h9]at h
      ·exact h.elim
      obtain⟨A5,c5,e10,ho,hb⟩:=h
      have HC:=Aa (HR.o W A5 c5 hb ho)
      clear hG hi ho
      have Hb:=Aa hb
      clear hb
      unfold Kc at HC
      simp only[List.length_append,List.length_cons,List.length_nil,Nat.zero_add]at HC e10
      go_simp
      refine HC.o.mono ?_
      rintro e w' ⟨rfl,A6,n6,c6,h6,k6⟩
      refine hK _ _ _ Ab ?_ (by simp[Act.put,hp,e10];exact rfl)
      show Ju _ _ _ _ _ _ _ _ (l 9) (l 10) true _ _ _
      rw[h9,h10]
      exact⟨A6,n6,c6,h6,(Cw.of_below Hb.o).trans k6⟩) ?_
     intro l u W hl _ hR
     have h:Ju B okm lm p m qm (.slice A3 n3 c3) wk (l 9) (l 10) (l 12) (u 9) (u 10) W:=hR
     rw[hl 9 (by decide),hl 10 (by decide),hl 12 (by decide)]at h
     obtain⟨A6,n6,c6,h6,k6⟩:=h
     rw[HQ.o,HO.o]at h6
     have H6:=Aa h6
     have K6:=Aa (Hk3.o.trans ((Cw.of_below Hbk.o).trans k6))
     clear hl hR h6 k6
     go_wp2_with fail
     go_roundw
     case rel=>first|exact⟨m+1,A6,n6,c6,by go_num,by omega,H6.o,K6.o⟩|exact⟨_,_,_,_,⟨m+1,rfl,by omega,A6,n6,c6,H6.o,K6.o⟩,rfl,rfl,rfl,by go_num⟩
     case measure=>simp[intOf];omega
    ·obtain rfl:m=xs.length:=by omega
     have ht:(ys.map (·.2)).take xs.length=ys.map (·.2):=List.take_of_length_le (by have:=Hyl.o;have:=Hxk.o;simp;omega)
     have h3:=Hst3.o
     rw[ht,<-HL.o]at h3
     have H3:=Aa h3
     clear h3 ht
     go_wp2_with fail
     apply bodyPost_end
     rotate_left
     ·rfl
     ·exact⟨rfl,A3,n3,c3,H3.o,(Cw.of_below Hb1.o).trans Hk3.o⟩
     exact results_none (by kernel_rfl) _ _ _
  ·have t0:((xs.length:Int) == 0)=false:=by rw[beq_eq_false_iff_ne];have:=Hn63.o rfl;omega
   clear Hn63
   go_enter func43,ntmps43
   go_wp2_with fail
   generalize hwg:World.alloc w _=wg
   obtain rfl:w1=wg:=Hw1''.out.trans hwg
   clear hwg Hw1''
   clear t0
   go_loopw [44,6,7,8] (fun i x6 x7 x8 wr=>∃(m:Nat) (A3:Option Addr) (n3 c3:Nat),i=.int .i64 m/\m<=xs.length/\Hid (Kf B (Nn okb p (Ct (Co d) st ((ys.map (·.2)).take m))) (ls++(Ct (Co d) st ((ys.map (·.2)).take m)).map fun q=>En (p++q)) (.slice A3 n3 c3) wr)/\Hid (Cw B (.slice A0 n0 c0) w1 wr (.slice A3 n3 c3))) (fun i _ _ _ _=>xs.length - (intOf i).toNat)
   case atStart=>exact⟨0,A0,n0,c0,rfl,Nat.zero_le _,by show Kf _ _ _ _ _;simpa [Ct,Nn]using Hst.o,Cw.refl _ _ _⟩
   case round=>
    obtain⟨m,A3,n3,c3,rfl,hm,Hst3,Hk3⟩:=hrel
    have m1:(0:Int)<=(m:Int):=by omega
    obtain⟨f1,f2,f3⟩:=Hn.o w.heap.size (Ap _)
    have q0:=Hk3.o.cell k0 hb0 f1 f2 f3
    have q3:=Hk3.o.cell k3 hb0 f1 f2 f3
    have hlr:w.heap.size<wr.heap.size:=Nat.lt_of_lt_of_le hb0 Hk3.o.size
    have hlr2:¬(w.heap.size=wr.heap.size):=by omega
    clear f1 f2 f3
    by_cases hlt:m<xs.length
    ·have m2:(m:Int)<(xs.length:Int):=by omega
     have hly:m<ys.length:=by have:=Hyl.o;have:=Hxk.o;omega
     have hiv3:Eb (fun x=>P x/\x<w.heap.size) wr (.slice A9 xs.length c9) v.kids:=Hiv.o.kept (fun b o u hP hl hu=>Hk3.o.cell hu hl (HP.o b hP.1 hP.2).1 (HP.o b hP.1 hP.2).2.1 (HP.o b hP.1 hP.2).2.2) Hk3.o.size fun _ h _=>h
     obtain⟨A9',c9',xs',e9,hks',hxl',hrow',_,hkid'⟩:=hiv3
     injection e9 with e91 e92 e93
     subst e91 e93
     have hlt':m<xs'.length:=by omega
     obtain⟨b,off,rfl,hb,d0,d1,d2,d3⟩:=Eb.at_ hrow' hlt'
     have Hkx:=Aa (hkid' xs'[m] (List.getElem_mem hlt'))
     have hym:v.kids[m]?=some xs'[m].1:=by rw[hks'];simp[Av,hlt']
     have Hym:=Aa hym
     clear hkid' hrow' hks' hym
     generalize xs'[m]=x at *
     obtain⟨y,ysl⟩:=x
     obtain⟨A7,c7,e7⟩:=Hkx.o.form
     simp only at e7 d0 d1 d2 d3 Hkx Hym
     subst e7
     clear e92 hlt' hxl'
     have hbn:¬(b=wr.heap.size):=by omega
     have hvm:=Hyv.o ys[m] (List.getElem_mem hly)
     have hgm:st m<=1000:=(Hst1.o m).resolve_right (by omega)
     have hys:y=ys[m].2:=by have h:=(HA.o (by rw[HW.o];simp)).2;have h2:=Hym.o;rw[h]at h2;simpa [hly]using h2.symm
     have Hsm:=Aa ((HA.o (by rw[HW.o];simp)).1 m)
     subst hys
     have HQ:=Aa (show (ls++(Ct (Co d) st ((ys.map (·.2)).take m)).map fun q=>En (p++q))++(Co d ys[m].2).map (fun q=>En (p++[m]++q))=ls++(Ct (Co d) st ((ys.map (·.2)).take (m+1))).map fun q=>En (p++q)by
      rw[Be (ys.map (·.2)) m (by simpa using hly),Fc,List.map_append,List.append_assoc]
      simp[Function.comp_def,Nat.min_eq_left (Nat.le_of_lt hly),Hsm.o])
     have HO:=Aa (show Nn (Nn okb p (Ct (Co d) st ((ys.map (·.2)).take m))) (p++[m]) (Co d ys[m].2)=Nn okb p (Ct (Co d) st ((ys.map (·.2)).take (m+1)))by
      rw[Be (ys.map (·.2)) m (by simpa using hly),Fc,P5]
      simp[Nat.min_eq_left (Nat.le_of_lt hly),Hsm.o])
     have hcm:(ls++(Ct (Co d) st ((ys.map (·.2)).take m)).map fun q=>En (p++q)).length+(Co d ys[m].2).length<=100000:=by
      have h1:=congrArg List.length HQ.o
      have h2:=Ke (Co d) st (ys.map (·.2)) (m+1)
      have h3:=Hcnt.o
      rw[HL.o]at h3
      simp only[List.length_append,List.length_map]at h1 h2 ⊢
      omega
     obtain⟨qm,hqm⟩:∃q,q=Co d ys[m].2:=⟨_,rfl⟩
     rw[<-hqm]at HQ HO hcm
     have Hqm:=Aa hqm
     clear hqm
     generalize Nn okb p (Ct (Co d) st ((ys.map (·.2)).take m))=okm at *
     generalize (ls++(Ct (Co d) st ((ys.map (·.2)).take m)).map fun q=>En (p++q))=lm at *
     generalize ys[m].2=z at *
     go_wp2_with fail
     generalize hwk:World.alloc wr _=wk
     have hbk:Below wr.heap.size wr wk:=by rw[<-hwk];exact(Au _ _).alloc (Ap _) _
     have hlk:wr.heap.size<wk.heap.size:=by rw[<-hwk];simp
     have e0:wk.cell? ⟨wr.heap.size,0,none⟩=some (.int .u8 (z.what.toNat:Int)):=by rw[<-hwk];simp
     have e1:wk.cell? ⟨wr.heap.size,1,none⟩=some (.string ⟨z.text.toArray⟩):=by rw[<-hwk];simp
     have e2:wk.cell? ⟨wr.heap.size,2,none⟩=some (.int .i64 (z.tag:Int)):=by rw[<-hwk];simp
     have e3:wk.cell? ⟨wr.heap.size,3,none⟩=some (.slice A7 z.kids.length c7):=by rw[<-hwk];simp
     have Hz:=Aa (Hkx.o.after hbk)
     clear hwk
     have Hbk:=Aa hbk
     have hgm2:m<=1000:=by have:=Hsm.o;omega
     have HD:=Aa (fun W=>Ez m m W (Ap _) (by omega))
     have HR:=Aa (fun W A5 c5 (hW:Below wk.heap.size wk W) (ho:W.ownsRow wk.heap.size 9 1 (.slice A5 (p++[m]).length c5) (p++[m]).length (Ag ((p++[m]).map An)))=>Hih.o ys[m].1 z hvm (fun x=>P x/\x<w.heap.size) W (.slice A7 z.kids.length c7) B _ _ A3 n3 c3 (p++[m]) A5 c5 (Hz.o.after hW) (fun x hx _=>by
       obtain⟨g1,g2,g3⟩:=HP.o x hx.1 hx.2
       refine⟨g1,g2,?_⟩
       rcases Hk3.o.own with e|⟨k,e,hk⟩
       ·rw[e];exact g3
       rw[e];intro e2;injection e2 with e2;have:=hx.2;omega)
      ((Hst3.o.below Hbk.o).below hW) (by obtain⟨_,_,e,hr⟩:=Bf.own ho;injection e with e1 e2 e3;subst e1;exact hr) (Pr ho) (by simp) (fun g o _ e=>by
       have h1:=(ho.lt g (by rw[e];rfl)).1
       have h2:=Hst3.o.1
       have h3:=Hst3.o.lt
       exact⟨by omega,by omega,fun e2=>by have:=(h3 g e2.symm).2;omega⟩)
      (fun g hg=>by rcases List.mem_append.1 hg with hg|hg;exact Hp.o g hg;simp only[List.mem_singleton]at hg;omega) (by simp;omega) (by rw[<-Hqm.o];exact hcm))
     clear hcm hvm hgm
     unfold Tt at HR
     have Hpa:=Aa (Hr.o.keptP (P:=fun g=>g≠B/\g≠B+1/\some g≠(Value.slice A0 n0 c0).ownBlock) Hfar.o (fun b o u hp hl hu=>Hk3.o.cell hu hl hp.1 hp.2.1 hp.2.2) Hk3.o.size)
     rw[<-Hqm.o]at HR
     refine rgF (fun l u W=>Ju B okm lm p m qm (.slice A3 n3 c3) wk (l 9) (l 10) (l 12) (u 9) (u 10) W) (fun _=>True) (fun _ _ _ _=>Ab) (Au _ _).drew ?_
     refine Py (fun x=>x=.agg #[.int .u8 (z.what.toNat:Int),.string ⟨z.text.toArray⟩,.int .i64 (z.tag:Int),.slice A7 z.kids.length c7]) (by
      intro l u W hl hp hF hG hi K hK
      have h12:=(hi.o 12 (by rfl)).1
      have h:Ju B okm lm p m qm (.slice A3 n3 c3) wk (l 9) (l 10) (l 12) (u 9) (u 10) W:=hF.o
      rw[h12]at h
      have hb:=h.bel
      have h0:=(hb.cell (p:=⟨wr.heap.size,0,none⟩) hlk).trans e0
      have h1:=(hb.cell (p:=⟨wr.heap.size,1,none⟩) hlk).trans e1
      have h2:=(hb.cell (p:=⟨wr.heap.size,2,none⟩) hlk).trans e2
      have h3:=(hb.cell (p:=⟨wr.heap.size,3,none⟩) hlk).trans e3
      clear h hb hp h12
      go_simp
      exact hK _ _ _ rfl hF.o rfl) ?_
     iterate 7 refine sq ?_
     refine Py (fun x=>x=.string ⟨(An m).toArray⟩) (by
      intro l u W hl hp hF hG hi K hK
      have h9:=(hi.o 9 (by rfl)).1
      simp[Region.binds,Et]at hp
      have h:Ju B okm lm p m qm (.slice A3 n3 c3) wk (l 9) (l 10) (l 12) (u 9) (u 10) W:=hF.o
      rw[h9]at h
      cases h10:l 10<;>cases h12:l 12<;>rw[h10,h12]at h
      ·go_simp
       refine(HD.o W).mono ?_
       rintro e w' ⟨rfl,hb⟩
       refine hK _ _ _ rfl ?_ (by simp[Act.put,hp])
       show Ju _ _ _ _ _ _ _ _ (l 9) (l 10) (l 12) _ _ _
       rw[h9,h10,h12]
       exact h.trans (hb.mono h.size)
      all_goals exact h.elim) ?_
     refine Py (fun _=>True) (by
      intro l u W hl hp hF hG hi K hK
      have h10:=(hi.o 10 (by rfl)).1
      simp[Region.binds,Et]at hp
      have h:Ju B okm lm p m qm (.slice A3 n3 c3) wk (l 9) (l 10) (l 12) (u 9) (u 10) W:=hF.o
      rw[hl,h10]at h
      cases h12:l 12<;>rw[h12]at h
      ·go_simp
       refine hK _ _ _ Ab ?_ (by simp[Act.put,hp];exact rfl)
       show Ju _ _ _ _ _ _ _ _ true (l 10) (l 12) _ _ _
       rw[h10,h12]
       exact⟨W,h,rfl,rfl⟩
      exact h.elim) ?_
     refine Py (fun _=>True) (by
      intro l u W hl hp hF hG hi K hK
      have h12:=(hi.o 12 (by rfl)).1
      simp[Region.binds,Et]at hp
      have h:Ju B okm lm p m qm (.slice A3 n3 c3) wk (l 9) (l 10) (l 12) (u 9) (u 10) W:=hF.o
      rw[hl,h12,hp.2.1]at h
      obtain⟨W0,hb,rfl,e3⟩:=h
      clear hG hi
      simp only[Region.wanted,if_true]
      refine Rs W0 (.tmp 70) (.tmp 73) 31 rfl 9 (.string ⟨#[]⟩) 16 underlying31 Gd (by decide) (.string ⟨(An m).toArray⟩) rfl A p.length (Ag (p.map An)) ?_ ?_ ((Hpa.o.below Hbk.o).below hb) ?_ (by unfold maxLen;omega) (by omega) ?_
      ·simp[hp];rfl
      ·simp[hp,e3];rfl
      ·exact fun e=>Hpn.o (List.eq_nil_of_length_eq_zero e)
      intro v' w5 hown5 hb5
      have e5:p.length+1=(p++[m]).length:=by simp
      have e6:Ag (p.map An)++[.string ⟨(An m).toArray⟩]=Ag ((p++[m]).map An):=by simp[Ag]
      rw[e5,e6]at hown5
      obtain⟨A5,c5,rfl,_⟩:=Bf.own hown5
      refine hK _ _ _ Ab ?_ rfl
      show Ju _ _ _ _ _ _ _ _ (l 9) true (l 12) _ _ _
      rw[h12,hp.2.1]
      exact⟨A5,c5,rfl,Mi hown5 hb.size,hb.trans (hb5.mono hb.size)⟩) ?_
     refine sq ?_
     refine Py (fun _=>True) (by
      intro l u W hl hp hF hG hi K hK
      simp[Region.binds,Et]at hp
      have h:Ju B okm lm p m qm (.slice A3 n3 c3) wk (l 9) (l 10) (l 12) (u 9) (u 10) W:=hF.o
      have h10:l 10=true:=by simp[hp]
      rw[hl,h10]at h
      cases h9:l 9<;>rw[h9]at h
      ·exact h.elim
      obtain⟨A5,c5,e10,ho,hb⟩:=h
      have HC:=Aa (HR.o W A5 c5 hb ho)
      clear hG hi ho
      have Hb:=Aa hb
      clear hb
      unfold Kc at HC
      simp only[List.length_append,List.length_cons,List.length_nil,Nat.zero_add]at HC e10
      go_simp
      refine HC.o.mono ?_
      rintro e w' ⟨rfl,A6,n6,c6,h6,k6⟩
      refine hK _ _ _ Ab ?_ (by simp[Act.put,hp,e10];exact rfl)
      show Ju _ _ _ _ _ _ _ _ (l 9) (l 10) true _ _ _
      rw[h9,h10]
      exact⟨A6,n6,c6,h6,(Cw.of_below Hb.o).trans k6⟩) ?_
     intro l u W hl _ hR
     have h:Ju B okm lm p m qm (.slice A3 n3 c3) wk (l 9) (l 10) (l 12) (u 9) (u 10) W:=hR
     rw[hl 9 (by decide),hl 10 (by decide),hl 12 (by decide)]at h
     obtain⟨A6,n6,c6,h6,k6⟩:=h
     rw[HQ.o,HO.o]at h6
     have H6:=Aa h6
     have K6:=Aa (Hk3.o.trans ((Cw.of_below Hbk.o).trans k6))
     clear hl hR h6 k6
     go_wp2_with fail
     go_roundw
     case rel=>first|exact⟨m+1,A6,n6,c6,by go_num,by omega,H6.o,K6.o⟩|exact⟨_,_,_,_,⟨m+1,rfl,by omega,A6,n6,c6,H6.o,K6.o⟩,rfl,rfl,rfl,by go_num⟩
     case measure=>simp[intOf];omega
    ·obtain rfl:m=xs.length:=by omega
     have ht:(ys.map (·.2)).take xs.length=ys.map (·.2):=List.take_of_length_le (by have:=Hyl.o;have:=Hxk.o;simp;omega)
     have h3:=Hst3.o
     rw[ht,<-HL.o]at h3
     have H3:=Aa h3
     clear h3 ht
     go_wp2_with fail
     apply bodyPost_end
     rotate_left
     ·rfl
     ·exact⟨rfl,A3,n3,c3,H3.o,(Cw.of_below Hb1.o).trans Hk3.o⟩
     exact results_none (by kernel_rfl) _ _ _
  ·clear Hn63
   go_enter func43,ntmps43
   go_wp2_with fail
   generalize hwg:World.alloc w _=wg
   obtain rfl:w1=wg:=Hw1''.out.trans hwg
   clear hwg Hw1''
   go_loopw [44,6,7,8] (fun i x6 x7 x8 wr=>∃(m:Nat) (A3:Option Addr) (n3 c3:Nat),i=.int .i64 m/\m<=xs.length/\Hid (Kf B (Nn okb p (Ct (Co d) st ((ys.map (·.2)).take m))) (ls++(Ct (Co d) st ((ys.map (·.2)).take m)).map fun q=>En (p++q)) (.slice A3 n3 c3) wr)/\Hid (Cw B (.slice A0 n0 c0) w1 wr (.slice A3 n3 c3))) (fun i _ _ _ _=>xs.length - (intOf i).toNat)
   case atStart=>exact⟨0,A0,n0,c0,rfl,Nat.zero_le _,by show Kf _ _ _ _ _;simpa [Ct,Nn]using Hst.o,Cw.refl _ _ _⟩
   case round=>
    obtain⟨m,A3,n3,c3,rfl,hm,Hst3,Hk3⟩:=hrel
    have m1:(0:Int)<=(m:Int):=by omega
    obtain⟨f1,f2,f3⟩:=Hn.o w.heap.size (Ap _)
    have q0:=Hk3.o.cell k0 hb0 f1 f2 f3
    have q2:=Hk3.o.cell k2 hb0 f1 f2 f3
    have q3:=Hk3.o.cell k3 hb0 f1 f2 f3
    have hlr:w.heap.size<wr.heap.size:=Nat.lt_of_lt_of_le hb0 Hk3.o.size
    have hlr2:¬(w.heap.size=wr.heap.size):=by omega
    clear f1 f2 f3
    by_cases hlt:m<xs.length
    ·have m2:(m:Int)<(xs.length:Int):=by omega
     have hly:m<ys.length:=by have:=Hyl.o;have:=Hxk.o;omega
     have hiv3:Eb (fun x=>P x/\x<w.heap.size) wr (.slice A9 xs.length c9) v.kids:=Hiv.o.kept (fun b o u hP hl hu=>Hk3.o.cell hu hl (HP.o b hP.1 hP.2).1 (HP.o b hP.1 hP.2).2.1 (HP.o b hP.1 hP.2).2.2) Hk3.o.size fun _ h _=>h
     obtain⟨A9',c9',xs',e9,hks',hxl',hrow',_,hkid'⟩:=hiv3
     injection e9 with e91 e92 e93
     subst e91 e93
     have hlt':m<xs'.length:=by omega
     obtain⟨b,off,rfl,hb,d0,d1,d2,d3⟩:=Eb.at_ hrow' hlt'
     have Hkx:=Aa (hkid' xs'[m] (List.getElem_mem hlt'))
     have hym:v.kids[m]?=some xs'[m].1:=by rw[hks'];simp[Av,hlt']
     have Hym:=Aa hym
     clear hkid' hrow' hks' hym
     generalize xs'[m]=x at *
     obtain⟨y,ysl⟩:=x
     obtain⟨A7,c7,e7⟩:=Hkx.o.form
     simp only at e7 d0 d1 d2 d3 Hkx Hym
     subst e7
     clear e92 hlt' hxl'
     have hbn:¬(b=wr.heap.size):=by omega
     have hvm:=Hyv.o ys[m] (List.getElem_mem hly)
     have hgm:st m<=1000:=(Hst1.o m).resolve_right (by omega)
     have hys:y=ys[m].2:=by have h:=(HB.o HW.o).2;have h2:=Hym.o;rw[h]at h2;simpa [hly]using h2.symm
     have Hsm:=Aa ((HB.o HW.o).1 m)
     subst hys
     have HQ:=Aa (show (ls++(Ct (Co d) st ((ys.map (·.2)).take m)).map fun q=>En (p++q))++(Co d ys[m].2).map (fun q=>En (p++[v.tag]++q))=ls++(Ct (Co d) st ((ys.map (·.2)).take (m+1))).map fun q=>En (p++q)by
      rw[Be (ys.map (·.2)) m (by simpa using hly),Fc,List.map_append,List.append_assoc]
      simp[Function.comp_def,Nat.min_eq_left (Nat.le_of_lt hly),Hsm.o])
     have HO:=Aa (show Nn (Nn okb p (Ct (Co d) st ((ys.map (·.2)).take m))) (p++[v.tag]) (Co d ys[m].2)=Nn okb p (Ct (Co d) st ((ys.map (·.2)).take (m+1)))by
      rw[Be (ys.map (·.2)) m (by simpa using hly),Fc,P5]
      simp[Nat.min_eq_left (Nat.le_of_lt hly),Hsm.o])
     have hcm:(ls++(Ct (Co d) st ((ys.map (·.2)).take m)).map fun q=>En (p++q)).length+(Co d ys[m].2).length<=100000:=by
      have h1:=congrArg List.length HQ.o
      have h2:=Ke (Co d) st (ys.map (·.2)) (m+1)
      have h3:=Hcnt.o
      rw[HL.o]at h3
      simp only[List.length_append,List.length_map]at h1 h2 ⊢
      omega
     obtain⟨qm,hqm⟩:∃q,q=Co d ys[m].2:=⟨_,rfl⟩
     rw[<-hqm]at HQ HO hcm
     have Hqm:=Aa hqm
     clear hqm
     generalize Nn okb p (Ct (Co d) st ((ys.map (·.2)).take m))=okm at *
     generalize (ls++(Ct (Co d) st ((ys.map (·.2)).take m)).map fun q=>En (p++q))=lm at *
     generalize ys[m].2=z at *
     go_wp2_with fail
     generalize hwk:World.alloc wr _=wk
     have hbk:Below wr.heap.size wr wk:=by rw[<-hwk];exact(Au _ _).alloc (Ap _) _
     have hlk:wr.heap.size<wk.heap.size:=by rw[<-hwk];simp
     have e0:wk.cell? ⟨wr.heap.size,0,none⟩=some (.int .u8 (z.what.toNat:Int)):=by rw[<-hwk];simp
     have e1:wk.cell? ⟨wr.heap.size,1,none⟩=some (.string ⟨z.text.toArray⟩):=by rw[<-hwk];simp
     have e2:wk.cell? ⟨wr.heap.size,2,none⟩=some (.int .i64 (z.tag:Int)):=by rw[<-hwk];simp
     have e3:wk.cell? ⟨wr.heap.size,3,none⟩=some (.slice A7 z.kids.length c7):=by rw[<-hwk];simp
     have Hz:=Aa (Hkx.o.after hbk)
     clear hwk
     have Hbk:=Aa hbk
     have hgm2:v.tag<=1000:=by have:=Hsm.o;omega
     have HD:=Aa (fun W=>Ez v.tag v.tag W (Ap _) (by omega))
     have HR:=Aa (fun W A5 c5 (hW:Below wk.heap.size wk W) (ho:W.ownsRow wk.heap.size 9 1 (.slice A5 (p++[v.tag]).length c5) (p++[v.tag]).length (Ag ((p++[v.tag]).map An)))=>Hih.o ys[m].1 z hvm (fun x=>P x/\x<w.heap.size) W (.slice A7 z.kids.length c7) B _ _ A3 n3 c3 (p++[v.tag]) A5 c5 (Hz.o.after hW) (fun x hx _=>by
       obtain⟨g1,g2,g3⟩:=HP.o x hx.1 hx.2
       refine⟨g1,g2,?_⟩
       rcases Hk3.o.own with e|⟨k,e,hk⟩
       ·rw[e];exact g3
       rw[e];intro e2;injection e2 with e2;have:=hx.2;omega)
      ((Hst3.o.below Hbk.o).below hW) (by obtain⟨_,_,e,hr⟩:=Bf.own ho;injection e with e1 e2 e3;subst e1;exact hr) (Pr ho) (by simp) (fun g o _ e=>by
       have h1:=(ho.lt g (by rw[e];rfl)).1
       have h2:=Hst3.o.1
       have h3:=Hst3.o.lt
       exact⟨by omega,by omega,fun e2=>by have:=(h3 g e2.symm).2;omega⟩)
      (fun g hg=>by rcases List.mem_append.1 hg with hg|hg;exact Hp.o g hg;simp only[List.mem_singleton]at hg;omega) (by simp;omega) (by rw[<-Hqm.o];exact hcm))
     clear hcm hvm hgm
     unfold Tt at HR
     have Hpa:=Aa (Hr.o.keptP (P:=fun g=>g≠B/\g≠B+1/\some g≠(Value.slice A0 n0 c0).ownBlock) Hfar.o (fun b o u hp hl hu=>Hk3.o.cell hu hl hp.1 hp.2.1 hp.2.2) Hk3.o.size)
     rw[<-Hqm.o]at HR
     refine rgF (fun l u W=>Ju B okm lm p v.tag qm (.slice A3 n3 c3) wk (l 9) (l 10) (l 12) (u 9) (u 10) W) (fun _=>True) (fun _ _ _ _=>Ab) (Au _ _).drew ?_
     refine Py (fun x=>x=.agg #[.int .u8 (z.what.toNat:Int),.string ⟨z.text.toArray⟩,.int .i64 (z.tag:Int),.slice A7 z.kids.length c7]) (by
      intro l u W hl hp hF hG hi K hK
      have h12:=(hi.o 12 (by rfl)).1
      have h:Ju B okm lm p v.tag qm (.slice A3 n3 c3) wk (l 9) (l 10) (l 12) (u 9) (u 10) W:=hF.o
      rw[h12]at h
      have hb:=h.bel
      have h0:=(hb.cell (p:=⟨wr.heap.size,0,none⟩) hlk).trans e0
      have h1:=(hb.cell (p:=⟨wr.heap.size,1,none⟩) hlk).trans e1
      have h2:=(hb.cell (p:=⟨wr.heap.size,2,none⟩) hlk).trans e2
      have h3:=(hb.cell (p:=⟨wr.heap.size,3,none⟩) hlk).trans e3
      clear h hb hp h12
      go_simp
      exact hK _ _ _ rfl hF.o rfl) ?_
     iterate 7 refine sq ?_
     refine Py (fun x=>x=.string ⟨(An v.tag).toArray⟩) (by
      intro l u W hl hp hF hG hi K hK
      have h9:=(hi.o 9 (by rfl)).1
      simp[Region.binds,Et]at hp
      have h:Ju B okm lm p v.tag qm (.slice A3 n3 c3) wk (l 9) (l 10) (l 12) (u 9) (u 10) W:=hF.o
      rw[h9]at h
      cases h10:l 10<;>cases h12:l 12<;>rw[h10,h12]at h
      ·go_simp
       refine(HD.o W).mono ?_
       rintro e w' ⟨rfl,hb⟩
       refine hK _ _ _ rfl ?_ (by simp[Act.put,hp])
       show Ju _ _ _ _ _ _ _ _ (l 9) (l 10) (l 12) _ _ _
       rw[h9,h10,h12]
       exact h.trans (hb.mono h.size)
      all_goals exact h.elim) ?_
     refine Py (fun _=>True) (by
      intro l u W hl hp hF hG hi K hK
      have h10:=(hi.o 10 (by rfl)).1
      simp[Region.binds,Et]at hp
      have h:Ju B okm lm p v.tag qm (.slice A3 n3 c3) wk (l 9) (l 10) (l 12) (u 9) (u 10) W:=hF.o
      rw[hl,h10]at h
      cases h12:l 12<;>rw[h12]at h
      ·go_simp
       refine hK _ _ _ Ab ?_ (by simp[Act.put,hp];exact rfl)
       show Ju _ _ _ _ _ _ _ _ true (l 10) (l 12) _ _ _
       rw[h10,h12]
       exact⟨W,h,rfl,rfl⟩
      exact h.elim) ?_
     refine Py (fun _=>True) (by
      intro l u W hl hp hF hG hi K hK
      have h12:=(hi.o 12 (by rfl)).1
      simp[Region.binds,Et]at hp
      have h:Ju B okm lm p v.tag qm (.slice A3 n3 c3) wk (l 9) (l 10) (l 12) (u 9) (u 10) W:=hF.o
      rw[hl,h12,hp.2.1]at h
      obtain⟨W0,hb,rfl,e3⟩:=h
      clear hG hi
      simp only[Region.wanted,if_true]
      refine Rs W0 (.tmp 70) (.tmp 73) 31 rfl 9 (.string ⟨#[]⟩) 16 underlying31 Gd (by decide) (.string ⟨(An v.tag).toArray⟩) rfl A p.length (Ag (p.map An)) ?_ ?_ ((Hpa.o.below Hbk.o).below hb) ?_ (by unfold maxLen;omega) (by omega) ?_
      ·simp[hp];rfl
      ·simp[hp,e3];rfl
      ·exact fun e=>Hpn.o (List.eq_nil_of_length_eq_zero e)
      intro v' w5 hown5 hb5
      have e5:p.length+1=(p++[v.tag]).length:=by simp
      have e6:Ag (p.map An)++[.string ⟨(An v.tag).toArray⟩]=Ag ((p++[v.tag]).map An):=by simp[Ag]
      rw[e5,e6]at hown5
      obtain⟨A5,c5,rfl,_⟩:=Bf.own hown5
      refine hK _ _ _ Ab ?_ rfl
      show Ju _ _ _ _ _ _ _ _ (l 9) true (l 12) _ _ _
      rw[h12,hp.2.1]
      exact⟨A5,c5,rfl,Mi hown5 hb.size,hb.trans (hb5.mono hb.size)⟩) ?_
     refine sq ?_
     refine Py (fun _=>True) (by
      intro l u W hl hp hF hG hi K hK
      simp[Region.binds,Et]at hp
      have h:Ju B okm lm p v.tag qm (.slice A3 n3 c3) wk (l 9) (l 10) (l 12) (u 9) (u 10) W:=hF.o
      have h10:l 10=true:=by simp[hp]
      rw[hl,h10]at h
      cases h9:l 9<;>rw[h9]at h
      ·exact h.elim
      obtain⟨A5,c5,e10,ho,hb⟩:=h
      have HC:=Aa (HR.o W A5 c5 hb ho)
      clear hG hi ho
      have Hb:=Aa hb
      clear hb
      unfold Kc at HC
      simp only[List.length_append,List.length_cons,List.length_nil,Nat.zero_add]at HC e10
      go_simp
      refine HC.o.mono ?_
      rintro e w' ⟨rfl,A6,n6,c6,h6,k6⟩
      refine hK _ _ _ Ab ?_ (by simp[Act.put,hp,e10];exact rfl)
      show Ju _ _ _ _ _ _ _ _ (l 9) (l 10) true _ _ _
      rw[h9,h10]
      exact⟨A6,n6,c6,h6,(Cw.of_below Hb.o).trans k6⟩) ?_
     intro l u W hl _ hR
     have h:Ju B okm lm p v.tag qm (.slice A3 n3 c3) wk (l 9) (l 10) (l 12) (u 9) (u 10) W:=hR
     rw[hl 9 (by decide),hl 10 (by decide),hl 12 (by decide)]at h
     obtain⟨A6,n6,c6,h6,k6⟩:=h
     rw[HQ.o,HO.o]at h6
     have H6:=Aa h6
     have K6:=Aa (Hk3.o.trans ((Cw.of_below Hbk.o).trans k6))
     clear hl hR h6 k6
     go_wp2_with fail
     go_roundw
     case rel=>first|exact⟨m+1,A6,n6,c6,by go_num,by omega,H6.o,K6.o⟩|exact⟨_,_,_,_,⟨m+1,rfl,by omega,A6,n6,c6,H6.o,K6.o⟩,rfl,rfl,rfl,by go_num⟩
     case measure=>simp[intOf];omega
    ·obtain rfl:m=xs.length:=by omega
     have ht:(ys.map (·.2)).take xs.length=ys.map (·.2):=List.take_of_length_le (by have:=Hyl.o;have:=Hxk.o;simp;omega)
     have h3:=Hst3.o
     rw[ht,<-HL.o]at h3
     have H3:=Aa h3
     clear h3 ht
     go_wp2_with fail
     apply bodyPost_end
     rotate_left
     ·rfl
     ·exact⟨rfl,A3,n3,c3,H3.o,(Cw.of_below Hb1.o).trans Hk3.o⟩
     exact results_none (by kernel_rfl) _ _ _
  clear Hn63
  go_enter func43,ntmps43
  go_wp2_with fail
  generalize hwg:World.alloc w _=wg
  obtain rfl:w1=wg:=Hw1''.out.trans hwg
  clear hwg Hw1''
  go_loopw [44,6,7,8] (fun i x6 x7 x8 wr=>∃(m:Nat) (A3:Option Addr) (n3 c3:Nat),i=.int .i64 m/\m<=xs.length/\Hid (Kf B (Nn okb p (Ct (Co d) st ((ys.map (·.2)).take m))) (ls++(Ct (Co d) st ((ys.map (·.2)).take m)).map fun q=>En (p++q)) (.slice A3 n3 c3) wr)/\Hid (Cw B (.slice A0 n0 c0) w1 wr (.slice A3 n3 c3))) (fun i _ _ _ _=>xs.length - (intOf i).toNat)
  case atStart=>exact⟨0,A0,n0,c0,rfl,Nat.zero_le _,by show Kf _ _ _ _ _;simpa [Ct,Nn]using Hst.o,Cw.refl _ _ _⟩
  case round=>
   obtain⟨m,A3,n3,c3,rfl,hm,Hst3,Hk3⟩:=hrel
   have m1:(0:Int)<=(m:Int):=by omega
   obtain⟨f1,f2,f3⟩:=Hn.o w.heap.size (Ap _)
   have q0:=Hk3.o.cell k0 hb0 f1 f2 f3
   have q3:=Hk3.o.cell k3 hb0 f1 f2 f3
   have hlr:w.heap.size<wr.heap.size:=Nat.lt_of_lt_of_le hb0 Hk3.o.size
   have hlr2:¬(w.heap.size=wr.heap.size):=by omega
   clear f1 f2 f3
   by_cases hlt:m<xs.length
   ·have m2:(m:Int)<(xs.length:Int):=by omega
    have hly:m<ys.length:=by have:=Hyl.o;have:=Hxk.o;omega
    have hiv3:Eb (fun x=>P x/\x<w.heap.size) wr (.slice A9 xs.length c9) v.kids:=Hiv.o.kept (fun b o u hP hl hu=>Hk3.o.cell hu hl (HP.o b hP.1 hP.2).1 (HP.o b hP.1 hP.2).2.1 (HP.o b hP.1 hP.2).2.2) Hk3.o.size fun _ h _=>h
    obtain⟨A9',c9',xs',e9,hks',hxl',hrow',_,hkid'⟩:=hiv3
    injection e9 with e91 e92 e93
    subst e91 e93
    have hlt':m<xs'.length:=by omega
    obtain⟨b,off,rfl,hb,d0,d1,d2,d3⟩:=Eb.at_ hrow' hlt'
    have Hkx:=Aa (hkid' xs'[m] (List.getElem_mem hlt'))
    have hym:v.kids[m]?=some xs'[m].1:=by rw[hks'];simp[Av,hlt']
    have Hym:=Aa hym
    clear hkid' hrow' hks' hym
    generalize xs'[m]=x at *
    obtain⟨y,ysl⟩:=x
    obtain⟨A7,c7,e7⟩:=Hkx.o.form
    simp only at e7 d0 d1 d2 d3 Hkx Hym
    subst e7
    clear e92 hlt' hxl'
    have hbn:¬(b=wr.heap.size):=by omega
    have hvm:=Hyv.o ys[m] (List.getElem_mem hly)
    have hgm:st m<=1000:=(Hst1.o m).resolve_right (by omega)
    have hys:y=.mk 61 [] (st m) [ys[m].2]:=by have h:=HC.o HW.o;have h2:=Hym.o;rw[h]at h2;simpa [hly]using h2.symm
    subst hys
    have HQ:=Aa (show (ls++(Ct (Co d) st ((ys.map (·.2)).take m)).map fun q=>En (p++q))++(Co d ys[m].2).map (fun q=>En (p++[(st m)]++q))=ls++(Ct (Co d) st ((ys.map (·.2)).take (m+1))).map fun q=>En (p++q)by
     rw[Be (ys.map (·.2)) m (by simpa using hly),Fc,List.map_append,List.append_assoc]
     simp[Function.comp_def,Nat.min_eq_left (Nat.le_of_lt hly)])
    have HO:=Aa (show Nn (Nn okb p (Ct (Co d) st ((ys.map (·.2)).take m))) (p++[(st m)]) (Co d ys[m].2)=Nn okb p (Ct (Co d) st ((ys.map (·.2)).take (m+1)))by
     rw[Be (ys.map (·.2)) m (by simpa using hly),Fc,P5]
     simp[Nat.min_eq_left (Nat.le_of_lt hly)])
    have hcm:(ls++(Ct (Co d) st ((ys.map (·.2)).take m)).map fun q=>En (p++q)).length+(Co d ys[m].2).length<=100000:=by
     have h1:=congrArg List.length HQ.o
     have h2:=Ke (Co d) st (ys.map (·.2)) (m+1)
     have h3:=Hcnt.o
     rw[HL.o]at h3
     simp only[List.length_append,List.length_map]at h1 h2 ⊢
     omega
    obtain⟨qm,hqm⟩:∃q,q=Co d ys[m].2:=⟨_,rfl⟩
    rw[<-hqm]at HQ HO hcm
    have Hqm:=Aa hqm
    clear hqm
    generalize Nn okb p (Ct (Co d) st ((ys.map (·.2)).take m))=okm at *
    generalize (ls++(Ct (Co d) st ((ys.map (·.2)).take m)).map fun q=>En (p++q))=lm at *
    simp only[Vl.what,Vl.text,Vl.tag,Vl.kids,List.length_cons,List.length_nil,Nat.zero_add]at d0 d1 d2 d3 Hkx
    go_wp2_with fail
    obtain⟨A7',c7',zs,ez,hzk,hzl,hzr,_,hzi⟩:=Hkx.o
    injection ez with ez1 ez2 ez3
    obtain⟨⟨z0,zsl⟩,rfl⟩:∃a,zs=[a]:=by
     cases zs with
     |nil=>simp[Av,Vl.kids]at hzk
     |cons a l=>cases l with
      |nil=>exact⟨a,rfl⟩
      |cons b l=>simp[Av,Vl.kids]at hzk
    obtain rfl:ys[m].2=z0:=by simpa [Av,Vl.kids]using hzk
    subst ez1 ez3
    have hkz:=hzi (ys[m].2,zsl) (by simp)
    obtain⟨A8,c8,e8⟩:=hkz.form
    simp only at e8
    subst e8
    obtain⟨b7,o7,rfl,hb7,z0,z1,z2,z3⟩:=Eb.at_ hzr (show 0<1 by decide)
    simp only[List.getElem_cons_zero,Nat.zero_mul,Nat.add_zero]at z0 z1 z2 z3
    have Hkz:=Aa hkz
    clear hkz hzi hzr hzk Hkx ez2 hzl
    generalize hwk:World.alloc wr _=wq
    have hbq:Below wr.heap.size wr wq:=by rw[<-hwk];exact(Au _ _).alloc (Ap _) _
    have hlq:wr.heap.size<wq.heap.size:=by rw[<-hwk];simp
    have y2:wq.cell? ⟨wr.heap.size,2,none⟩=some (.int .i64 (st m:Int)):=by rw[<-hwk];simp
    have y3:wq.cell? ⟨wr.heap.size,3,none⟩=some (.slice (some ⟨b7,o7,none⟩) 1 c7):=by rw[<-hwk];simp
    have yc:∀i,i<4->∃x,wq.cell? ⟨wr.heap.size,i,none⟩=some x:=by
     intro i hi
     rw[<-hwk]
     match i,hi with
     |0,_=>exact⟨_,by simp;rfl⟩
     |1,_=>exact⟨_,by simp;rfl⟩
     |2,_=>exact⟨_,by simp;rfl⟩
     |3,_=>exact⟨_,by simp;rfl⟩
    have yf:∀i,wq.frozen? ⟨wr.heap.size,i,none⟩=false:=by intro i;rw[<-hwk];simp
    have x0:=(hbq.cell (p:=⟨b7,o7,none⟩) hb7).trans z0
    have x1:=(hbq.cell (p:=⟨b7,o7+1,none⟩) hb7).trans z1
    have x2:=(hbq.cell (p:=⟨b7,o7+2,none⟩) hb7).trans z2
    have x3:=(hbq.cell (p:=⟨b7,o7+3,none⟩) hb7).trans z3
    clear hwk z0 z1 z2 z3
    have Yc:=Aa yc
    have Yf:=Aa yf
    clear yc yf
    have Hbq:=Aa hbq
    generalize ys[m].2=z at *
    refine rgF (fun l u W=>R11 wr wq (Np (z,.slice A8 z.kids.length c8)) (l 7) W) (fun _=>True) (fun _ _ _ _=>Ab) ⟨1,rfl⟩ ?_
    refine sq ?_
    refine Py (fun x=>x=.int .i64 (st m:Int)) (by
     intro l u W hl hp hF hG hi K hK
     have h7:=(hi.o 7 (by rfl)).1
     have h:R11 wr wq (Np (z,.slice A8 z.kids.length c8)) (l 7) W:=hF.o
     rw[h7]at h
     obtain⟨k,hk⟩:=h
     simp[Region.binds,Et]at hp
     have q:W.cell? ⟨wr.heap.size,2,none⟩=some (.int .i64 (st m:Int)):=by rw[hk];exact y2
     clear hk h7
     go_simp
     exact hK _ _ _ rfl hF.o (by simp[Act.put,hp])) ?_
    refine sq ?_
    refine Py (fun x=>x=.slice (some ⟨b7,o7,none⟩) 1 c7) (by
     intro l u W hl hp hF hG hi K hK
     have h7:=(hi.o 7 (by rfl)).1
     have h:R11 wr wq (Np (z,.slice A8 z.kids.length c8)) (l 7) W:=hF.o
     rw[h7]at h
     obtain⟨k,hk⟩:=h
     simp[Region.binds,Et]at hp
     have q:W.cell? ⟨wr.heap.size,3,none⟩=some (.slice (some ⟨b7,o7,none⟩) 1 c7):=by rw[hk];exact y3
     clear hk h7
     go_simp
     exact hK _ _ _ rfl hF.o (by simp[Act.put,hp])) ?_
    refine sq ?_
    refine Py (fun x=>x=.agg #[.int .u8 (z.what.toNat:Int),.string ⟨z.text.toArray⟩,.int .i64 (z.tag:Int),.slice A8 z.kids.length c8]) (by
     intro l u W hl hp hF hG hi K hK
     have h7:=(hi.o 7 (by rfl)).1
     have h:R11 wr wq (Np (z,.slice A8 z.kids.length c8)) (l 7) W:=hF.o
     rw[h7]at h
     obtain⟨k,hk⟩:=h
     simp[Region.binds,Et]at hp
     have q0:=(show wq.cell? ⟨b7,o7,none⟩=W.cell? ⟨b7,o7,none⟩by rw[hk];rfl).symm.trans x0
     have q1:=(show wq.cell? ⟨b7,o7+1,none⟩=W.cell? ⟨b7,o7+1,none⟩by rw[hk];rfl).symm.trans x1
     have q2:=(show wq.cell? ⟨b7,o7+2,none⟩=W.cell? ⟨b7,o7+2,none⟩by rw[hk];rfl).symm.trans x2
     have q3:=(show wq.cell? ⟨b7,o7+3,none⟩=W.cell? ⟨b7,o7+3,none⟩by rw[hk];rfl).symm.trans x3
     clear hk h7
     go_simp
     exact hK _ _ _ rfl hF.o (by simp[Act.put,hp])) ?_
    refine sq ?_
    refine Py (fun _=>True) (by
     intro l u W hl hp hF hG hi K hK
     have h:R11 wr wq (Np (z,.slice A8 z.kids.length c8)) (l 7) W:=hF.o
     rw[hl]at h
     obtain⟨k,hk⟩:=h
     simp[Region.binds,Et]at hp
     obtain⟨v0,hv0⟩:=Yc.o 0 (by decide)
     obtain⟨v1,hv1⟩:=Yc.o 1 (by decide)
     obtain⟨v2,hv2⟩:=Yc.o 2 (by decide)
     obtain⟨v3,hv3⟩:=Yc.o 3 (by decide)
     have q0:W.cell? ⟨wr.heap.size,0,none⟩=some v0:=by rw[hk];exact hv0
     have g0:W.frozen? ⟨wr.heap.size,0,none⟩=false:=by rw[hk];exact Yf.o 0
     have q1:W.cell? ⟨wr.heap.size,1,none⟩=some v1:=by rw[hk];exact hv1
     have g1:W.frozen? ⟨wr.heap.size,1,none⟩=false:=by rw[hk];exact Yf.o 1
     have q2:W.cell? ⟨wr.heap.size,2,none⟩=some v2:=by rw[hk];exact hv2
     have g2:W.frozen? ⟨wr.heap.size,2,none⟩=false:=by rw[hk];exact Yf.o 2
     have q3:W.cell? ⟨wr.heap.size,3,none⟩=some v3:=by rw[hk];exact hv3
     have g3:W.frozen? ⟨wr.heap.size,3,none⟩=false:=by rw[hk];exact Yf.o 3
     have hbW:Below wr.heap.size wr W:=by rw[hk];exact below_drewN Hbq.o k
     have hlW:wr.heap.size<W.heap.size:=by rw[hk];exact hlq
     clear hk hv0 hv1 hv2 hv3 hi hG
     go_simp
     refine hK undef _ _ Ab ?_ (by simp[Act.put,hp])
     show R11 _ _ _ true _
     refine⟨(((hbW.setCell (Ap _) _).setCell (Ap _) _).setCell (Ap _) _).setCell (Ap _) _,by simp;exact hlW,?_⟩
     unfold Np
     refine⟨?_,?_,?_,?_⟩<;>simp[go_sem,q0,q1,q2,q3,g0,g1,g2,g3]) ?_
    refine dn fun l u wk hl _ hR=>?_
    have hR:R11 wr wq (Np (z,.slice A8 z.kids.length c8)) (l 7) wk:=hR.o
    rw[hl 7 (by decide)]at hR
    obtain⟨hbk,hlk,e0',e1',e2',e3'⟩:=hR
    have e0:wk.cell? ⟨wr.heap.size,0,none⟩=some (.int .u8 (z.what.toNat:Int)):=e0'
    have e1:wk.cell? ⟨wr.heap.size,1,none⟩=some (.string ⟨z.text.toArray⟩):=e1'
    have e2:wk.cell? ⟨wr.heap.size,2,none⟩=some (.int .i64 (z.tag:Int)):=e2'
    have e3:wk.cell? ⟨wr.heap.size,3,none⟩=some (.slice A8 z.kids.length c8):=e3'
    clear e0' e1' e2' e3'
    have Hz:=Aa (Hkz.o.after hbk)
    clear hl x0 x1 x2 x3 y2 y3 hlq hbq
    go_wp2_with fail
    have Hbk:=Aa hbk
    have hgm2:=hgm
    have HD:=Aa (fun W=>Ez (st m) (st m) W (Ap _) (by omega))
    have HR:=Aa (fun W A5 c5 (hW:Below wk.heap.size wk W) (ho:W.ownsRow wk.heap.size 9 1 (.slice A5 (p++[(st m)]).length c5) (p++[(st m)]).length (Ag ((p++[(st m)]).map An)))=>Hih.o ys[m].1 z hvm (fun x=>P x/\x<w.heap.size) W (.slice A8 z.kids.length c8) B _ _ A3 n3 c3 (p++[(st m)]) A5 c5 (Hz.o.after hW) (fun x hx _=>by
      obtain⟨g1,g2,g3⟩:=HP.o x hx.1 hx.2
      refine⟨g1,g2,?_⟩
      rcases Hk3.o.own with e|⟨k,e,hk⟩
      ·rw[e];exact g3
      rw[e];intro e2;injection e2 with e2;have:=hx.2;omega)
     ((Hst3.o.below Hbk.o).below hW) (by obtain⟨_,_,e,hr⟩:=Bf.own ho;injection e with e1 e2 e3;subst e1;exact hr) (Pr ho) (by simp) (fun g o _ e=>by
      have h1:=(ho.lt g (by rw[e];rfl)).1
      have h2:=Hst3.o.1
      have h3:=Hst3.o.lt
      exact⟨by omega,by omega,fun e2=>by have:=(h3 g e2.symm).2;omega⟩)
     (fun g hg=>by rcases List.mem_append.1 hg with hg|hg;exact Hp.o g hg;simp only[List.mem_singleton]at hg;omega) (by simp;omega) (by rw[<-Hqm.o];exact hcm))
    clear hcm hvm hgm
    unfold Tt at HR
    have Hpa:=Aa (Hr.o.keptP (P:=fun g=>g≠B/\g≠B+1/\some g≠(Value.slice A0 n0 c0).ownBlock) Hfar.o (fun b o u hp hl hu=>Hk3.o.cell hu hl hp.1 hp.2.1 hp.2.2) Hk3.o.size)
    rw[<-Hqm.o]at HR
    refine rgF (fun l u W=>Ju B okm lm p (st m) qm (.slice A3 n3 c3) wk (l 9) (l 10) (l 12) (u 9) (u 10) W) (fun _=>True) (fun _ _ _ _=>Ab) (Au _ _).drew ?_
    refine Py (fun x=>x=.agg #[.int .u8 (z.what.toNat:Int),.string ⟨z.text.toArray⟩,.int .i64 (z.tag:Int),.slice A8 z.kids.length c8]) (by
     intro l u W hl hp hF hG hi K hK
     have h12:=(hi.o 12 (by rfl)).1
     have h:Ju B okm lm p (st m) qm (.slice A3 n3 c3) wk (l 9) (l 10) (l 12) (u 9) (u 10) W:=hF.o
     rw[h12]at h
     have hb:=h.bel
     have h0:=(hb.cell (p:=⟨wr.heap.size,0,none⟩) hlk).trans e0
     have h1:=(hb.cell (p:=⟨wr.heap.size,1,none⟩) hlk).trans e1
     have h2:=(hb.cell (p:=⟨wr.heap.size,2,none⟩) hlk).trans e2
     have h3:=(hb.cell (p:=⟨wr.heap.size,3,none⟩) hlk).trans e3
     clear h hb hp h12
     go_simp
     exact hK _ _ _ rfl hF.o rfl) ?_
    iterate 7 refine sq ?_
    refine Py (fun x=>x=.string ⟨(An (st m)).toArray⟩) (by
     intro l u W hl hp hF hG hi K hK
     have h9:=(hi.o 9 (by rfl)).1
     simp[Region.binds,Et]at hp
     have h:Ju B okm lm p (st m) qm (.slice A3 n3 c3) wk (l 9) (l 10) (l 12) (u 9) (u 10) W:=hF.o
     rw[h9]at h
     cases h10:l 10<;>cases h12:l 12<;>rw[h10,h12]at h
     ·go_simp
      refine(HD.o W).mono ?_
      rintro e w' ⟨rfl,hb⟩
      refine hK _ _ _ rfl ?_ (by simp[Act.put,hp])
      show Ju _ _ _ _ _ _ _ _ (l 9) (l 10) (l 12) _ _ _
      rw[h9,h10,h12]
      exact h.trans (hb.mono h.size)
     all_goals exact h.elim) ?_
    refine Py (fun _=>True) (by
     intro l u W hl hp hF hG hi K hK
     have h10:=(hi.o 10 (by rfl)).1
     simp[Region.binds,Et]at hp
     have h:Ju B okm lm p (st m) qm (.slice A3 n3 c3) wk (l 9) (l 10) (l 12) (u 9) (u 10) W:=hF.o
     rw[hl,h10]at h
     cases h12:l 12<;>rw[h12]at h
     ·go_simp
      refine hK _ _ _ Ab ?_ (by simp[Act.put,hp];exact rfl)
      show Ju _ _ _ _ _ _ _ _ true (l 10) (l 12) _ _ _
      rw[h10,h12]
      exact⟨W,h,rfl,rfl⟩
     exact h.elim) ?_
    refine Py (fun _=>True) (by
     intro l u W hl hp hF hG hi K hK
     have h12:=(hi.o 12 (by rfl)).1
     simp[Region.binds,Et]at hp
     have h:Ju B okm lm p (st m) qm (.slice A3 n3 c3) wk (l 9) (l 10) (l 12) (u 9) (u 10) W:=hF.o
     rw[hl,h12,hp.2.1]at h
     obtain⟨W0,hb,rfl,e3⟩:=h
     clear hG hi
     simp only[Region.wanted,if_true]
     refine Rs W0 (.tmp 70) (.tmp 73) 31 rfl 9 (.string ⟨#[]⟩) 16 underlying31 Gd (by decide) (.string ⟨(An (st m)).toArray⟩) rfl A p.length (Ag (p.map An)) ?_ ?_ ((Hpa.o.below Hbk.o).below hb) ?_ (by unfold maxLen;omega) (by omega) ?_
     ·simp[hp];rfl
     ·simp[hp,e3];rfl
     ·exact fun e=>Hpn.o (List.eq_nil_of_length_eq_zero e)
     intro v' w5 hown5 hb5
     have e5:p.length+1=(p++[(st m)]).length:=by simp
     have e6:Ag (p.map An)++[.string ⟨(An (st m)).toArray⟩]=Ag ((p++[(st m)]).map An):=by simp[Ag]
     rw[e5,e6]at hown5
     obtain⟨A5,c5,rfl,_⟩:=Bf.own hown5
     refine hK _ _ _ Ab ?_ rfl
     show Ju _ _ _ _ _ _ _ _ (l 9) true (l 12) _ _ _
     rw[h12,hp.2.1]
     exact⟨A5,c5,rfl,Mi hown5 hb.size,hb.trans (hb5.mono hb.size)⟩) ?_
    refine sq ?_
    refine Py (fun _=>True) (by
     intro l u W hl hp hF hG hi K hK
     simp[Region.binds,Et]at hp
     have h:Ju B okm lm p (st m) qm (.slice A3 n3 c3) wk (l 9) (l 10) (l 12) (u 9) (u 10) W:=hF.o
     have h10:l 10=true:=by simp[hp]
     rw[hl,h10]at h
     cases h9:l 9<;>rw[h9]at h
     ·exact h.elim
     obtain⟨A5,c5,e10,ho,hb⟩:=h
     have HC:=Aa (HR.o W A5 c5 hb ho)
     clear hG hi ho
     have Hb:=Aa hb
     clear hb
     unfold Kc at HC
     simp only[List.length_append,List.length_cons,List.length_nil,Nat.zero_add]at HC e10
     go_simp
     refine HC.o.mono ?_
     rintro e w' ⟨rfl,A6,n6,c6,h6,k6⟩
     refine hK _ _ _ Ab ?_ (by simp[Act.put,hp,e10];exact rfl)
     show Ju _ _ _ _ _ _ _ _ (l 9) (l 10) true _ _ _
     rw[h9,h10]
     exact⟨A6,n6,c6,h6,(Cw.of_below Hb.o).trans k6⟩) ?_
    intro l u W hl _ hR
    have h:Ju B okm lm p (st m) qm (.slice A3 n3 c3) wk (l 9) (l 10) (l 12) (u 9) (u 10) W:=hR
    rw[hl 9 (by decide),hl 10 (by decide),hl 12 (by decide)]at h
    obtain⟨A6,n6,c6,h6,k6⟩:=h
    rw[HQ.o,HO.o]at h6
    have H6:=Aa h6
    have K6:=Aa (Hk3.o.trans ((Cw.of_below Hbk.o).trans k6))
    clear hl hR h6 k6
    go_wp2_with fail
    go_roundw
    case rel=>first|exact⟨m+1,A6,n6,c6,by go_num,by omega,H6.o,K6.o⟩|exact⟨_,_,_,_,⟨m+1,rfl,by omega,A6,n6,c6,H6.o,K6.o⟩,rfl,rfl,rfl,by go_num⟩
    case measure=>simp[intOf];omega
   ·obtain rfl:m=xs.length:=by omega
    have ht:(ys.map (·.2)).take xs.length=ys.map (·.2):=List.take_of_length_le (by have:=Hyl.o;have:=Hxk.o;simp;omega)
    have h3:=Hst3.o
    rw[ht,<-HL.o]at h3
    have H3:=Aa h3
    clear h3 ht
    go_wp2_with fail
    apply bodyPost_end
    rotate_left
    ·rfl
    ·exact⟨rfl,A3,n3,c3,H3.o,(Cw.of_below Hb1.o).trans Hk3.o⟩
    exact results_none (by kernel_rfl) _ _ _
 exact enter _ rfl hwh
theorem Qbv{S:List Ty}(hS:∀t∈S,Du t):∀d,Qha S d
 |0=>fun k v h=>by cases h
 |d+1=>Qfg hS d (Qbv hS d)
def Qhl(o:Option Vl)(w:World)(e:Ending)(w':World):Prop:=
 (∃p k1 k2 k3 v sl,e=.returned (.tuple #[.pointer p,.agg #[.string k1,.string k2,.string k3],Kc v sl,.bool o.isSome])/\Eb (fun c=>w.heap.size<=c) w' sl v.kids/\∀y,o=some y->v=y)/\Below w.heap.size w w'
theorem Qdt(qs:List (List Nat)):Nn true [] qs=qs.all fun q=>decide (q.length<=8):=by unfold Nn;simp
theorem So(s d x:List UInt8)(w:World)(HG:Calls prog 42 #[.string ⟨s.toArray⟩,.string ⟨d.toArray⟩,.string ⟨x.toArray⟩] w (Qhl (Mp (C4 s d) x) w)):
  Calls prog 20 #[.string ⟨s.toArray⟩,.string ⟨d.toArray⟩,.string ⟨x.toArray⟩] w (Pa ((Mp (C4 s d) x).bind lvL) w):=by
 have HG:=Aa HG
 cases hv:Mp (C4 s d) x with
 |none=>
  rw[hv]at HG
  clear hv
  go_enter func20,ntmps20
  go_wp2_with fail
  refine HG.o.mono ?_
  rintro e w1 ⟨⟨p,k1,k2,k3,v,sl,rfl,hs1,_⟩,hb1⟩
  obtain⟨A1,c1,rfl⟩:=hs1.form
  have Hb1:=Aa hb1
  unfold Kc
  clear hs1 hb1
  go_wp2_with fail
  go_ret2
  refine⟨none,0,rfl,World.ownsRow_nil _ _ _ _,?_⟩
  have h:=Hb1.o
  exact((h.alloc h.size _).alloc (by simp;have:=h.size;omega) _).alloc (by simp;have:=h.size;omega) _
 |some y=>
  obtain⟨S,k,hbo,hok,hk,_,_,hvok,hpr,hxl⟩:=Qn hv
  rw[hv]at HG
  have hS:=hok.1.1
  have hcnt:=Xg 12 k y hvok
  rw[hpr]at hcnt
  have HE:=Aa (Xk y)
  have HL:=Aa (Qbv hS 12 k y hvok)
  clear hv hbo hok hk hvok hpr hS
  generalize Co 12 y=qs at *
  go_enter func20,ntmps20
  go_wp2_with fail
  refine HG.o.mono ?_
  rintro e w1 ⟨⟨p,k1,k2,k3,v,sl,rfl,hs1,hy⟩,hb1⟩
  obtain rfl:=hy y rfl
  obtain⟨A1,c1,rfl⟩:=hs1.form
  have Hb1:=Aa hb1
  have Hs1:=Aa hs1
  unfold Kc
  clear hs1 hb1 hy
  go_wp2_with fail
  generalize hw4:World.alloc (World.alloc (World.alloc (World.alloc w1 _) _) _) _=w4
  have hb4:Below w1.heap.size w1 w4:=by rw[<-hw4];exact((((Au _ _).alloc (Ap _) _).alloc (by simp) _).alloc (by simp;omega) _).alloc (by simp;omega) _
  have hst4:Kf (w1.heap.size+1+1) true [] (.slice none 0 0) w4:=by
   rw[<-hw4]
   refine⟨by simp,?_,?_,?_,?_,World.ownsRow_nil _ _ _ _⟩
   all_goals simp[go_sem]
  have HX:=Aa (HL.o (fun c=>w.heap.size<=c/\c<w1.heap.size) w4 (.slice A1 v.kids.length c1) (w1.heap.size+1+1) true [] none 0 0 [] none 0 ((Hs1.o.mono (Q:=fun c=>w.heap.size<=c/\c<w1.heap.size) fun c h1 h2=>⟨h1,h2⟩).after hb4) (fun c hc _=>⟨by have:=hc.2;omega,by have:=hc.2;omega,fun e=>by cases e⟩) hst4 ⟨rfl,Nat.zero_le _,fun h=>absurd h (by simp)⟩ (Nat.zero_le _) (fun _=>rfl) (fun g o h=>absurd h (by simp)) (by simp) (by simp) (by simp;omega))
  have Hb4:=Aa (Hb1.o.trans (hb4.mono Hb1.o.size))
  have hz4:=hst4.1
  have hzw:=Hb1.o.size
  clear hw4 hb4 hst4 HL Hs1
  unfold Kc Tt at HX
  refine HX.o.mono ?_
  rintro e w5 ⟨rfl,A5,n5,c5,⟨hz5,k0,_,k1',_,hown⟩,k5⟩
  simp only[List.nil_append]at hown k0
  rw[Qdt]at k0
  obtain⟨A5',c5',e5,_⟩:=Bf.own hown
  injection e5 with e51 e52 e53
  subst e51 e52 e53
  have hb5:Below w.heap.size w w5:=Hb4.o.trans ⟨k5.os,k5.tape,k5.output,k5.size,fun b hb=>k5.block b (by omega) (by omega) (by omega) (by simp[Value.ownBlock])⟩
  have Hown:=Aa (Mi hown (show w.heap.size<=w1.heap.size+1+1+2 by omega))
  have Hb5:=Aa hb5
  clear hown hb5 k5 HX hz4 hzw
  by_cases h8:∀q∈qs,q.length<=8
  ·have t8:(qs.all fun q=>decide (q.length<=8))=true:=by simpa using h8
   have HE2:=Aa (HE.o.trans (if_pos h8))
   rw[t8]at k0
   clear h8 t8
   go_wp2_with fail
   go_ret2
   show Pa (lvL v) w _ _
   rw[HE2.o]
   exact⟨A5,c5,by simp,by simpa using Hown.o,Hb5.o⟩
  have t8:(qs.all fun q=>decide (q.length<=8))=false:=by
   rw[Bool.eq_false_iff]
   intro h
   exact h8 (by simpa using h)
  have HE2:=Aa (HE.o.trans (if_neg h8))
  rw[t8]at k0
  clear h8 t8
  go_wp2_with fail
  go_ret2
  show Pa (lvL v) w _ _
  rw[HE2.o]
  exact⟨none,0,rfl,World.ownsRow_nil _ _ _ _,Hb5.o⟩
end
end Go.Proofs.YtpjijpcemejlnaaGreatDoor
