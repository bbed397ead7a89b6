/- What the other texts share. Conditions: as each theorem names them. -/
import Derived.Test.YtmmhmlmfhpfgbaaGreatDoorProg
import Derived.WalkKit
import Derived.WalkSmall
import Derived.WalkSpells
import Derived.WalkLawsBesides
import Derived.Below
import Derived.Lib.Hide
import Derived.Lib.BufferRead
import Derived.Laws.BytesArg
import Derived.Deep.MidRow
set_option maxRecDepth 100000
set_option maxHeartbeats 32000000
set_option linter.unusedVariables false
set_option linter.unusedSimpArgs false
namespace Go.Proofs.YtmmhmlmfhpfgbaaGreatDoor
open Go.RowKit Go.Proofs.Tryz
theorem kF {φ R : Value → World → Prop} {f : Value → Act} {K : Act → World → Prop} (hK : ∀ v w' a', φ v w' → True → R v w' → a' = f v → K a' w') {v : Value} {w' : World} {a' : Act} (h : R v w') (h1 : φ v w' := by first | exact rfl | exact True.intro) (h2 : a' = f v := by first | exact rfl | (simp [Act.put, hpre]; done) | (simp [Act.put, hpre]; exact rfl)) (h3 : v = v := by first | exact @rfl _ undef | exact rfl) : K a' w' := hK v w' a' h1 True.intro h h2
instance:Coe (List UInt8) Value:=⟨fun l=>.string ⟨l.toArray⟩⟩
instance:Coe Int Value:=⟨fun l=>.int .i64 l⟩
instance:Coe Nat Value:=⟨fun b=>.pointer (some ⟨b,0,none⟩)⟩
instance:Coe World Nat:=⟨fun w=>w.heap.size⟩
instance(b i:Nat):CoeDep (Nat×Nat) (b,i) Addr:=⟨⟨b,i,none⟩⟩
instance(b i:Nat):CoeDep (Nat×Nat) (b,i) (Option Addr):=⟨some ⟨b,i,none⟩⟩
instance(b i:Nat):CoeDep (Nat×Nat) (b,i) Value:=⟨.pointer (some ⟨b,i,none⟩)⟩
instance(b i:Nat):CoeDep (Nat×Nat) (b,i) (Option Value):=⟨some (.pointer (some ⟨b,i,none⟩))⟩
instance(b:World)(i:Nat):CoeDep (World×Nat) (b,i) Addr:=⟨⟨b.heap.size,i,none⟩⟩
instance(b:World)(i:Nat):CoeDep (World×Nat) (b,i) (Option Addr):=⟨some ⟨b.heap.size,i,none⟩⟩
instance(b:World)(i:Nat):CoeDep (World×Nat) (b,i) Value:=⟨.pointer (some ⟨b.heap.size,i,none⟩)⟩
instance(b:World)(i:Nat):CoeDep (World×Nat) (b,i) (Option Value):=⟨some (.pointer (some ⟨b.heap.size,i,none⟩))⟩
instance(b:World)(n i:Nat):CoeDep (World×Nat×Nat) (b,n,i) Addr:=⟨⟨b.heap.size+n,i,none⟩⟩
instance(b:World)(n i:Nat):CoeDep (World×Nat×Nat) (b,n,i) (Option Addr):=⟨some ⟨b.heap.size+n,i,none⟩⟩
instance(b:World)(n i:Nat):CoeDep (World×Nat×Nat) (b,n,i) Value:=⟨.pointer (some ⟨b.heap.size+n,i,none⟩)⟩
instance(b:World)(n i:Nat):CoeDep (World×Nat×Nat) (b,n,i) (Option Value):=⟨some (.pointer (some ⟨b.heap.size+n,i,none⟩))⟩
inductive Ea0|z
def a6:Ea0:=.z
instance:Coe Ea0 Value:=⟨fun _=>.string ⟨#[]⟩⟩
theorem aa:type_of% @World.rangeAt_setCells_same:=@World.rangeAt_setCells_same
theorem ac:type_of% @Nat.lt_of_lt_of_le:=@Nat.lt_of_lt_of_le
theorem ad:type_of% @Nat.le_trans:=@Nat.le_trans
theorem ae:type_of% @List.getElem_mem:=@List.getElem_mem
theorem af:type_of% @List.mem_append:=@List.mem_append
theorem ag:type_of% @Nat.zero_le:=@Nat.zero_le
theorem ah:type_of% @List.length_append:=@List.length_append
theorem ai:type_of% @World.there_setCells:=@World.there_setCells
theorem aj:type_of% @Option.some.injEq:=@Option.some.injEq
theorem ak:type_of% @World.rangeAt_setCells_apart:=@World.rangeAt_setCells_apart
theorem am:type_of% @Nat.zero_add:=@Nat.zero_add
theorem ao:type_of% @Bool.false_eq_true:=@Bool.false_eq_true
theorem ap:type_of% @List.mem_map_of_mem:=@List.mem_map_of_mem
theorem aq:type_of% @List.mem_singleton:=@List.mem_singleton
theorem ar:type_of% @World.there_alloc:=@World.there_alloc
theorem au:type_of% @List.take_of_length_le:=@List.take_of_length_le
theorem av:type_of% @List.cons_append:=@List.cons_append
theorem aw:type_of% @Bool.and_eq_true:=@Bool.and_eq_true
theorem ax:type_of% @List.mem_map:=@List.mem_map
theorem ay:type_of% @List.map_cons:=@List.map_cons
theorem az:type_of% @List.map_append:=@List.map_append
theorem aA:type_of% @List.mem_cons:=@List.mem_cons
theorem aB:type_of% @World.cell?_drew:=@World.cell?_drew
theorem aC:type_of% @decide_eq_false:=@decide_eq_false
theorem aD:type_of% @decide_eq_true:=@decide_eq_true
theorem aE:type_of% @Prod.mk.injEq:=@Prod.mk.injEq
theorem aF:type_of% @bodyPost_ret:=@bodyPost_ret
theorem aG:type_of% @Nat.lt_or_ge:=@Nat.lt_or_ge
theorem aH{p:Prop}(h:p:=by omega):p:=h
theorem aI{p:Prop}(h:p:=by simp[Act.put,hpre]):p:=h
theorem aJ{p:Prop}(h:p:=by decide):p:=h
theorem aK{p:Prop}(h:p:=by simp):p:=h
theorem aL{p:Prop}(h:p:=by first|exact hpre|exact hpre.1|exact hpre.2|exact hpre.2.1|exact hpre.1.1|exact hpre.2.2.1):p:=h
theorem aM{p:Prop}(h:p:=by simp;omega):p:=h
theorem aN{p:Prop}(h:p:=by kernel_rfl):p:=h
theorem aO{p:Prop}(h:p:=by first|exact An _|(simp;omega)|omega):p:=h
theorem aP{p:Prop}(h:p:=by (repeat (first|exact Ao _ _|refine Below.setCell ?_ (by first|exact An _|(simp;done)|(simp;omega)|omega) _|refine Below.alloc ?_ (by first|exact An _|(simp;done)|(simp;omega)|omega) _|refine Below.drew ?_|refine below_drewN ?_ _))):p:=h
theorem aQ{p:Prop}(h:p:=by first|exact An _|(simp;done)|(simp;omega)|omega):p:=h
theorem aR{p:Prop}(h:p:=by simpa using h):p:=h
theorem aS{p:Prop}(h:p:=by (repeat (first|exact Hb2.o|refine Below.setCell ?_ (by first|exact An _|(simp;omega)|omega) _|refine Below.alloc ?_ (by first|exact An _|(simp;omega)|omega) _|refine Below.drew ?_))):p:=h
theorem aT{p:Prop}(h:p:=by first|rfl|(simp[Act.put,hpre];done)|(simp[Act.put,hpre];omega)):p:=h
theorem aU{p:Prop}(h:p:=by unfold maxLen;omega):p:=h
theorem aV{p:Prop}(h:p:=by (repeat (first|exact Hb.o|refine Below.setCell ?_ (by first|exact An _|(simp;omega)|omega) _|refine Below.alloc ?_ (by first|exact An _|(simp;omega)|omega) _|refine Below.drew ?_))):p:=h
theorem aW{p:Prop}(h:p:=by (repeat (first|exact Hb4.o|refine Below.setCell ?_ (by first|exact An _|exact Hb4.o.size|(simp;done)|(simp;omega)|omega) _|refine Below.alloc ?_ (by first|exact An _|exact Hb4.o.size|(simp;done)|(simp;omega)|omega) _|refine Below.drew ?_))):p:=h
theorem aX{p:Prop}(h:p:=by rw[HS9.o];refine Ai _ (An _) _ _ _ ?_;first|with_reducible exact Hb.o|exact Hb.o.alloc Hb.o.size _):p:=h
theorem aY{p:Prop}(h:p:=by (repeat (first|exact Hb2.o|refine Below.setCell ?_ (by first|exact An _|exact Hb2.o.size|(simp;done)|(simp;omega)|omega) _|refine Below.alloc ?_ (by first|exact An _|exact Hb2.o.size|(simp;done)|(simp;omega)|omega) _))):p:=h
theorem aZ{p:Prop}(h:p:=by first|omega|(simp;omega)):p:=h
theorem ba{p:Prop}(h:p:=by simp[Act.put,hpre,hpe]):p:=h
theorem bc{p:Prop}(h:p:=by (repeat (first|exact Hb5.o|refine Below.setCell ?_ (by first|exact An _|(simp;omega)|omega) _|refine Below.alloc ?_ (by first|exact An _|(simp;omega)|omega) _|refine Below.drew ?_))):p:=h
theorem bg{p:Prop}(h:p:=by first|(simp[Act.put,hpre];done)|(simp[Act.put,hpre];omega)):p:=h
theorem bh{p:Prop}(h:p:=by simp[Value.oneCell']):p:=h
theorem bj{p:Prop}(h:p:=by simp[Act.put,hpre,hnb]):p:=h
theorem bo{p:Prop}(h:p:=by (repeat (first|exact HbW.o|refine Below.setCell ?_ (by first|exact An _|(simp;done)|(simp;omega)|omega) _|refine Below.alloc ?_ (by first|exact An _|(simp;done)|(simp;omega)|omega) _|refine Below.drew ?_|refine below_drewN ?_ _))):p:=h
theorem bp{p:Prop}(h:p:=by first|exact An _|exact Hb2.o.size|(simp;done)|(simp;omega)|omega):p:=h
theorem br{p:Prop}(h:p:=by first|exact An _|exact Hb4.o.size|(simp;done)|(simp;omega)|omega):p:=h
theorem bu{p:Prop}(h:p:=by rw[HS9.o];exact aa _ _ _ _ (by first|exact ar HT.o _|exact HT.o)):p:=h
theorem bw{p:Prop}(h:p:=by simp[Act.put,hpre,w1i,w2i,hu8]):p:=h
theorem bz{p:Prop}(h:p:=by rw[hp];simp):p:=h
theorem bB{p:Prop}(h:p:=by first|exact hpre.2|exact hpre.2.1|exact hpre.1):p:=h
theorem bC{p:Prop}(h:p:=by have:=Hsl.o;simp at this;omega):p:=h
theorem bD{p:Prop}(h:p:=by unfold Addr.add;split<;>simp_all):p:=h
theorem bE{p:Prop}(h:p:=by simp[Act.put,hpre,w1i]):p:=h
theorem bF{p:Prop}(h:p:=by rw[hfz4 w.heap.size j (by simp;omega)];simp[go_sem,hfz2,hfz,hzz,hz3]):p:=h
theorem bG{p:Prop}(h:p:=by rw[HS9.o];refine Ai _ (An _) _ _ _ ?_;first|with_reducible exact Hb4.o|exact Hb4.o.alloc Hb4.o.size _):p:=h
theorem bH{p:Prop}(h:p:=by rw[HS9.o];refine Ai _ (An _) _ _ _ ?_;first|with_reducible exact Hb6.o|exact Hb6.o.alloc Hb6.o.size _):p:=h
theorem bI{p:Prop}(h:p:=by rw[HS10.o];exact ak (show w9.rangeAt w 0 [a6,a6,a6]from by rw[HS9.o];exact aa _ _ _ _ HT9.o) _ _ _ (.inl (show w.heap.size≠w.heap.size+1 by omega))):p:=h
theorem bJ{p:Prop}(h:p:=by rw[hc4 w 0 (by simp;omega)];simp[go_sem,hc2,hc,hzz,hz3]):p:=h
theorem bK{p:Prop}(h:p:=by rw[hc4 w 1 (by simp;omega)];simp[go_sem,hc2,hc,hzz,hz3]):p:=h
theorem bL{p:Prop}(h:p:=by rw[hc4 w 2 (by simp;omega)];simp[go_sem,hc2,hc,hzz,hz3]):p:=h
theorem bM{p:Prop}(h:p:=by rw[hc4 w 3 (by simp;omega)];simp[go_sem,hc2,hc,hzz,hz3]):p:=h
theorem bN{p:Prop}(h:p:=by rw[k1,hs];simp):p:=h
theorem bO{p:Prop}(h:p:=by rw[hc57 _ _ (by omega),hW5];go_simp):p:=h
theorem bP{p:Prop}(h:p:=by (repeat (first|exact Hb4.o|refine Below.setCell ?_ (by first|exact An _|(simp;omega)|omega) _|refine Below.alloc ?_ (by first|exact An _|(simp;omega)|omega) _|refine Below.drew ?_|refine Below.trans ?_ (hb6.mono (by first|exact An _|(simp;omega)|omega))))):p:=h
theorem bQ{p:Prop}(h:p:=by (repeat (first|exact Hb.o|refine Below.setCell ?_ (by first|exact An _|(simp;omega)|omega) _|refine Below.alloc ?_ (by first|exact An _|(simp;omega)|omega) _|refine Below.drew ?_|refine Below.trans ?_ (hb6.mono (by first|exact An _|(simp;omega)|omega))))):p:=h
theorem bR{p:Prop}(h:p:=by simp[Act.put,hpre,hw1,hw2,hsb]):p:=h
theorem bS{p:Prop}(h:p:=by rw[hb];decide):p:=h
theorem bT{p:Prop}(h:p:=by rw[hW3];exact(((Ao _ _).alloc (An _) _).alloc (by simp) _).alloc (by simp;omega) _):p:=h
theorem bU{p:Prop}(h:p:=by have e:10 ^ (2+1)=1000:=rfl;omega):p:=h
theorem bV{p:Prop}(h:p:=by first|exact ar HT.o _|exact HT.o):p:=h
theorem bW{p:Prop}(h:p:=by intro e;injection e with e;omega):p:=h
theorem bX{p:Prop}(h:p:=by (repeat (first|exact hbr.o|refine Below.setCell ?_ (by first|exact An _|(simp;done)|(simp;omega)|omega) _|refine Below.alloc ?_ (by first|exact An _|(simp;done)|(simp;omega)|omega) _|refine Below.drew ?_|refine below_drewN ?_ _))):p:=h
theorem bY{p:Prop}(h:p:=by simp[Act.put,hpre,u5]):p:=h
theorem bZ{p:Prop}(h:p:=by rw[IntWalk.u8_in _ (by omega)];omega):p:=h
theorem ca{p:Prop}(h:p:=by rw[hfz w.heap.size j (by simp)];simp):p:=h
theorem cb{p:Prop}(h:p:=by simp[Act.put,hpre];done):p:=h
theorem cd{p:Prop}(h:p:=by have:=hk.2.2;omega):p:=h
theorem ce{p:Prop}(h:p:=by have:=Ap hne;simpa using this):p:=h
theorem ch{p:Prop}(h:p:=by simp[Act.put,hpre,H64.o]):p:=h
theorem ci{p:Prop}(h:p:=by (repeat (first|exact Hb5.o|refine Below.setCell ?_ (by first|exact An _|(simp;done)|(simp;omega)|omega) _|refine Below.alloc ?_ (by first|exact An _|(simp;done)|(simp;omega)|omega) _|refine Below.drew ?_))):p:=h
theorem cj{p:Prop}(h:p:=by rw[HS9.o];exact aa _ _ _ _ (by first|exact ar HT4.o _|exact HT4.o)):p:=h
theorem ck{p:Prop}(h:p:=by rw[HS9.o];exact aa _ _ _ _ (by first|exact ar HT6.o _|exact HT6.o)):p:=h
theorem cm{p:Prop}(h:p:=by rw[hfz4 w2.heap.size j (by simp)];simp):p:=h
theorem cn{p:Prop}(h:p:=by simp[Act.put,hpre,hwr]):p:=h
theorem co{p:Prop}(h:p:=by simp[hl,go_sem]):p:=h
theorem cp{p:Prop}(h:p:=by have:=Bj hne;simpa using this):p:=h
theorem cq{p:Prop}(h:p:=by rw[beq_eq_false_iff_ne];omega):p:=h
theorem cr{p:Prop}(h:p:=by rfl):p:=h
theorem ct{p:Prop}(h:p:=by unfold Ax Bu;rw[hs0,hb];rfl):p:=h
theorem cu{p:Prop}(h:p:=by rw[HS10.o];refine Ai _ (by omega) _ _ _ ?_;rw[HS9.o];exact Ai _ (An _) _ _ _ Hb4.o):p:=h
theorem cv{p:Prop}(h:p:=by rw[Hs.o];simp):p:=h
theorem cw{p:Prop}(h:p:=by rw[hc w 0 (by simp)];simp):p:=h
theorem cx{p:Prop}(h:p:=by rw[hc w 1 (by simp)];simp):p:=h
theorem cz{p:Prop}(h:p:=by rw[hc w 2 (by simp)];simp):p:=h
theorem cB{p:Prop}(h:p:=by simp[Act.put,hpre,e6]):p:=h
theorem cC{p:Prop}(h:p:=by have:=Ap (d:=69) h69;simpa using this):p:=h
theorem cD{p:Prop}(h:p:=by have:=Bj (d:=69) h69;simpa using this):p:=h
theorem cE{p:Prop}(h:p:=by rw[hfz3 _ _ (by omega),hfz2 _ _ (by simp)];go_simp):p:=h
theorem cF{p:Prop}(h:p:=by have:=Ap hst;simpa using this):p:=h
theorem cG{p:Prop}(h:p:=by rw[hW1];simp):p:=h
theorem cH{p:Prop}(h:p:=by first|exact hpre.2|exact hpre.1.2|exact hpre.2.2):p:=h
theorem cI{p:Prop}(h:p:=by rw[hcc _ _ (by omega),hc2 _ _ (by simp)];go_simp):p:=h
theorem cJ{p:Prop}(h:p:=by unfold Ce;rw[if_pos rfl,hp];cases Me [a,b]<;>rfl):p:=h
theorem cK{p:Prop}(h:p:=by rw[hc4 w2 0 (by simp)];simp):p:=h
theorem cL{p:Prop}(h:p:=by rw[hc4 w2 1 (by simp)];simp):p:=h
theorem cM{p:Prop}(h:p:=by rw[hc4 w2 2 (by simp)];simp):p:=h
theorem cN{p:Prop}(h:p:=by rw[hc4 w2 3 (by simp)];simp):p:=h
theorem cO{p:Prop}(h:p:=by simp[hsg]):p:=h
theorem cP{p:Prop}(h:p:=by rw[hW5];exact((((((Ao _ _).alloc (An _) _).alloc (by simp) _).alloc (by simp;omega) _).alloc (by simp;omega) _).alloc (by simp;omega) _)):p:=h
theorem cQ{p:Prop}(h:p:=by simp only[List.all_append,List.all_cons,Hdp.o,Hnp.o,Hs4.o.1];decide):p:=h
theorem cR{p:Prop}(h:p:=by rw[hw2];go_simp):p:=h
theorem cS{p:Prop}(h:p:=by have:=o5.lt;omega):p:=h
theorem cT{p:Prop}(h:p:=by intro h;rcases h with h|h;omega;exact h4 h):p:=h
theorem cU{p:Prop}(h:p:=by rw[hW1];exact Ee.new _ _):p:=h
theorem cV{p:Prop}(h:p:=by rw[hfs];simp):p:=h
theorem cW{p:Prop}(h:p:=by rw[h2];decide):p:=h
theorem cX{p:Prop}(h:p:=by rw[hW2];exact((Ao _ _).alloc (An _) _).alloc (by simp) _):p:=h
theorem cY{p:Prop}(h:p:=by unfold maxLen;have:=Hsp.o;have:=Hsl.o;simp at this;omega):p:=h
theorem cZ{p:Prop}(h:p:=by simp at hkl ⊢;omega):p:=h
theorem d7{p:Prop}(h:p:=by have:=Hsl.o;omega):p:=h
theorem d9{p:Prop}(h:p:=by rw[HB.o]at hy;injection hy with hy;subst hy;exact HV.o):p:=h
theorem da{p:Prop}(h:p:=by rw[hW5];simp):p:=h
theorem db{p:Prop}(h:p:=by simpa using Ab HR6.o 2 rfl):p:=h
theorem dc{p:Prop}(h:p:=by simpa using Ab HR6.o 3 rfl):p:=h
theorem de{p:Prop}(h:p:=by simpa using he):p:=h
theorem df{p:Prop}(h:p:=by cases s with|nil=>exact absurd rfl hne|cons c z=>rfl):p:=h
theorem dg{p:Prop}(h:p:=by first|exact ar HT4.o _|exact HT4.o):p:=h
theorem dh{p:Prop}(h:p:=by first|exact ar HT6.o _|exact HT6.o):p:=h
theorem di{p:Prop}(h:p:=by rw[hfin.o,e7];cases b4<;>simp[h20]):p:=h
theorem dj{p:Prop}(h:p:=by rw[<-hW0];simp[go_sem,u0,hn1,hn2]):p:=h
theorem dk{p:Prop}(h:p:=by rw[<-hW0];simp[go_sem,u1,hn1,hn2]):p:=h
theorem dl{p:Prop}(h:p:=by rw[<-hW0];simp[go_sem,u2,hn1,hn2]):p:=h
theorem dm{p:Prop}(h:p:=by rw[<-hW0];simp[go_sem,u3,hn1,hn2]):p:=h
theorem dn{p:Prop}(h:p:=by unfold Ax Bu;rw[hs,if_pos hb];rfl):p:=h
theorem dp{p:Prop}(h:p:=by simp[Bc]at hL9 ⊢;omega):p:=h
theorem dq{p:Prop}(h:p:=by rw[HS9.o];refine Ai _ (An _) _ _ _ ?_;first|with_reducible exact Hb7.o|exact Hb7.o.alloc Hb7.o.size _):p:=h
theorem dr{p:Prop}(h:p:=by rw[<-hW0];simp[go_sem,hzf,d2,f2]):p:=h
theorem du{p:Prop}(h:p:=by rw[<-hW0];simp[go_sem,hzf,d3,f2]):p:=h
theorem dx{p:Prop}(h:p:=by rw[hW1];go_simp):p:=h
theorem dy{p:Prop}(h:p:=by rw[HS6.o,Ch];exact hz5):p:=h
theorem dz{p:Prop}(h:p:=by simpa using hr):p:=h
theorem dA{p:Prop}(h:p:=by rw[HW3.o];go_simp):p:=h
theorem dB{p:Prop}(h:p:=by simp at hkl;omega):p:=h
theorem dC{p:Prop}(h:p:=by first|exact hpre.2|exact hpre):p:=h
theorem dD{p:Prop}(h:p:=by unfold Ax Kd.part;rw[hsg];rfl):p:=h
theorem dE{p:Prop}(h:p:=by repeat (first|exact Hb2.o.alloc Hb2.o.size _|refine Below.drew ?_|refine below_drewN ?_ _)):p:=h
theorem dF{p:Prop}(h:p:=by unfold Ax Bu;rw[k1.trans hs,k2.trans hb];rfl):p:=h
theorem dG{p:Prop}(h:p:=by rw[hq];simp):p:=h
theorem dH{p:Prop}(h:p:=by rw[h5];decide):p:=h
theorem dI{p:Prop}(h:p:=by rw[k2,hb];decide):p:=h
theorem dJ{p:Prop}(h:p:=by simp[Dh]):p:=h
theorem dK{p:Prop}(h:p:=by unfold Ax;rw[hs];rfl):p:=h
theorem dL{p:Prop}(h:p:=by have:=HL.o.lt;have:=HL.o.st.bs;simp;omega):p:=h
theorem dM{p:Prop}(h:p:=by first|exact hpre.2|exact hpre.1.2|exact hpre.2.2|exact hpre.2.1.2|exact hpre.1.1.2):p:=h
theorem dN{p:Prop}(h:p:=by rw[<-hW0];simp[go_sem,hzb]):p:=h
theorem dO{p:Prop}(h:p:=by rw[au (by omega)];exact hf):p:=h
theorem dP{p:Prop}(h:p:=by have:=hl;simp[Az,D3,H4,Aw]at this;omega):p:=h
theorem dQ{p:Prop}(h:p:=by rw[<-hW0];simp[go_sem,d0]):p:=h
theorem dR{p:Prop}(h:p:=by rw[<-hW0];simp[go_sem,d1]):p:=h
theorem dS{p:Prop}(h:p:=by rw[<-hW0];simp[go_sem,f1]):p:=h
theorem dT{p:Prop}(h:p:=by first|exact hpre.1|exact hpre.2|exact hpre.2.1|exact hpre.1.1|exact hpre.2.2.1):p:=h
theorem dU{p:Prop}(h:p:=by first|exact hpre.2|exact hpre.1|exact hpre.2.1|exact hpre.1.1|exact hpre.2.2.1):p:=h
theorem dV{p:Prop}(h:p:=by have:=hkl2.o;omega):p:=h
theorem dW{p:Prop}(h:p:=by intro a ha;simp at ha;rcases ha with rfl|rfl<;>(unfold Lit.keyWf maxLen;omega)):p:=h
theorem dX{p:Prop}(h:p:=by rw[h85];decide):p:=h
theorem dY{p:Prop}(h:p:=by rw[hw2];exact Hb1.o.alloc Hb1.o.size _):p:=h
theorem dZ{p:Prop}(h:p:=by rw[k2,hb];simp):p:=h
theorem ee{p:Prop}(h:p:=by show w.heap.size+1<w.heap.size+2;omega):p:=h
theorem ef{p:Prop}(h:p:=by simpa using hp):p:=h
theorem eh{p:Prop}(h:p:=by simpa using hy):p:=h
theorem ei{p:Prop}(h:p:=by rw[hf];simp):p:=h
theorem ej{p:Prop}(h:p:=by unfold Ax Kd.part;rw[k1.trans hs];rfl):p:=h
theorem en{p:Prop}(h:p:=by have e:10 ^ (5+1)=1000000:=rfl;omega):p:=h
theorem eo{p:Prop}(h:p:=by rw[(Cj hb1).1 _ _ (by simp)];go_simp):p:=h
theorem ep{p:Prop}(h:p:=by rw[hW5];exact(Ao _ _).alloc (An _) _):p:=h
theorem ev{p:Prop}(h:p:=by rw[hW6];exact(Ao _ _).alloc (An _) _):p:=h
theorem ew{p:Prop}(h:p:=by rw[hfin.o,e7];simp[h20]):p:=h
theorem ey{p:Prop}(h:p:=by rw[hs];decide):p:=h
theorem ez{p:Prop}(h:p:=by rw[HS10.o];exact aa _ _ _ _ HT10b.o):p:=h
theorem eC{p:Prop}(h:p:=by rw[hw2,aB];exact S4 (by omega) X0.o):p:=h
theorem eD{p:Prop}(h:p:=by show w.heap.size<w3.heap.size;omega):p:=h
theorem eE{p:Prop}(h:p:=by have:=Hb4.o.size;have:=HB0.o;omega):p:=h
theorem eF{p:Prop}(h:p:=by simp[Act.put,hpre,t69]):p:=h
theorem eG{p:Prop}(h:p:=by have:=hb1.size;simp at this;omega):p:=h
theorem eH{p:Prop}(h:p:=by have:=hb4.size;simp at this;omega):p:=h
theorem eI{p:Prop}(h:p:=by rw[decide_eq_false_iff_not];omega):p:=h
theorem eJ{p:Prop}(h:p:=by rw[hw1];simp):p:=h
theorem eK{p:Prop}(h:p:=by rw[Ji];simp[Bw];omega):p:=h
theorem eL{p:Prop}(h:p:=by simp[Act.put,hpre,Ec]):p:=h
theorem eM{p:Prop}(h:p:=by rw[HS9.o];exact aa _ _ _ _ (by first|exact ar HT7.o _|exact HT7.o)):p:=h
theorem eN{p:Prop}(h:p:=by first|exact An _|exact HbW4.o.size|(simp;done)|(simp;omega)|omega):p:=h
theorem eO{p:Prop}(h:p:=by show List.map _ _=_;rw[Htk.o,List.flatMap_append,Hxs.o,Ho.o];simp):p:=h
theorem eQ{p:Prop}(h:p:=by rw[HS9.o];exact ai HT10.o _ _ _):p:=h
theorem eR{p:Prop}(h:p:=by rw[bne_iff_ne];omega):p:=h
theorem eS{p:Prop}(h:p:=by rw[hW2];simp[go_sem]):p:=h
theorem eT{p:Prop}(h:p:=by simp[h64]):p:=h
theorem eV{p:Prop}(h:p:=by first|exact hpre.1.2|exact hpre.2.1.2|exact hpre.2|exact hpre.1):p:=h
theorem eW{p:Prop}(h:p:=by simp[Dh];omega):p:=h
theorem eX{p:Prop}(h:p:=by simpa using h1):p:=h
theorem eY{p:Prop}(h:p:=by simpa using h2):p:=h
theorem eZ{p:Prop}(h:p:=by simpa using hi):p:=h
theorem f7{p:Prop}(h:p:=by simpa using hq):p:=h
theorem f9{p:Prop}(h:p:=by simpa using ht):p:=h
theorem fa{p:Prop}(h:p:=by simpa using hu):p:=h
theorem fc{p:Prop}(h:p:=by first|exact hpre.1|exact hpre):p:=h
theorem fe{p:Prop}(h:p:=by have:=Hlen.o;omega):p:=h
theorem ff{p:Prop}(h:p:=by simp at hz ⊢;exact .inr hz):p:=h
theorem fg{p:Prop}(h:p:=by simp[Hs.o]):p:=h
theorem fh{p:Prop}(h:p:=by simpa using e):p:=h
theorem fi{p:Prop}(h:p:=by unfold Kv;rw[h9];simp[Av,hc]):p:=h
theorem fj{p:Prop}(h:p:=by rcases hrel with h|h;exact absurd h (by decide);exact h.1):p:=h
theorem fk{p:Prop}(h:p:=by have:=Hkl.o;omega):p:=h
theorem fl{p:Prop}(h:p:=by rw[hc6 w 0 (by simp;omega)];simp[go_sem,u0,hn1,hn2,hzz]):p:=h
theorem fm{p:Prop}(h:p:=by rw[hc6 w 1 (by simp;omega)];simp[go_sem,u1,hn1,hn2,hzz]):p:=h
theorem fq{p:Prop}(h:p:=by rw[hc6 w 2 (by simp;omega)];simp[go_sem,u2,hn1,hn2,hzz]):p:=h
theorem fr{p:Prop}(h:p:=by rw[hW3];simp):p:=h
theorem ft{p:Prop}(h:p:=by have:=congrArg List.length h;simp[Ev,M5]at this;omega):p:=h
theorem fw{p:Prop}(h:p:=by rw[List.getElem_map];exact(Hk.o _ (ae hlt)).after hW):p:=h
theorem fx{p:Prop}(h:p:=by simpa using hown):p:=h
theorem fy{p:Prop}(h:p:=by injection e with e;omega):p:=h
theorem fz{p:Prop}(h:p:=by intro g hg;simp at hg;subst hg;have:=hf2.2.1;omega):p:=h
theorem fA{p:Prop}(h:p:=by rw[e6];simp):p:=h
theorem fB{p:Prop}(h:p:=by simpa using Ab hrg 0 rfl):p:=h
theorem fC{p:Prop}(h:p:=by unfold Ar;rw[hs0,hb];rfl):p:=h
theorem fD{p:Prop}(h:p:=by rw[hW3];go_simp):p:=h
theorem fE{p:Prop}(h:p:=by simpa using hlt):p:=h
theorem fF{p:Prop}(h:p:=by first|exact hpre.1.2|exact hpre.2.2|exact hpre.1):p:=h
theorem fG{p:Prop}(h:p:=by first|exact hpre.1.2|exact hpre.2.2|exact hpre.2):p:=h
theorem fH{p:Prop}(h:p:=by rintro rfl;simp at this):p:=h
theorem fI{p:Prop}(h:p:=by rw[Htk.o,List.filterMap_append,<-Hrs.o,hrr];simp):p:=h
theorem fJ{p:Prop}(h:p:=by decide +kernel):p:=h
theorem fK{p:Prop}(h:p:=by have:=Hbr.o.size;omega):p:=h
theorem fL{p:Prop}(h:p:=by rw[HS9.o];exact Ai _ (by omega) _ _ _ (B4.o _)):p:=h
theorem fM{p:Prop}(h:p:=by simp[Act.put,hpre,hns]):p:=h
theorem fN{p:Prop}(h:p:=by simpa using hl):p:=h
theorem fO{p:Prop}(h:p:=by have:=(h.row.lt B e.symm).1;have:=h.hB;omega):p:=h
theorem fP{p:Prop}(h:p:=by show _=_;rw[Htk.o,List.any_append,Ho.o];simp):p:=h
theorem fQ{p:Prop}(h:p:=by simp;exact HL.o.st.bs):p:=h
theorem fR{p:Prop}(h:p:=by intro h;rcases h with h|h;omega;exact hne h):p:=h
theorem fS{p:Prop}(h:p:=by obtain⟨_,_,_,_,_,hf⟩:=hsc;exact hf _ hm):p:=h
theorem fT{p:Prop}(h:p:=by rw[Hn.o,Hr.o]):p:=h
theorem fU{p:Prop}(h:p:=by have:=Hsp.o;have:=Hsl.o;simp at this;omega):p:=h
theorem fV{p:Prop}(h:p:=by rw[hw2];simp[go_sem]):p:=h
theorem fW{p:Prop}(h:p:=by simp at hl ⊢;omega):p:=h
theorem fX{p:Prop}(h:p:=by simp[Az,D3,H4];omega):p:=h
theorem fY{p:Prop}(h:p:=by simp[Value.ownBlock]):p:=h
theorem fZ{p:Prop}(h:p:=by have:=hw.size;omega):p:=h
theorem g7{p:Prop}(h:p:=by rw[Hg.o];rfl):p:=h
theorem gc{p:Prop}(h:p:=by rw[Hs.o];rfl):p:=h
theorem ge{p:Prop}(h:p:=by rw[hw2];simp):p:=h
theorem gg{p:Prop}(h:p:=by simpa [hji]using hj):p:=h
theorem gh{p:Prop}(h:p:=by have e:10 ^ (8+1)=1000000000:=rfl;omega):p:=h
theorem gi{p:Prop}(h:p:=by rw[aq]at hy;subst hy;exact ih _ _ h hx):p:=h
theorem gj{p:Prop}(h:p:=by rw[hw2];simp;omega):p:=h
theorem gk{p:Prop}(h:p:=by simp[hy]):p:=h
theorem gn{p:Prop}(h:p:=by have e6:10 ^ (5+1)=1000000:=rfl;omega):p:=h
theorem gp{p:Prop}(h:p:=by have:=Ap (d:=82) h82;simpa using this):p:=h
theorem gq{p:Prop}(h:p:=by have:=Bj (d:=82) h82;simpa using this):p:=h
theorem gu{p:Prop}(h:p:=by simpa using(oa.there 2 (by decide)).2):p:=h
theorem gw{p:Prop}(h:p:=by rw[Cq];cases bad;exact Rr;exact An _):p:=h
theorem gx{p:Prop}(h:p:=by rw[hW1];exact(Ao _ _).alloc (An _) _):p:=h
theorem gy{p:Prop}(h:p:=by rw[hW3];exact(Ao _ _).alloc (An _) _):p:=h
theorem gz{p:Prop}(h:p:=by rw[hW7];exact(Ao _ _).alloc (An _) _):p:=h
theorem gA{p:Prop}(h:p:=by rw[hW9];exact(Ao _ _).alloc (An _) _):p:=h
theorem gB{p:Prop}(h:p:=by rw[HS9.o];exact Vj hg7 (by omega) 0):p:=h
theorem gC{p:Prop}(h:p:=by first|exact ar HT7.o _|exact HT7.o):p:=h
theorem gD{p:Prop}(h:p:=by simp at hi;omega):p:=h
theorem gE{p:Prop}(h:p:=by simp at hs;omega):p:=h
theorem gF{p:Prop}(h:p:=by rw[hfz4 w.heap.size j aM];simp[go_sem,hfz2,hfz,hzz,hz3]):p:=h
theorem gG{p:Prop}(h:p:=by rw[hc4 w 0 aM];simp[go_sem,hc2,hc,hzz,hz3]):p:=h
theorem gH{p:Prop}(h:p:=by rw[hc4 w 1 aM];simp[go_sem,hc2,hc,hzz,hz3]):p:=h
theorem gI{p:Prop}(h:p:=by rw[hc4 w 2 aM];simp[go_sem,hc2,hc,hzz,hz3]):p:=h
theorem gJ{p:Prop}(h:p:=by rw[hc4 w 3 aM];simp[go_sem,hc2,hc,hzz,hz3]):p:=h
theorem gK{p:Prop}(h:p:=by rw[hW3];exact(((Ao _ _).alloc (An _) _).alloc aK _).alloc aM _):p:=h
theorem gL{p:Prop}(h:p:=by rw[hfz w.heap.size j aK];simp):p:=h
theorem gM{p:Prop}(h:p:=by rw[IntWalk.u8_in _ aH];omega):p:=h
theorem gN{p:Prop}(h:p:=by rw[hfz4 w2.heap.size j aK];simp):p:=h
theorem gO{p:Prop}(h:p:=by rw[hc w 0 aK];simp):p:=h
theorem gP{p:Prop}(h:p:=by rw[hc w 1 aK];simp):p:=h
theorem gQ{p:Prop}(h:p:=by rw[hc w 2 aK];simp):p:=h
theorem gR{p:Prop}(h:p:=by rw[hfz3 _ _ aH,hfz2 _ _ aK];go_simp):p:=h
theorem gS{p:Prop}(h:p:=by rw[hc4 w2 0 aK];simp):p:=h
theorem gT{p:Prop}(h:p:=by rw[hc4 w2 1 aK];simp):p:=h
theorem gU{p:Prop}(h:p:=by rw[hc4 w2 2 aK];simp):p:=h
theorem gV{p:Prop}(h:p:=by rw[hc4 w2 3 aK];simp):p:=h
theorem gW{p:Prop}(h:p:=by rw[hcc _ _ aH,hc2 _ _ aK];go_simp):p:=h
theorem gX{p:Prop}(h:p:=by rw[hW2];exact((Ao _ _).alloc (An _) _).alloc aK _):p:=h
theorem gY{p:Prop}(h:p:=by rw[hW5];exact((((((Ao _ _).alloc (An _) _).alloc aK _).alloc aM _).alloc aM _).alloc aM _)):p:=h
theorem gZ{p:Prop}(h:p:=by rcases hrel with h|h;exact absurd h aJ;exact h.1):p:=h
theorem hD{p:Prop}(h:p:=by
  go_simp
  first|exact hK _ _ _ rfl Ac HR.o rfl|exact kF hK HR.o|exact hK undef _ _ Ac Ac HR.o aI|exact hK _ _ _ Ac Ac HR.o rfl|exact kF hK HR.o):p:=h
theorem hH{p:Prop}(h:p:=by
  repeat (first|exact Ak.nil|(refine Ak.cons ?_ ?_;rotate_left))
  all_goals
   rintro L U W hL hpre HR Hdep K hK
   have q0:=(HR.o.be.cell (p:=⟨w.heap.size,0,none⟩) Hl0.o).trans X0.o
   have q1:=(HR.o.be.cell (p:=⟨w1.heap.size,0,none⟩) Hl1.o).trans X1.o
   have q2:=(HR.o.be.cell (p:=⟨w1.heap.size,1,none⟩) Hl1.o).trans X2.o
   have q3:=(HR.o.be.cell (p:=⟨w1.heap.size,2,none⟩) Hl1.o).trans X3.o
   first|(simp[Region.binds]at hpre;done)|simp[Region.binds]at hpre|clear hpre
  iterate 2
   ·go_simp
    first|exact hK _ _ _ rfl Ac HR.o rfl|exact kF hK HR.o|exact hK undef _ _ Ac Ac HR.o aI|exact hK _ _ _ Ac Ac HR.o rfl|exact kF hK HR.o
  ·go_simp
   rw[if_pos aH]
   go_simp
   exact hK (z:List UInt8) _ _ rfl Ac HR.o aI
  ·go_simp
   first|exact hK _ _ _ rfl Ac HR.o rfl|exact kF hK HR.o|exact hK undef _ _ Ac Ac HR.o aI|exact hK _ _ _ Ac Ac HR.o rfl|exact kF hK HR.o
  ·have h5:L 5=false:=Bb Hdep.o 5 4 rfl hL
   have h6:L 6=false:=Bb Hdep.o 6 5 rfl h5
   have h7:L 7=false:=Bb Hdep.o 7 5 rfl h5
   have h8:L 8=false:=Bb Hdep.o 8 5 rfl h5
   have h10:L 10=false:=Bb Hdep.o 10 6 rfl h6
   have h11:L 11=false:=Bb Hdep.o 11 7 rfl h7
   have h12:L 12=false:=Bb Hdep.o 12 8 rfl h8
   go_simp
   refine(HC.o _ HR.o.be).mono ?_
   rintro e w5 hp
   obtain⟨n,a,b,c,r,rfl,hF,hb⟩:=hp.q
   go_simp
   exact hK _ _ _ Ac Ac (HR.o.call h5 h6 h7 h8 h10 h11 h12 hF hb) aI
  ·have l4:L 4=true:=aL
   go_simp
   exact hK (U 4) _ _ Ac Ac (HR.o.move l4) aI
  ·have l5:L 5=true:=aL
   have l4:L 4=true:=Np (Bb Hdep.o 5 4 rfl) l5
   obtain⟨n,a,b,c,r,u5,g0,g1,g2⟩:=HR.o.get l4 l5 (fun h=>Bb Hdep.o 10 6 rfl h)
   simp only[u5]
   go_simp
   exact hK _ _ _ Ac Ac (g0 hL) bY
  ·have l5:L 5=true:=aL
   have l4:L 4=true:=Np (Bb Hdep.o 5 4 rfl) l5
   obtain⟨n,a,b,c,r,u5,g0,g1,g2⟩:=HR.o.get l4 l5 (fun h=>Bb Hdep.o 10 6 rfl h)
   simp only[u5]
   go_simp
   exact hK _ _ _ Ac Ac (g1) bY
  ·have l5:L 5=true:=aL
   have l4:L 4=true:=Np (Bb Hdep.o 5 4 rfl) l5
   obtain⟨n,a,b,c,r,u5,g0,g1,g2⟩:=HR.o.get l4 l5 (fun h=>Bb Hdep.o 10 6 rfl h)
   simp only[u5]
   go_simp
   exact hK _ _ _ Ac Ac (g2) bY
  ·have h10:L 10=false:=Bb Hdep.o 10 9 rfl hL
   go_simp
   exact hK (.pointer (some ⟨W.heap.size,0,none⟩)) _ _ Ac Ac (HR.o.alloc h10 _) aI
  ·have l9:L 9=true:=aL
   have l6:L 6=true:=aL
   have l5:L 5=true:=Np (Bb Hdep.o 6 5 rfl) l6
   have l4:L 4=true:=Np (Bb Hdep.o 5 4 rfl) l5
   obtain⟨n,a,b,c,r,_,_,_,k6,_⟩:=HR.o.yes l4
   obtain⟨B,k9,_⟩:=HR.o.al l9
   have u6:=k6 l6
   obtain⟨g1,g2⟩:=HR.o.store l9 u6 k9
   rw[if_pos cr]
   refine wp_store_mid 157 _ _ rfl B 0 ([(n:Int),a,b,c]:List Value).toArray k9 u6 g1 aN bh ?_
   exact hK undef _ _ Ac Ac g2 rfl
  ·have l7:L 7=true:=aL
   go_simp
   exact hK (U 7) _ _ Ac Ac (HR.o.as1 l7) aI
  ·have l8:L 8=true:=aL
   go_simp
   exact hK (U 8) _ _ Ac Ac (HR.o.as2 l8) aI):p:=h
theorem hJ{p:Prop}(h:p:=by
  repeat (first|exact Ak.nil|(refine Ak.cons ?_ ?_;rotate_left))
  all_goals
   rintro L U W hL hpre HR Hdep K hK
   first|(simp[Region.binds]at hpre;done)|simp[Region.binds]at hpre|clear hpre
  iterate 3
   ·go_simp
    first|exact hK _ _ _ rfl Ac HR.o rfl|exact hK _ _ _ rfl Ac HR.o ba|exact hK undef _ _ Ac Ac HR.o ba|exact hK _ _ _ Ac Ac HR.o rfl|exact hK _ _ _ Ac Ac HR.o ba
  ·have x1:=(HR.o.cell (p:=⟨bv,1,none⟩) aM).trans ((aB _ _).trans V15.o)
   go_simp
   first|exact hK _ _ _ rfl Ac HR.o rfl|exact kF hK HR.o
  iterate 3
   ·go_simp
    first|exact hK _ _ _ rfl Ac HR.o rfl|exact hK _ _ _ rfl Ac HR.o ba|exact hK undef _ _ Ac Ac HR.o ba|exact hK _ _ _ Ac Ac HR.o rfl|exact hK _ _ _ Ac Ac HR.o ba
  ·go_simp
   refine(HO.o _ ((Ao W5.heap.size W5).drew.trans (HR.o.mono aK))).mono ?_
   rintro e w9 ⟨rfl,hb⟩
   go_simp
   exact hK _ _ _ rfl Ac (HR.o.trans (hb.mono HR.o.size)) aI
  ·go_simp
   first|exact hK _ _ _ rfl Ac HR.o rfl|exact hK _ _ _ rfl Ac HR.o ba|exact hK undef _ _ Ac Ac HR.o ba|exact hK _ _ _ Ac Ac HR.o rfl|exact hK _ _ _ Ac Ac HR.o ba
  ·have y0:=(HR.o.cell (p:=⟨B12,0,none⟩) aM).trans ((aB _ _).trans Y50.o)
   have y1:=(HR.o.cell (p:=⟨B12,1,none⟩) aM).trans ((aB _ _).trans Y51.o)
   have y2:=(HR.o.cell (p:=⟨B12,2,none⟩) aM).trans ((aB _ _).trans Y52.o)
   have y3:=(HR.o.cell (p:=⟨B12,3,none⟩) aM).trans ((aB _ _).trans Y53.o)
   go_simp
   first|exact hK _ _ _ rfl Ac HR.o rfl|exact kF hK HR.o
  ·go_simp
   refine(HS.o _ ((Ao W5.heap.size W5).drew.trans (HR.o.mono aK))).mono ?_
   rintro e w9 ⟨rfl,hb⟩
   go_simp
   exact hK _ _ _ rfl Ac (HR.o.trans (hb.mono HR.o.size)) aI
  iterate 2
   ·go_simp
    first|exact hK _ _ _ rfl Ac HR.o rfl|exact hK _ _ _ rfl Ac HR.o ba|exact hK undef _ _ Ac Ac HR.o ba|exact hK _ _ _ Ac Ac HR.o rfl|exact hK _ _ _ Ac Ac HR.o ba):p:=h
theorem hM{p:Prop}(h:p:=by
  repeat (first|exact Ak.nil|(refine Ak.cons ?_ ?_;rotate_left))
  all_goals
   rintro L U W hL hpre hR hun hdep K hK
   have HR:=Aa hR
   have hB:=HR.o
   have Hun:=Aa hun
   have hBw:=Hbr.o.trans (hB.mono hzr)
   have d2:=(hBw.cell (p:=⟨b,2,none⟩) hb).trans C2.o
   have d3:=(hB.cell (p:=⟨b,3,none⟩) hbw).trans g3
   have d6:=(hB.cell (p:=⟨b6,o6+m,none⟩) hb6).trans C6.o
   have d8:=(hB.cell (p:=⟨b8,o8+m,none⟩) hb8).trans C8.o
   have Hdep:=Aa hdep
   clear hun hdep hR
   first|(simp[Region.binds]at hpre;done)|simp[Region.binds]at hpre|clear hpre
  ·have h20:L 20=false:=Hdep.o 20 _ rfl {on:=0,ground:=Ground.phase} aK cr hL
   have u20:U 20=acc:=(Hun.o 20 h20).trans rfl
   go_simp
   exact hK acc _ _ rfl Ac HR.o (by simp[Act.put,u20])
  iterate 7
   ·go_simp
    first|exact hK _ _ _ rfl Ac HR.o rfl|exact kF hK HR.o|exact hK undef _ _ Ac Ac HR.o aI|exact hK _ _ _ Ac Ac HR.o rfl|exact kF hK HR.o
  ·go_simp
   refine(Hd.o W).mono ?_
   rintro e w3 ⟨rfl,hb3⟩
   exact hK _ _ _ rfl Ac (hB.trans (hb3.mono hB.size)) aI
  ·go_simp
   rw[if_neg aZ]
   go_simp
   first|exact hK _ _ _ rfl Ac HR.o rfl|exact kF hK HR.o
  ·go_simp
   rw[if_neg aZ]
   go_simp
   first|exact hK _ _ _ rfl Ac HR.o rfl|exact kF hK HR.o
  iterate 7
   ·go_simp
    first|exact hK _ _ _ rfl Ac HR.o rfl|exact kF hK HR.o|exact hK undef _ _ Ac Ac HR.o aI|exact hK _ _ _ Ac Ac HR.o rfl|exact kF hK HR.o
  ·go_simp
   refine(HX.o W hBw).mono ?_
   rintro e w3 ⟨rfl,hb3⟩
   exact hK _ _ _ rfl Ac (hB.trans (hb3.mono hB.size)) aI
  ·go_simp
   rw[if_neg aZ]
   go_simp
   first|exact hK _ _ _ rfl Ac HR.o rfl|exact kF hK HR.o
  ·go_simp
   first|exact hK _ _ _ rfl Ac HR.o rfl|exact kF hK HR.o|exact hK undef _ _ Ac Ac HR.o aI|exact hK _ _ _ Ac Ac HR.o rfl|exact kF hK HR.o):p:=h
theorem hY{p:Prop}(h:p:=by
  go_simp
  rw[if_neg aZ]
  go_simp
  first|exact hK _ _ _ rfl Ac HR.o rfl|exact kF hK HR.o):p:=h
theorem hZ{p:Prop}(h:p:=by
  repeat (first|exact Ak.nil|(refine Ak.cons ?_ ?_;rotate_left))
  all_goals
   rintro L U W hL hpre HR Hdep K hK
   first|(simp[Region.binds]at hpre;done)|simp[Region.binds]at hpre|clear hpre
  iterate 3
   ·go_simp
    first|exact hK _ _ _ rfl Ac HR.o aT|exact hK undef _ _ Ac Ac HR.o bg|exact hK _ _ _ Ac Ac HR.o rfl|exact hK _ _ _ Ac Ac HR.o cb
  ·go_simp
   rw[E1.o]
   exact hK _ _ _ rfl Ac HR.o aT
  ·go_simp
   first|exact hK _ _ _ rfl Ac HR.o aT|exact hK undef _ _ Ac Ac HR.o bg|exact hK _ _ _ Ac Ac HR.o rfl|exact hK _ _ _ Ac Ac HR.o cb
  ·obtain⟨R1,R2,R3⟩:=HR.o
   have hB:=R1 hL
   have h10:L 13=false:=Bb Hdep.o 13 5 rfl hL
   go_simp
   exact hK W.heap.size _ _ ⟨_,rfl⟩ Ac ⟨fun h=>by simp at h,fun _=>⟨W,rfl,hB,rfl⟩,fun h=>absurd (h10.symm.trans aR) aJ⟩ aI
  iterate 2
   ·go_simp
    first|exact hK _ _ _ rfl Ac HR.o aT|exact hK undef _ _ Ac Ac HR.o bg|exact hK _ _ _ Ac Ac HR.o rfl|exact hK _ _ _ Ac Ac HR.o cb
  ·go_simp
   rw[E2.o]
   exact hK _ _ _ rfl Ac HR.o aT
  iterate 2
   ·go_simp
    first|exact hK _ _ _ rfl Ac HR.o aT|exact hK undef _ _ Ac Ac HR.o bg|exact hK _ _ _ Ac Ac HR.o rfl|exact hK _ _ _ Ac Ac HR.o cb
  ·go_simp
   rw[E1.o]
   exact hK _ _ _ rfl Ac HR.o aT
  ·go_simp
   refine(Hn.o _).mono ?_
   rintro e wz ⟨rfl,rfl⟩
   go_simp
   exact hK _ _ _ rfl Ac HR.o aT
  ·obtain⟨R1,R2,R3⟩:=HR.o
   obtain⟨c,u5⟩:=hpre.1.2
   clear R1 R2 R3
   go_simp
   obtain⟨R1,R2,R3⟩:=HR.o
   exact hK (.pointer (some ⟨c,0,none⟩)) _ _ ⟨c,rfl⟩ Ac ⟨R1,R2,fun _=>u5.symm⟩ bY
  iterate 2
   ·go_simp
    first|exact hK _ _ _ rfl Ac HR.o aT|exact hK undef _ _ Ac Ac HR.o bg|exact hK _ _ _ Ac Ac HR.o rfl|exact hK _ _ _ Ac Ac HR.o cb):p:=h
theorem i9{p:Prop}(h:p:=by
  repeat (first|exact Ak.nil|(refine Ak.cons ?_ ?_;rotate_left))
  all_goals
   rintro L U W hL hpre HR Hdep K hK
   obtain⟨mm,mv9,ha9,hk9,r1,r5⟩:=HR.o
   have a0:W.cell? (w0,0)=some (.slice A1 xs.length c1):=ha9.2.2.1
   have a1:W.cell? (w0,1)=some (.slice A2 ys.length c2):=ha9.2.2.2.1
   have f0:W.cell? (w5,0)=(f.tag:Int):=(hk9.cell B91.o B92.o B93.o).trans q90.o
   have f1:W.cell? (w5,1)=f.name:=(hk9.cell B91.o B92.o B93.o).trans q91.o
   have f2:W.cell? (w5,2)=some (.string ⟨(Ax f.kind).toArray⟩):=(hk9.cell B91.o B92.o B93.o).trans q92.o
   have f3:W.cell? (w5,3)=f.given:=(hk9.cell B91.o B92.o B93.o).trans q93.o
   have g0:W.cell? (wr,0)=(g.tag:Int):=(hk9.cell B81.o B82.o B83.o).trans q80.o
   have g1:W.cell? (wr,1)=g.name:=(hk9.cell B81.o B82.o B83.o).trans q81.o
   have g2:W.cell? (wr,2)=some (.string ⟨(Ax g.kind).toArray⟩):=(hk9.cell B81.o B82.o B83.o).trans q82.o
   have g3:W.cell? (wr,3)=g.given:=(hk9.cell B81.o B82.o B83.o).trans q83.o
   have s0:W.cell? (w,0)=some (.int .u8 (t.sort.toNat:Int)):=(hk9.cell B41.o B42.o B43.o).trans q40.o
   first|(simp[Region.binds]at hpre;done)|simp[Region.binds]at hpre|clear hpre
  iterate 5
   ·go_simp
    first|exact hK _ _ _ rfl Ac HR.o rfl|exact kF hK HR.o|exact hK undef _ _ Ac Ac HR.o aI|exact hK _ _ _ Ac Ac HR.o rfl|exact kF hK HR.o
  ·go_simp
   obtain⟨rfl,rfl⟩:=r5 hL
   refine(Hcall.o W ha9).mono ?_
   rintro e w5 ⟨rfl,mv5,ha5,hk5⟩
   exact hK _ _ _ rfl Ac ⟨_,mv5,ha5,hk9.trans hk5,fun _=>rfl,fun h=>by simp at h⟩ aI
  iterate 21
   ·go_simp
    first|exact hK _ _ _ rfl Ac HR.o rfl|exact kF hK HR.o|exact hK undef _ _ Ac Ac HR.o aI|exact hK _ _ _ Ac Ac HR.o rfl|exact kF hK HR.o):p:=h
theorem ia{p:Prop}(h:p:=by
  repeat (first|exact Ak.nil|(refine Ak.cons ?_ ?_;rotate_left))
  all_goals
   rintro L U W hL hpre HR Hdep K hK
   have hW:=HR.o
   subst hW
   have hbw:=HH.o.st.bel.drew
   have f0:=HH.o.e0
   have f1:=HH.o.a2
   have f2:=HH.o.b2
   have g0:=(hbw.cell (p:=⟨eb,0,none⟩) HLk.o.le).trans HLk.o.e0
   have g1:=(hbw.cell (p:=⟨eb,1,none⟩) HLk.o.le).trans HLk.o.e1
   have g2:=(hbw.cell (p:=⟨pb1,1,none⟩) HLk.o.l1).trans HLk.o.m1
   have g3:=(hbw.cell (p:=⟨pb2,1,none⟩) HLk.o.l2).trans HLk.o.m2
   have k1:=HLk.o.k1 _ hbw
   have k2:=HLk.o.k2 _ hbw
   first|(simp[Region.binds]at hpre;done)|simp[Region.binds]at hpre|clear hpre
  iterate 22
   ·go_simp
    first|exact hK _ _ _ rfl Ac HR.o rfl|exact kF hK HR.o|exact hK undef _ _ Ac Ac HR.o aI|exact hK _ _ _ Ac Ac HR.o rfl|exact kF hK HR.o):p:=h
theorem ib{p:Prop}(h:p:=by
  go_simp
  first|exact hK _ _ _ rfl Ac HR.o rfl|exact kF hK HR.o|exact hK undef _ _ Ac Ac HR.o aI):p:=h
theorem ic{p:Prop}(h:p:=by
  repeat (first|exact Ak.nil|(refine Ak.cons ?_ ?_;rotate_left))
  all_goals
   rintro L U W hL hpre HR Hdep K hK
   first|(simp[Region.binds]at hpre;done)|simp[Region.binds]at hpre|clear hpre
  ·have h8:L 8=false:=Bb Hdep.o 8 0 rfl hL
   have hW:=HR.o.1 h8
   subst hW
   go_simp
   first|exact hK _ _ _ rfl Ac HR.o rfl|exact kF hK HR.o
  iterate 2
   ·go_simp
    first|exact hK _ _ _ rfl Ac HR.o rfl|exact kF hK HR.o|exact hK undef _ _ Ac Ac HR.o aI|exact hK _ _ _ Ac Ac HR.o rfl|exact kF hK HR.o
  ·go_simp
   rw[E2.o]
   first|exact hK _ _ _ rfl Ac HR.o rfl|exact kF hK HR.o
  iterate 4
   ·go_simp
    first|exact hK _ _ _ rfl Ac HR.o rfl|exact kF hK HR.o|exact hK undef _ _ Ac Ac HR.o aI|exact hK _ _ _ Ac Ac HR.o rfl|exact kF hK HR.o
  ·have hW:=HR.o.1 hL
   subst hW
   go_simp
   have HB6:=((((((Hb3.o.setCell (p:=⟨w.heap.size+1+1,0,none⟩) aM (n0:Int)).setCell (p:=⟨w.heap.size+1+1,1,none⟩) aM a).setCell (p:=⟨w.heap.size+1+1,2,none⟩) aM (.string ⟨b.toArray⟩)).setCell (p:=⟨w.heap.size+1+1,3,none⟩) aM c).alloc aM (.cells #[(n0:Int),a,.string ⟨b.toArray⟩,c] 157)).drew)
   refine hK undef _ _ Ac Ac ⟨fun h=>by simp at h,fun _=>⟨HB6,?_,?_,?_,?_⟩⟩ aI
   all_goals go_simp
  iterate 2
   ·go_simp
    first|exact hK _ _ _ rfl Ac HR.o rfl|exact kF hK HR.o|exact hK undef _ _ Ac Ac HR.o aI|exact hK _ _ _ Ac Ac HR.o rfl|exact kF hK HR.o):p:=h
theorem ie{p:Prop}(h:p:=by
  repeat (first|exact Ak.nil|(refine Ak.cons ?_ ?_;rotate_left))
  all_goals
   rintro L U W hL hpre HR Hdep K hK
   first|(simp[Region.binds]at hpre;done)|simp[Region.binds]at hpre|clear hpre
  iterate 3
   ·go_simp
    first|exact hK _ _ _ rfl Ac HR.o rfl|exact kF hK HR.o|exact hK undef _ _ Ac Ac HR.o aI|exact hK _ _ _ Ac Ac HR.o rfl|exact kF hK HR.o
  ·obtain⟨R1,R2,R3⟩:=HR.o
   have hB:=R1 hL
   have h10:L 8=false:=Bb Hdep.o 8 3 rfl hL
   go_simp
   exact hK W.heap.size _ _ ⟨_,rfl⟩ Ac ⟨fun h=>by simp at h,fun _=>⟨W,rfl,hB,rfl⟩,fun h=>absurd (h10.symm.trans aR) aJ⟩ aI
  iterate 3
   ·go_simp
    first|exact hK _ _ _ rfl Ac HR.o rfl|exact kF hK HR.o|exact hK undef _ _ Ac Ac HR.o aI|exact hK _ _ _ Ac Ac HR.o rfl|exact kF hK HR.o
  ·go_simp
   rw[E2.o]
   first|exact hK _ _ _ rfl Ac HR.o rfl|exact kF hK HR.o
  ·obtain⟨R1,R2,R3⟩:=HR.o
   obtain⟨c,u5⟩:=hpre.1.2
   clear R1 R2 R3
   go_simp
   obtain⟨R1,R2,R3⟩:=HR.o
   exact hK (.pointer (some ⟨c,0,none⟩)) _ _ ⟨c,rfl⟩ Ac ⟨R1,R2,fun _=>u5.symm⟩ bY
  iterate 2
   ·go_simp
    first|exact hK _ _ _ rfl Ac HR.o rfl|exact kF hK HR.o|exact hK undef _ _ Ac Ac HR.o aI|exact hK _ _ _ Ac Ac HR.o rfl|exact kF hK HR.o):p:=h
theorem ig{p:Prop}(h:p:=by exact As results175 _ _ w.heap.size [.int .i64 0,a6,a6,a6,a6,a6] _ _ rfl rfl HZ.o underlying97 rfl aN):p:=h
theorem ii{p:Prop}(h:p:=by
  go_simp
  first|exact hK _ _ _ rfl Ac HR.o aT|exact hK undef _ _ Ac Ac HR.o bg|exact hK _ _ _ Ac Ac HR.o rfl|exact hK _ _ _ Ac Ac HR.o cb):p:=h
theorem ij{p:Prop}(h:p:=by
  go_simp
  first|exact hK _ _ _ rfl Ac HR.o rfl|exact hK _ _ _ rfl Ac HR.o ba|exact hK undef _ _ Ac Ac HR.o ba|exact hK _ _ _ Ac Ac HR.o rfl|exact hK _ _ _ Ac Ac HR.o ba):p:=h
theorem ik{p:Prop}(h:p:=by
  go_simp
  first|exact hK _ _ _ rfl Ac HR.o rfl|exact hK _ _ _ rfl Ac HR.o bj|exact hK undef _ _ Ac Ac HR.o bj|exact hK _ _ _ Ac Ac HR.o rfl|exact hK _ _ _ Ac Ac HR.o bj):p:=h
theorem il{p:Prop}(h:p:=by
  repeat (first|exact Ak.nil|(refine Ak.cons ?_ ?_;rotate_left))
  all_goals
   rintro L U W hL hpre ⟨q,rfl⟩ hun hdep K hK
   have hlq:=hlook q
   clear hun hdep
   first|(simp[Region.binds]at hpre;done)|simp[Region.binds]at hpre|clear hpre
   go_simp
   first|exact hK _ _ _ rfl Ac ⟨q,rfl⟩ rfl|exact hK _ _ _ rfl Ac ⟨q,rfl⟩ ch|exact hK undef _ _ Ac Ac ⟨q,rfl⟩ ch|exact hK _ _ _ Ac Ac ⟨q,rfl⟩ rfl|exact hK _ _ _ Ac Ac ⟨q,rfl⟩ ch):p:=h
theorem im{p:Prop}(h:p:=by
  obtain⟨R1,R2,R3⟩:=HR.o
  obtain⟨c,u5⟩:=hpre.1.2
  clear R1 R2 R3
  go_simp
  obtain⟨R1,R2,R3⟩:=HR.o
  exact hK (.pointer (some ⟨c,0,none⟩)) _ _ ⟨c,rfl⟩ Ac ⟨R1,R2,fun _=>u5.symm⟩ bY):p:=h
theorem io{p:Prop}(h:p:=by
  have Hdec:=Aa (show decide (n<=200)=false by simp;omega)
  rw[Hdec.o]at Hpn
  go_wp2_with fail
  refine(Hpn.o _).mono ?_
  rintro e w3 ⟨rfl,rfl⟩
  go_wp2_with ((with_reducible refine Af (op:=⟨none,.store 97 _ _,_,_,_,none⟩) rfl 97 _ _ rfl w 0 [.int .i64 0,a6,a6,a6,a6,a6] ?_ ?_ ?_ ?_ ?_ ?_);rfl;rfl;(first|exact ar HT.o _|exact HT.o);kernel_rfl;(simp[Value.oneCell']);intro w9 HS9)
  have HZ:=@Aa (w9.rangeAt w 0 [.int .i64 0,a6,a6,a6,a6,a6]) bu
  refine aF (v:=.tuple #[.agg ([.int .i64 0,a6,a6,a6,a6,a6]:List Value).toArray,.bool false]) ?_ rfl ?_
  ·exact As results175 _ _ w.heap.size [.int .i64 0,a6,a6,a6,a6,a6] _ _ rfl rfl HZ.o underlying97 rfl aN
  exact Ei.no (Hno.o (fun m h=>by have h':=(Hhead.o m).1 h;have:=h'.1;cases this;omega)) rfl aX):p:=h
theorem ip{p:Prop}(h:p:=by
  subst h0
  go_wp2_with fail
  refine(Hpn.o _).mono ?_
  rintro e w3 ⟨rfl,rfl⟩
  go_wp2_with ((with_reducible refine Af (op:=⟨none,.store 97 _ _,_,_,_,none⟩) rfl 97 _ _ rfl w 0 [.int .i64 0,a6,a6,a6,a6,a6] ?_ ?_ ?_ ?_ ?_ ?_);rfl;rfl;(first|exact ar HT.o _|exact HT.o);kernel_rfl;(simp[Value.oneCell']);intro w9 HS9)
  have HZ:=@Aa (w9.rangeAt w 0 [.int .i64 0,a6,a6,a6,a6,a6]) bu
  refine aF (v:=.tuple #[.agg ([.int .i64 0,a6,a6,a6,a6,a6]:List Value).toArray,.bool false]) ?_ rfl ?_
  ·exact As results175 _ _ w.heap.size [.int .i64 0,a6,a6,a6,a6,a6] _ _ rfl rfl HZ.o underlying97 rfl aN
  exact Ei.no (Hno.o (fun m h=>by have h':=(Hhead.o m).1 h;have:=h'.1;cases this;omega)) rfl aX):p:=h
theorem iq{p:Prop}(h:p:=by
  go_simp
  first|exact hK _ _ _ rfl Ac HR.o rfl|exact hK _ _ _ rfl Ac HR.o bE|exact hK undef _ _ Ac Ac HR.o bE|exact hK _ _ _ Ac Ac HR.o rfl|exact hK _ _ _ Ac Ac HR.o bE):p:=h
theorem ir{p:Prop}(h:p:=by
  go_simp
  first|exact hK _ _ _ rfl Ac HR.o rfl|exact hK _ _ _ rfl Ac HR.o bw|exact hK undef _ _ Ac Ac HR.o bw|exact hK _ _ _ Ac Ac HR.o rfl|exact hK _ _ _ Ac Ac HR.o bw):p:=h
theorem iu{p:Prop}(h:p:=by
  repeat (first|exact Ak.nil|(refine Ak.cons ?_ ?_;rotate_left))
  all_goals
   rintro L u W hL hpre hR K hK
   first|(simp[Region.binds]at hpre;done)|simp[Region.binds]at hpre|clear hpre
   rcases hl:L 9 with _|_
   all_goals
    first|exact absurd (hl.symm.trans hL) aJ|(
     rw[hl]at hR
     first|rw[if_neg aJ]at hR|rw[if_pos rfl]at hR
     have hR':=hR.symm
     subst hR'
     go_simp
     try (go_at_call 95;refine(Hk.o _).mono ?_;rintro e w' ⟨rfl,rfl⟩)
     first|(refine hK _ _ _ rfl Ac co rfl;done)|(refine hK _ _ _ rfl Ac co aI;done)|(refine hK undef _ _ rfl Ac co aI;done))):p:=h
theorem iv{p:Prop}(h:p:=by
  have k2:¬(k:Int)<1+(x:Int):=aH
  have HRf:=Aa hR.o
  have Hgf:=Aa hg.o
  have HFf:=Aa hF.o
  go_wp2_with fail
  go_ret
  exact⟨l++[10],q,by simp,⟨HFf.o.sep aJ,by simp only[ah,List.length_cons,List.length_nil];omega,by simp⟩,by omega,HRf.o,Hgf.o⟩):p:=h
theorem iw{p:Prop}(h:p:=by
  have h5:L 5=false:=Bb Hdep.o 5 4 rfl hL
  have h6:L 6=false:=Bb Hdep.o 6 5 rfl h5
  have h7:L 7=false:=Bb Hdep.o 7 5 rfl h5
  have h8:L 8=false:=Bb Hdep.o 8 5 rfl h5
  have h10:L 10=false:=Bb Hdep.o 10 6 rfl h6
  have h11:L 11=false:=Bb Hdep.o 11 7 rfl h7
  have h12:L 12=false:=Bb Hdep.o 12 8 rfl h8
  go_simp
  refine(HC.o _ HR.o.be).mono ?_
  rintro e w5 hp
  obtain⟨n,a,b,c,r,rfl,hF,hb⟩:=hp.q
  go_simp
  exact hK _ _ _ Ac Ac (HR.o.call h5 h6 h7 h8 h10 h11 h12 hF hb) aI):p:=h
theorem iy{p:Prop}(h:p:=by
  have l8:=hpre.2.1
  have l7:L 7=true:=Np (Bb Hdep.o 8 7 rfl) l8
  obtain⟨A6,c6,e6,hS6,hb6,hk6⟩:=HR.o.p2 l8 hL
  have x2:=hS6.c2
  have x3:=hS6.bk.live 2
  have x4:=hS6.lt
  go_simp
  exact hK undef _ _ Ac Ac (HR.o.put11 l7 l8 hL fA) cB):p:=h
theorem iz{p:Prop}(h:p:=by
  have h2:L 2=false:=Bb Hdep.o 2 0 rfl hL
  have hW:=HR.o.1 h2
  subst hW
  have x0:=HL.o.st.c0
  have x1:=HL.o.st.c1
  have x2:=HL.o.st.c2
  have x3:=HL.o.st.c3
  go_simp
  first|exact hK _ _ _ rfl Ac HR.o rfl|exact kF hK HR.o):p:=h
theorem iA{p:Prop}(h:p:=by
  have hW:=HR.o.1 hL
  subst hW
  go_simp
  have HB6:=((((((Hb3.o.setCell (p:=⟨w.heap.size+1+1,0,none⟩) aM (n0:Int)).setCell (p:=⟨w.heap.size+1+1,1,none⟩) aM a).setCell (p:=⟨w.heap.size+1+1,2,none⟩) aM (.string ⟨b.toArray⟩)).setCell (p:=⟨w.heap.size+1+1,3,none⟩) aM c).alloc aM (.cells #[(n0:Int),a,.string ⟨b.toArray⟩,c] 157)).drew)
  refine hK undef _ _ Ac Ac ⟨fun h=>by simp at h,fun _=>⟨HB6,?_,?_,?_,?_⟩⟩ aI
  all_goals go_simp):p:=h
theorem iB{p:Prop}(h:p:=by
  repeat (first|exact Ak.nil|(refine Ak.cons ?_ ?_;rotate_left))
  all_goals
   rintro L U W hL hpre ⟨q,rfl⟩ hun hdep K hK
   have hlq:=hlook q
   clear hun hdep
   first|(simp[Region.binds]at hpre;done)|simp[Region.binds]at hpre|clear hpre
   go_simp
   first|exact hK _ _ _ rfl Ac ⟨q,rfl⟩ rfl|exact hK _ _ _ rfl Ac ⟨q,rfl⟩ aI|exact hK undef _ _ Ac Ac ⟨q,rfl⟩ aI|exact hK _ _ _ Ac Ac ⟨q,rfl⟩ rfl|exact hK _ _ _ Ac Ac ⟨q,rfl⟩ aI):p:=h
theorem iC{p:Prop}(h:p:=by
  by_cases h69:t.sort=69
  ·have t69:((t.sort.toNat:Int) == 69)=true:=cD
   have E69:=Aa (aD h69)
   clear h69
   go_simp
   exact hK (.bool true) _ _ (show Value.bool true=.bool (decide (t.sort=69))by rw[E69.o]) Ac HR.o eF
  have t69:((t.sort.toNat:Int) == 69)=false:=cC
  have E69:=Aa (aC h69)
  clear h69
  go_simp
  exact hK (.bool false) _ _ (show Value.bool false=.bool (decide (t.sort=69))by rw[E69.o]) Ac HR.o eF):p:=h
theorem iD{p:Prop}(h:p:=by
  have l9:L 9=true:=aL
  have l6:L 6=true:=aL
  have l5:L 5=true:=Np (Bb Hdep.o 6 5 rfl) l6
  have l4:L 4=true:=Np (Bb Hdep.o 5 4 rfl) l5
  obtain⟨n,a,b,c,r,_,_,_,k6,_⟩:=HR.o.yes l4
  obtain⟨B,k9,_⟩:=HR.o.al l9
  have u6:=k6 l6
  obtain⟨g1,g2⟩:=HR.o.store l9 u6 k9
  rw[if_pos cr]
  refine wp_store_mid 157 _ _ rfl B 0 ([(n:Int),a,b,c]:List Value).toArray k9 u6 g1 aN bh ?_
  exact hK undef _ _ Ac Ac g2 rfl):p:=h
theorem iE{p:Prop}(h:p:=by
  have h12:L 12=false:=Bb Hdep.o 12 11 rfl hL
  have h13:L 13=false:=Bb Hdep.o 13 12 rfl h12
  have h16:L 16=false:=Bb Hdep.o 16 13 rfl h13
  have hW:=HR.o.s0 hL
  subst hW
  go_simp
  refine(HC.o g q _ HX9.o HR9.o aH).mono ?_
  rintro e w5 ⟨b5,v5,q5,rfl,k1,k2,k3,k4,k5,k6⟩
  exact hK _ _ _ Ac Ac (M7.call Hg9.o HS9.o hgl h12 h13 h16 ⟨v5,rfl,k1,k2,k3⟩ k5 k6 k4) aI):p:=h
theorem iF{p:Prop}(h:p:=by
  go_simp
  obtain⟨rfl,rfl⟩:=r5 hL
  refine(Hcall.o W ha9).mono ?_
  rintro e w5 ⟨rfl,mv5,ha5,hk5⟩
  exact hK _ _ _ rfl Ac ⟨_,mv5,ha5,hk9.trans hk5,fun _=>rfl,fun h=>by simp at h⟩ aI):p:=h
theorem iG{p:Prop}(h:p:=by
  have y0:=(HR.o.cell (p:=⟨B12,0,none⟩) aM).trans ((aB _ _).trans Y50.o)
  have y1:=(HR.o.cell (p:=⟨B12,1,none⟩) aM).trans ((aB _ _).trans Y51.o)
  have y2:=(HR.o.cell (p:=⟨B12,2,none⟩) aM).trans ((aB _ _).trans Y52.o)
  have y3:=(HR.o.cell (p:=⟨B12,3,none⟩) aM).trans ((aB _ _).trans Y53.o)
  go_simp
  first|exact hK _ _ _ rfl Ac HR.o rfl|exact kF hK HR.o):p:=h
theorem iH{p:Prop}(h:p:=by
  have l13:L 13=true:=bB
  have l12:L 12=true:=Np (Bb Hdep.o 13 12 rfl) l13
  have l11:L 11=true:=Np (Bb Hdep.o 12 11 rfl) l12
  obtain⟨b8,v8,q8,A6,c6,e6,_,_,_,hK6⟩:=HR.o.s3 l13 hL
  have x3:=hK6.c3
  have x4:=hK6.bk.live 3
  have x5:=hK6.lt
  go_simp
  exact hK undef _ _ Ac Ac (HR.o.store (An _) hgl l11 l12 l13 hL (by rw[e6])) cB):p:=h
theorem iI{p:Prop}(h:p:=by
  have h8:L 8=false:=Bb Hdep.o 8 7 rfl hL
  have h11:L 11=false:=Bb Hdep.o 11 8 rfl h8
  have hW:=HR.o.p0 hL
  subst hW
  go_simp
  exact hK _ _ _ Ac Ac (Fr.put7 h8 h11) aI):p:=h
theorem iJ{p:Prop}(h:p:=by
  go_simp
  first|exact hK _ _ _ rfl Ac HR.o rfl|exact hK _ _ _ rfl Ac HR.o bR|exact hK undef _ _ Ac Ac HR.o bR|exact hK _ _ _ Ac Ac HR.o rfl|exact hK _ _ _ Ac Ac HR.o bR):p:=h
theorem iK{p:Prop}(h:p:=by
  go_simp
  first|exact hK _ _ _ rfl Ac HR.o rfl|exact hK _ _ _ rfl Ac HR.o cn|exact hK undef _ _ Ac Ac HR.o cn|exact hK _ _ _ Ac Ac HR.o rfl|exact hK _ _ _ Ac Ac HR.o cn):p:=h
theorem iL{p:Prop}(h:p:=by
  have h7:L 7=false:=Bb Hdep.o 7 6 rfl hL
  have hW:=HR.o.p0 h7
  subst hW
  have x2:=Y9.o
  go_simp
  first|exact hK _ _ _ rfl Ac HR.o rfl|exact kF hK HR.o):p:=h
theorem iM{p:Prop}(h:p:=by
  go_simp
  rw[E2.o]
  first|exact hK _ _ _ rfl Ac HR.o rfl|exact kF hK HR.o):p:=h
theorem iN{p:Prop}(h:p:=by
  go_simp
  rw[if_pos aH]
  go_simp
  first|exact hK _ _ _ rfl Ac HR.o rfl|exact kF hK HR.o):p:=h
theorem iO{p:Prop}(h:p:=by
  have l11:L 11=true:=aL
  have h13:L 13=false:=Bb Hdep.o 13 12 rfl hL
  have h16:L 16=false:=Bb Hdep.o 16 13 rfl h13
  obtain⟨b5,e5,hn⟩:=HR.o.build l11 hL h13 h16
  simp only[e5]
  go_simp
  exact hK _ _ _ Ac Ac hn (by simp[Act.put,hpre,e5])):p:=h
theorem iP{p:Prop}(h:p:=by exact Mc results114 _ _ w.heap.size (w.heap.size+1) [a6,a6,a6] [a6,a6,a6] _ _ _ rfl rfl rfl rfl HZ1.o HZ2.o underlying60 rfl aN aN):p:=h
theorem iQ{p:Prop}(h:p:=by
  obtain⟨R1,R2,R3⟩:=HR.o
  have hB:=R1 hL
  have h10:L 13=false:=Bb Hdep.o 13 5 rfl hL
  go_simp
  exact hK W.heap.size _ _ ⟨_,rfl⟩ Ac ⟨fun h=>by simp at h,fun _=>⟨W,rfl,hB,rfl⟩,fun h=>absurd (h10.symm.trans aR) aJ⟩ aI):p:=h
theorem iR{p:Prop}(h:p:=by
  obtain⟨R1,R2,R3⟩:=HR.o
  have hB:=R1 hL
  have h10:L 8=false:=Bb Hdep.o 8 3 rfl hL
  go_simp
  exact hK W.heap.size _ _ ⟨_,rfl⟩ Ac ⟨fun h=>by simp at h,fun _=>⟨W,rfl,hB,rfl⟩,fun h=>absurd (h10.symm.trans aR) aJ⟩ aI):p:=h
theorem iS{p:Prop}(h:p:=by
  go_simp
  refine(Hd.o W).mono ?_
  rintro e w3 ⟨rfl,hb3⟩
  exact hK _ _ _ rfl Ac (hB.trans (hb3.mono hB.size)) aI):p:=h
theorem iT{p:Prop}(h:p:=by
  have l5:L 5=true:=aL
  have l4:L 4=true:=Np (Bb Hdep.o 5 4 rfl) l5
  obtain⟨n,a,b,c,r,u5,g0,g1,g2⟩:=HR.o.get l4 l5 (fun h=>Bb Hdep.o 10 6 rfl h)
  simp only[u5]
  go_simp
  exact hK _ _ _ Ac Ac (g0 hL) bY):p:=h
theorem iU{p:Prop}(h:p:=by
  have l5:L 5=true:=aL
  have l4:L 4=true:=Np (Bb Hdep.o 5 4 rfl) l5
  obtain⟨n,a,b,c,r,u5,g0,g1,g2⟩:=HR.o.get l4 l5 (fun h=>Bb Hdep.o 10 6 rfl h)
  simp only[u5]
  go_simp
  exact hK _ _ _ Ac Ac (g1) bY):p:=h
theorem iV{p:Prop}(h:p:=by
  have l5:L 5=true:=aL
  have l4:L 4=true:=Np (Bb Hdep.o 5 4 rfl) l5
  obtain⟨n,a,b,c,r,u5,g0,g1,g2⟩:=HR.o.get l4 l5 (fun h=>Bb Hdep.o 10 6 rfl h)
  simp only[u5]
  go_simp
  exact hK _ _ _ Ac Ac (g2) bY):p:=h
theorem iW{p:Prop}(h:p:=by
  have t69:((t.sort.toNat:Int) == 69)=true:=cD
  have E69:=Aa (aD h69)
  clear h69
  go_simp
  exact hK (.bool true) _ _ (show Value.bool true=.bool (decide (t.sort=69))by rw[E69.o]) Ac HR.o eF):p:=h
theorem iX{p:Prop}(h:p:=by
  have h20:L 20=false:=Hdep.o 20 _ rfl {on:=0,ground:=Ground.phase} aK cr hL
  have u20:U 20=acc:=(Hun.o 20 h20).trans rfl
  go_simp
  exact hK acc _ _ rfl Ac HR.o (by simp[Act.put,u20])):p:=h
theorem iY{p:Prop}(h:p:=by
  go_simp
  refine(HO.o _ ((Ao W5.heap.size W5).drew.trans (HR.o.mono aK))).mono ?_
  rintro e w9 ⟨rfl,hb⟩
  go_simp
  exact hK _ _ _ rfl Ac (HR.o.trans (hb.mono HR.o.size)) aI):p:=h
theorem iZ{p:Prop}(h:p:=by
  go_simp
  refine(HS.o _ ((Ao W5.heap.size W5).drew.trans (HR.o.mono aK))).mono ?_
  rintro e w9 ⟨rfl,hb⟩
  go_simp
  exact hK _ _ _ rfl Ac (HR.o.trans (hb.mono HR.o.size)) aI):p:=h
theorem j0{p:Prop}(h:p:=by
  go_simp
  obtain rfl:=r6 hL
  refine(Hcall.o W ha9).mono ?_
  rintro e w5 ⟨rfl,ha5,hk5⟩
  exact hK _ _ _ rfl Ac ⟨_,ha5,hk9.trans hk5,fun _=>rfl,fun h=>by simp at h⟩ aI):p:=h
theorem j4{p:Prop}(h:p:=by
  rw[HS9.o,(Br (w.heap.size+3) [.int .u8 (r.1.what.toNat:Int),r.1.text,(r.1.tag:Int),.slice A5 r.1.kids.length c5] 0 _).cell_far ⟨B11,0,none⟩ aM aM]
  simp[go_sem,c115,f115,hn1,hn2]):p:=h
theorem j5{p:Prop}(h:p:=by
  have h8:L 8=false:=Bb Hdep.o 8 0 rfl hL
  have hW:=HR.o.1 h8
  subst hW
  go_simp
  first|exact hK _ _ _ rfl Ac HR.o rfl|exact kF hK HR.o):p:=h
theorem j6{p:Prop}(h:p:=by
  have h13:L 13=false:=Bb Hdep.o 13 4 rfl hL
  have x3:=HR.o.c3 HS9.o h13
  go_simp
  first|exact hK _ _ _ rfl Ac HR.o rfl|exact kF hK HR.o):p:=h
theorem j7{p:Prop}(h:p:=by
  intro j y hj
  have e1:(⟨W.heap.size,0,none⟩:Addr).add j=⟨W.heap.size,j,none⟩:=bD
  rw[e1,World.cell?_alloc_new]
  simpa using hj):p:=h
theorem j8{p:Prop}(h:p:=by
  go_simp
  refine(Ih2.o _ (Hsc0.o.below hB)).mono ?_
  rintro e w3 ⟨rfl,hb3⟩
  exact hK _ _ _ rfl Ac (hB.trans (hb3.mono hB.size)) aI):p:=h
theorem j9{p:Prop}(h:p:=by
  have x1:=(HR.o.cell (p:=⟨bv,1,none⟩) aM).trans ((aB _ _).trans V15.o)
  go_simp
  first|exact hK _ _ _ rfl Ac HR.o rfl|exact kF hK HR.o):p:=h
theorem ja{p:Prop}(h:p:=by
  go_simp
  rw[E1.o]
  exact hK _ _ _ rfl Ac HR.o aT):p:=h
theorem jb{p:Prop}(h:p:=by
  have h10:L 10=false:=Bb Hdep.o 10 9 rfl hL
  go_simp
  exact hK (.pointer (some ⟨W.heap.size,0,none⟩)) _ _ Ac Ac (HR.o.alloc h10 _) aI):p:=h
theorem jc{p:Prop}(h:p:=by
  have e:=Qy S 0 u a.tmps.toList i s v hn hsi
  rw[am]at e
  unfold Bt Act.put
  rw[hd]
  simp only[<-e]
  congr 1
  simp):p:=h
theorem jd{p:Prop}(h:p:=by
  go_simp
  refine(HX.o W hBw).mono ?_
  rintro e w3 ⟨rfl,hb3⟩
  exact hK _ _ _ rfl Ac (hB.trans (hb3.mono hB.size)) aI):p:=h
theorem je{p:Prop}(h:p:=by
  go_simp
  refine(Hd.o _).mono ?_
  rintro e w3 ⟨rfl,hb3⟩
  exact hK _ _ _ rfl Ac (hB.trans (hb3.mono hB.size)) aI):p:=h
theorem jf{p:Prop}(h:p:=by have:=hc 1 _ rfl;simpa [Nat.add_assoc]using this):p:=h
theorem jg{p:Prop}(h:p:=by
  go_simp
  first|exact hK _ _ _ rfl Ac HR.o rfl|exact kF hK HR.o):p:=h
theorem jh{p:Prop}(h:p:=by
  go_simp
  refine(Hn.o _).mono ?_
  rintro e wz ⟨rfl,rfl⟩
  go_simp
  exact hK _ _ _ rfl Ac HR.o aT):p:=h
theorem ji{p:Prop}(h:p:=by exact⟨r2.os,r2.tape,r2.output,ad aK r2.size,fun k hk hne=>(r2.block k aM hne).trans (heap_alloc_old W _ hk)⟩):p:=h
theorem jk{p:Prop}(h:p:=by exact As results175 _ _ w.heap.size [(n:Int),b,k.signs,k.base,k.name,vl] _ _ rfl rfl HZ.o underlying97 rfl aN):p:=h
theorem jl{p:Prop}(h:p:=by exact Bh results169 _ _ (w.heap.size+3) _ _ rfl (by rw[HS9.o];exact aa _ _ _ _ T86.o) underlying68 rfl aN):p:=h
theorem jn{p:Prop}(h:p:=by
  go_simp
  exact hK _ _ _ rfl Ac hR aI):p:=h
theorem jo{p:Prop}(h:p:=by
  go_simp
  rw[if_pos aH]
  go_simp
  exact hK (kp:List UInt8) _ _ rfl Ac HR.o aI):p:=h
theorem jp{p:Prop}(h:p:=by
  go_simp
  rw[if_pos aH]
  go_simp
  exact hK (z:List UInt8) _ _ rfl Ac HR.o aI):p:=h
theorem jq{p:Prop}(h:p:=by have:=hc 2 _ rfl;simpa [Nat.add_assoc]using this):p:=h
theorem jr{p:Prop}(h:p:=by
  go_enter func230,ntmps230
  go_wp2_with fail
  go_ret
  exact⟨rfl,rfl⟩):p:=h
theorem ju{p:Prop}(h:p:=by
  have:=hac' i o ho e he hb
  have:=(Array.getElem?_eq_some_iff.1 ho).1
  omega):p:=h
theorem jv{p:Prop}(h:p:=by
  go_simp
  rw[Htk.o]
  first|exact hK _ _ _ rfl Ac HR.o rfl|exact kF hK HR.o):p:=h
theorem jw{p:Prop}(h:p:=by
  have l4:L 4=true:=aL
  go_simp
  exact hK (U 4) _ _ Ac Ac (HR.o.move l4) aI):p:=h
theorem jx{p:Prop}(h:p:=by have:=hc 0 _ rfl;simpa using this):p:=h
theorem jy{p:Prop}(h:p:=by
  have l7:L 7=true:=aL
  go_simp
  exact hK (U 7) _ _ Ac Ac (HR.o.as1 l7) aI):p:=h
theorem jz{p:Prop}(h:p:=by
  have l8:L 8=true:=aL
  go_simp
  exact hK (U 8) _ _ Ac Ac (HR.o.as2 l8) aI):p:=h
theorem jA{p:Prop}(h:p:=by
  have:(W.alloc (.cells us.toArray e)).heap.size=W.heap.size+1:=aK
  omega):p:=h
theorem jB{p:Prop}(h:p:=by
  rw[if_pos h]
  simp at h
  have:¬t.length<12:=aH
  simp[this]):p:=h
theorem jC{p:Prop}(h:p:=by
  go_simp
  exact hK _ _ _ rfl Ac hR rfl):p:=h
theorem jD{p:Prop}(h:p:=by exact(Es (Fj tg)).2.2.1):p:=h
theorem jE{p:Prop}(h:p:=by
  unfold Bt
  rw[Pw S 0 _ _ fun k s hk=>by simp[List.getD,hk]]):p:=h
theorem jF{p:Prop}(h:p:=by subst ho;simp[World.cell?,hh]at c0):p:=h
theorem jG{p:Prop}(h:p:=by
  go_simp
  rw[E2.o]
  exact hK _ _ _ rfl Ac HR.o aT):p:=h
theorem jH{p:Prop}(h:p:=by exact⟨tg+1,by simp,by omega⟩):p:=h
theorem jI{p:Prop}(h:p:=by
  rw[o2]at HQ
  subst o1
  exact Bx.no HQ rfl Hb7):p:=h
theorem jJ{p:Prop}(h:p:=by go_ret;exact⟨rfl,rfl⟩):p:=h
theorem jK{p:Prop}(h:p:=by go_ret;exact⟨Em (Cz Hf.o.symm),rfl⟩):p:=h
theorem jL{p:Prop}(h:p:=by rw[show c::(u++[d])=(c::u)++[d]from rfl,List.getLast?_append];rfl):p:=h
theorem jM{p:Prop}(h:p:=by exact⟨rfl,rfl⟩):p:=h
theorem jN{p:Prop}(h:p:=by go_ret;exact⟨by rw[Hfin.o];rfl,(Ao _ _).alloc (An _) _⟩):p:=h
theorem jO{p:Prop}(h:p:=by go_ret;exact⟨(dt++58::(nm++[58]))++l,q+1,by simp,⟨Kp.kind Hpre2.o.1 Hpre2.o.2 Hl.o,by simp;omega⟩,by omega,HR3.o,Hg3.o⟩):p:=h
theorem jP{p:Prop}(h:p:=by exact⟨tg+1+a,by simp,by omega⟩):p:=h
theorem jQ{p:Prop}(h:p:=by have h1:=Yg (s.take k).length (s.take k) rfl h;have h2:10 ^ (s.take k).length<=10 ^ 6:=Nat.pow_le_pow_right aH aM;have e6:10 ^ 6=1000000:=rfl;omega):p:=h
theorem jR{p:Prop}(h:p:=by exact⟨0,by omega,by rw[Hn.o];rfl,(fun m h=>by rw[Hno.o]at h;cases h),Ao _ _⟩):p:=h
theorem jS{p:Prop}(h:p:=by go_ret;exact⟨Em (Cz (by rw[<-Hv.o,Ho.o];rfl)),Hb.o⟩):p:=h
theorem jT{p:Prop}(h:p:=by go_ret;exact⟨Em (Cz (by rw[Hv.o,Ho.o,Hq.o];rfl)),Ao _ _⟩):p:=h
theorem jU{p:Prop}(h:p:=by obtain⟨A,c,e,hl,hr⟩:=h;exact⟨A,c,e,hl,hr.below hb⟩):p:=h
theorem jV{p:Prop}(h:p:=by exact C7.no Hno.o rfl ((((Hb.o.setCell (An _) _).setCell (An _) _).setCell (An _) _).setCell (An _) _)):p:=h
theorem jW{p:Prop}(h:p:=by exact C7.no HF.o rfl aS):p:=h
theorem jX{p:Prop}(h:p:=by exact hdone l u w hl (fun i hi=>hφ i (hl i hi) hi) hR):p:=h
theorem jY{p:Prop}(h:p:=by exact D2.no HF.o rfl aP):p:=h
theorem jZ{p:Prop}(h:p:=by have h2:=Hsl.o;omega):p:=h
theorem k7{p:Prop}(h:p:=by have h1:k≠(c::nm).length:=fun e=>hne (hiff.2 e);have h2:=Hsl.o;omega):p:=h
theorem k8{p:Prop}(h:p:=by exact(((hR.1.setCell hl8 _).setCell hl8 _).setCell hl8 _).setCell hl8 _):p:=h
theorem ke{p:Prop}(h:p:=by exact⟨by rw[Hfin.o];rfl,(Ao _ _).alloc (An _) _⟩):p:=h
theorem kg{p:Prop}(h:p:=by exact⟨by rw[Hr.o];rfl,((Hb.o.setCell (An _) _).setCell (An _) _).setCell (An _) _⟩):p:=h
theorem kh{p:Prop}(h:p:=by go_ret;exact⟨by rw[Hend.o];first|rfl|trivial,hb.o⟩):p:=h
theorem ki{p:Prop}(h:p:=by exact Ju.of (b:=true) (HF.o.trans Hr.o) rfl rfl (Hs2.o.below ((Ao _ _).alloc (An _) _)) aY):p:=h
theorem kj{p:Prop}(h:p:=by rw[hq]at hr;injection hr with e1 _;subst e1;exact .inr ⟨_,rfl,An _⟩):p:=h
theorem km{p:Prop}(h:p:=by go_ret;exact⟨Em (Cz fT),hb⟩):p:=h
theorem kq{p:Prop}(h:p:=by go_ret;exact⟨Em (Cz Hn.o.symm),Ao _ _⟩):p:=h
theorem kt{p:Prop}(h:p:=by exact⟨by rw[Hn.o];rfl,rfl⟩):p:=h
theorem kx{p:Prop}(h:p:=by go_ret;exact⟨rfl,Ao _ _⟩):p:=h
theorem ky{p:Prop}(h:p:=by exact Ei.no (Hno.o (fun n h=>by have:=((Hhead.o n).1 h).1;cases this)) rfl aX):p:=h
theorem kz{p:Prop}(h:p:=by exact Ei.no (Hno.o (fun m h=>by have:=((Hhead.o m).1 h).2.2.2;cases this)) rfl bG):p:=h
theorem kA{p:Prop}(h:p:=by exact hK _ _ _ rfl Ac (hB.trans (hb5.mono hB.size)) aI):p:=h
theorem kB{p:Prop}(h:p:=by rw[Hts.o,az,List.map_singleton,Jp,Hrest2.o];exact Hown7.o):p:=h
theorem kC{p:Prop}(h:p:=by exact kF hK HR.o):p:=h
theorem kD{p:Prop}(h:p:=by exact⟨rfl,Ao _ _⟩):p:=h
theorem kE{p:Prop}(h:p:=by rw[No _ _ k hs (N3 hk hs hb).2];exact Qm xv xs k w hsc hk hs hb):p:=h
theorem kG{p:Prop}(h:p:=by have hkf:Ck f.kind:=((hto.2.2.1.1 f cV).2.2.2.2 dX).1;exact ih aH f.kind W hW hkf hrf (Xi he hs hb hft h85 hfs hrf)):p:=h
theorem kH{p:Prop}(h:p:=by rw[G6]at this;rw[if_pos h];exact⟨by simpa [h]using this,fun x hx=>⟨h,hx⟩⟩):p:=h
theorem kI{p:Prop}(h:p:=by go_ret;rw[HF2.o];exact⟨rfl,_,Hst4.o.below ((Ao _ _).alloc (An _) _),Hk4.o.trans (Ex.of_below ((Ao _ _).alloc (An _) _))⟩):p:=h
theorem kJ{p:Prop}(h:p:=by go_simp;exact kF hK HR.o):p:=h
theorem kK{p:Prop}(h:p:=by obtain rfl:=R1 h6;go_simp;first|exact hK _ _ _ rfl Ac HR.o rfl|exact kF hK HR.o):p:=h
theorem kL{p:Prop}(h:p:=by go_simp;first|exact hK _ _ _ rfl Ac HR.o rfl|exact kF hK HR.o):p:=h
theorem kM{p:Prop}(h:p:=by exact hK _ _ _ rfl Ac ⟨mm,mv9,ha9.below hb5,hk9.trans (Ex.of_below hb5),r1,r5⟩ aI):p:=h
theorem kN{p:Prop}(h:p:=by have u2:∀y∈Ky f2,y.oneCell'=true:=fun y hy=>Yd [f2] y eh;have ub':=ub;simp only[Ky]at ub';go_simp;have hba:Below W W (W.alloc (.cells (Ky f2).toArray 157)):=(Ao _ _).alloc (An _) _;exact hK _ _ _ ⟨W.heap.size,rfl⟩ Ac ⟨⟨fun _ h=>by simp at h,Ah Ra cS hba,fun b f e=>Ah (Rb b f e) (b5 b f e).lt.2 hba,fun h=>Ah (Rc h2) o5.lt.2.2.1 hba⟩,fun h=>by simp at h,fun _ _=>⟨W,f2,q5,hq5,rfl,rfl,o5,b5,hs2⟩,fun h=>absurd (h1.symm.trans aR) aJ,fun h=>absurd (h2.symm.trans aR) aJ⟩ (by simp[Act.put,ub])):p:=h
theorem kO{p:Prop}(h:p:=by first|exact hpre.1|exact hpre.2.1|exact hpre.2.2|exact hpre.2.2.1):p:=h
theorem kP{p:Prop}(h:p:=by first|exact hpre.2|exact hpre.2.1|exact hpre.1|exact hpre.2.2|exact hpre.2.2.1):p:=h
theorem kQ{p:Prop}(h:p:=by intro v' w' hown hg hwh;obtain⟨A5',n5',c5',rfl⟩:=Ed hown;have oa:=o5.app b5 hown hg hwh;exact hK _ _ _ ⟨A5',n5',c5',rfl⟩ Ac ⟨⟨fun _ h=>absurd (ls.symm.trans aR) aJ,oa.old,fun b f e=>(oa.box b f e).cells,fun _=>oa.new⟩,fun h=>absurd (ls.symm.trans aR) aJ,fun _ h=>by simp at h,fun _ _=>⟨by simpa using ls,f2,q5,hq5,oa,hs2⟩,fun h=>absurd (h2.symm.trans aR) aJ⟩ rfl):p:=h
theorem kR{p:Prop}(h:p:=by first|exact⟨⟨Ac,Ac⟩,hpre.1.1,hpre.1.2⟩|exact⟨⟨Ac,Ac⟩,hpre.2.1.1,hpre.2.1.2⟩|exact⟨⟨Ac,Ac⟩,hpre.2.1,hpre.2.2⟩):p:=h
theorem kS{p:Prop}(h:p:=by obtain⟨os,bs⟩:=oa.store;go_simp;exact hK undef _ _ rfl Ac ⟨⟨fun _ h=>absurd (ls.symm.trans aR) aJ,os.old,fun b f e=>(bs b f e).cells,fun h=>by simp at h⟩,fun h=>absurd (ls.symm.trans aR) aJ,fun _ h=>absurd (la.symm.trans aR) aJ,fun _ h=>by simp at h,fun _=>⟨f2,_,q5,hq5,os,bs,hs2⟩⟩ (by simp[Act.put,hpre,up,ua])):p:=h
theorem kT{p:Prop}(h:p:=by exact⟨false,q5+1,rfl,rfl,by omega,(fun h=>Bool.noConfusion h),HO10.o,HF10.o⟩):p:=h
theorem kU{p:Prop}(h:p:=by have hB:=h.hB;exact⟨by simpa using h.lt,by simpa using h.bs,h.hB,h.bk.set _,by simp[go_sem,h.c0],by simp[go_sem,h.c1],by simp[go_sem,h.c2],by simp[go_sem,h.c3],h.tags.kept hg (Ng (fun k hk=>(h.tags.lt k hk).1) h.hB),h.row.kept hg (Ng (fun k hk=>(h.row.lt k hk).1) h.hB),fun x hx=>(h.kids x hx).grown hg fun c hc e=>by injection e with e;omega⟩):p:=h
theorem kV{p:Prop}(h:p:=by rw[e];intro e;injection e with e;omega):p:=h
theorem kW{p:Prop}(h:p:=by rw[eP,e1];simp only;exact⟨fun e=>Bool.noConfusion e.1,by omega,fun _=>⟨by omega,by omega⟩⟩):p:=h
theorem kX{p:Prop}(h:p:=by have:∀a b,Dh a<=Dh (a++b):=fun a b=>dJ;exact this _ _):p:=h
theorem kY{p:Prop}(h:p:=by first|exact hpre.1|exact hpre.2):p:=h
theorem kZ{p:Prop}(h:p:=by intro v6 w6 hown hg hwh;obtain⟨hn,A6,c6,e6⟩:=M7.app (uc:=U 11) (ub:=U 12) (An _) hgl HS9.o.bs HS9.o hF hR8 hg8 hv8 hL8 l11 l12 h16 hown hg hwh;exact hK _ _ _ Ac Ac hn rfl):p:=h
theorem lf{p:Prop}(h:p:=by have x2:=HR.o.old h14 (show w1.heap.size<W4.heap.size by omega) aH X4.o;go_simp;first|exact hK _ _ _ rfl Ac HR.o rfl|exact kF hK HR.o):p:=h
theorem lg{p:Prop}(h:p:=by have hS:=(HS5.o.putK (K4.o.mono (Q:=fun c=>w1.heap.size+3<=c/\(Value.slice (some ⟨W9.heap.size,0,none⟩) 1 1).ownBlock≠some c) fun c hc _=>⟨by have:WC.heap.size<=c:=hc;omega,fun e=>by have:WC.heap.size<=c:=hc;injection e with e;simp only at e;omega⟩)).done aK aK;rw[Hsv.o f Hf.o];exact hS.mono fun c hc _=>aH):p:=h
theorem lh{p:Prop}(h:p:=by first|exact hK _ _ _ rfl Ac HR.o rfl|exact kF hK HR.o):p:=h
theorem li{p:Prop}(h:p:=by exact Fl.leaf (P:=fun c=>w.heap.size<=c) aH):p:=h
theorem lj{p:Prop}(h:p:=by rw[Tt,hkd,<-o3];exact Fl.leaf (P:=fun c=>w.heap.size<=c) aH):p:=h
theorem lk{p:Prop}(h:p:=by rw[Tz,hkd];exact Fl.leaf (P:=fun c=>w.heap.size<=c) aH):p:=h
theorem ll{p:Prop}(h:p:=by go_ret;exact⟨by rw[HF.o];simp,by rw[HB0.o];exact Hb4.o⟩):p:=h
theorem lm{p:Prop}(h:p:=by go_ret;exact⟨by rw[HF.o];rfl,by rw[HB0.o];exact Hb4.o⟩):p:=h
theorem lq{p:Prop}(h:p:=by go_ret;exact⟨Em (Cz Hend.o.symm),hbr.o.alloc hzw _⟩):p:=h
theorem lr{p:Prop}(h:p:=by exact Jm.no Hend.o rfl (below_drewN (hbr.o.trans (Hbo.o.mono aH)) _)):p:=h
theorem lu{p:Prop}(h:p:=by go_simp;first|exact hK _ _ _ rfl Ac ⟨q,fun _=>rfl,Hq2.o⟩ rfl|exact hK _ _ _ rfl Ac ⟨q,fun _=>rfl,Hq2.o⟩ aI):p:=h
theorem lx{p:Prop}(h:p:=by exact hK undef _ _ Ac Ac ⟨Ai _ (An _) _ _ _ r1,by rw[Ch];exact r2,ai r3 _ _ _,ak r4 _ _ _ (.inl (show w2.heap.size≠w.heap.size by omega)),r5.far (Dn _ _ _ W) aH,fun _=>aa _ _ _ _ r3⟩ rfl):p:=h
theorem lA{p:Prop}(h:p:=by go_ret;exact⟨rfl,((Ao _ _).alloc (An _) _).trans (hb1.mono aK)⟩):p:=h
theorem lB{p:Prop}(h:p:=by exact Bx.no HN.o rfl ((Ao _ _).alloc (An _) _)):p:=h
theorem lC{p:Prop}(h:p:=by obtain⟨B,h1,h2,h3,h4,_⟩:=h.al ha;exact⟨B,h1,h2,ac h3 hb.size,Aj h4 h3 hb,fun h=>Bool.noConfusion h⟩):p:=h
theorem lD{p:Prop}(h:p:=by obtain⟨B,g1,g2,g3,g4,_⟩:=h.al ha;exact⟨B,g1,g2,g3,g4,fun hs=>absurd ((hst hx).symm.trans hs) aJ⟩):p:=h
theorem lE{p:Prop}(h:p:=by first|exact hpre.2|exact hpre.1):p:=h
theorem lG{p:Prop}(h:p:=by exact hK _ _ _ Ac Ac hn rfl):p:=h
theorem lH{p:Prop}(h:p:=by exact⟨_,rfl,.inl ⟨rfl,HN.o⟩⟩):p:=h
theorem lI{p:Prop}(h:p:=by exact⟨HX,.inl ⟨rfl,HN.o⟩⟩):p:=h
theorem lJ{p:Prop}(h:p:=by have h:=Ey (.slice A xs.length c) xs k W' (hsc.below hW') hk;rw[hrf,hx]at h;exact h):p:=h
theorem lK{p:Prop}(h:p:=by exact hK undef _ _ Ac Ac hn rfl):p:=h
theorem lL{p:Prop}(h:p:=by intro v6 w6 hown hg hwh;obtain⟨hn,A6,c6,e6⟩:=Fr.put8 (u7:=U 7) (ks:=[]) l7 h11 HSd aK fx hg hwh;exact hK _ _ _ Ac Ac hn rfl):p:=h
theorem lM{p:Prop}(h:p:=by have h1:=hS.1.2.1;have h2:=hT.1.2.1;exact ad (Nat.mul_le_mul h1 h2) aJ):p:=h
theorem lN{p:Prop}(h:p:=by exact⟨_,_,rfl,Hb2.o,⟨_,_,_,rfl⟩,⟨_,_,_,rfl⟩,Ac⟩):p:=h
theorem lO{p:Prop}(h:p:=by exact aF (v:=.agg (Gl (.mk 91 [] 0 (Bc ys)) (.slice A ys.length c)).toArray) (Bh results140 _ _ (w.heap.size+1) _ _ rfl Z.2 underlying68 rfl aN) rfl Z.1):p:=h
theorem lP{p:Prop}(h:p:=by exact aF (v:=.agg (Gl (.mk 91 [] 0 (Bc ys)) (.slice A5 ys.length c5)).toArray) (Bh results140 _ _ (w.heap.size+1) _ _ rfl Z.2 underlying68 rfl aN) rfl Z.1):p:=h
theorem lQ{p:Prop}(h:p:=by go_simp;exact hK undef _ _ Ac Ac (by simpa using hst) aI):p:=h
theorem lR{p:Prop}(h:p:=by go_ret;rw[HF1.o];exact⟨rfl,Hst.o.below (((Ao _ _).alloc (An _) _).alloc aK _),Cr (((Ao _ _).alloc (An _) _).alloc aK _) _⟩):p:=h
theorem lS{p:Prop}(h:p:=by obtain⟨q,rfl⟩:=R1 h5;go_simp;first|exact hK _ _ _ rfl Ac HR.o rfl|exact kF hK HR.o):p:=h
theorem lT{p:Prop}(h:p:=by exact hK _ _ _ rfl Ac (HR.o.trans (hb5.mono HR.o.size)) aI):p:=h
theorem lU{p:Prop}(h:p:=by exact⟨none,_,_,_,_,_,_,by rw[Hev.o],Hb9.o,fun h=>by rw[Hev.o]at h;cases h⟩):p:=h
theorem lV{p:Prop}(h:p:=by have h3:=h2.grown (Br (w.heap.size+3) [.int .u8 (r.1.what.toNat:Int),r.1.text,(r.1.tag:Int),.slice A5 r.1.kids.length c5] 0 _) (fun c hc e=>by injection e with e;omega);rw[HS9.o];exact h3.mono fun c hc _=>aH):p:=h
theorem lW{p:Prop}(h:p:=by rw[hb67.cell (p:=⟨w.heap.size+5,o,none⟩) (show w.heap.size+5<W6.heap.size by omega),hW6,<-hz5,World.cell?_alloc_new];exact hu):p:=h
theorem lX{p:Prop}(h:p:=by rw[HR.o.2 e2,(Br (w.heap.size+4) _ 0 _).cell_far ⟨w.heap.size+6,0,none⟩ fQ aK];exact HL.o.c6):p:=h
theorem lY{p:Prop}(h:p:=by exact hK undef _ _ Ac Ac ⟨fun h=>by simp at h,fun _=>rfl⟩ rfl):p:=h
theorem lZ{p:Prop}(h:p:=by have hW:=HR.o.s0 h19;subst hW;have x0:=HH.o.v2;go_simp;first|exact hK _ _ _ rfl Ac HR.o rfl|exact kF hK HR.o):p:=h
theorem m6{p:Prop}(h:p:=by have k2:=(hbw.cell (p:=⟨fb,fo+2,none⟩) hfl).trans (Ab Hfr.o 2 rfl);have k3:=(hbw.cell (p:=⟨fb,fo+3,none⟩) hfl).trans (Ab Hfr.o 3 rfl);have k4:=(hbw.cell (p:=⟨fb,fo+4,none⟩) hfl).trans (Ab Hfr.o 4 rfl);go_simp;first|exact hK _ _ _ rfl Ac HR.o rfl|exact kF hK HR.o):p:=h
theorem m7{p:Prop}(h:p:=by have k2:=(hbw.cell (p:=⟨gb,go+2,none⟩) hgl).trans (Ab Hgr.o 2 rfl);have k3:=(hbw.cell (p:=⟨gb,go+3,none⟩) hgl).trans (Ab Hgr.o 3 rfl);have k4:=(hbw.cell (p:=⟨gb,go+4,none⟩) hgl).trans (Ab Hgr.o 4 rfl);go_simp;first|exact hK _ _ _ rfl Ac HR.o rfl|exact kF hK HR.o):p:=h
theorem m8{p:Prop}(h:p:=by go_simp;exact hK _ _ _ rfl Ac (HR.o.trans (hb5.mono HR.o.size)) aI):p:=h
theorem m9{p:Prop}(h:p:=by go_simp;exact hK _ _ _ rfl Ac (HR.o.pre h8 h9 h10 h12 hb5) aI):p:=h
end Go.Proofs.YtmmhmlmfhpfgbaaGreatDoor
