/- What the other texts share. Conditions: as each theorem names them. -/
import Derived.Test.YtgfmljfjgohdcaaGreatDoorProg
import Derived.WalkKit
import Derived.WalkSmall
import Derived.WalkSpells
import Derived.WalkLawsBesides
import Derived.Below
import Derived.Lib.Hide
import Derived.Lib.BufferRead
import Derived.Laws.BytesArg
import Derived.Deep.MidRow
set_option maxRecDepth 100000
set_option maxHeartbeats 32000000
set_option linter.unusedVariables false
set_option linter.unusedSimpArgs false
namespace Go.Proofs.YtgfmljfjgohdcaaGreatDoor
open Go.RowKit Go.Proofs.Tryz
theorem kF {φ R : Value → World → Prop} {f : Value → Act} {K : Act → World → Prop} (hK : ∀ v w' a', φ v w' → True → R v w' → a' = f v → K a' w') {v : Value} {w' : World} {a' : Act} (h : R v w') (h1 : φ v w' := by first | exact rfl | exact True.intro) (h2 : a' = f v := by first | exact rfl | (simp [Act.put, hpre]; done) | (simp [Act.put, hpre]; exact rfl)) (h3 : v = v := by first | exact @rfl _ undef | exact rfl) : K a' w' := hK v w' a' h1 True.intro h h2
instance:Coe (List UInt8) Value:=⟨fun l=>.string ⟨l.toArray⟩⟩
instance:Coe Int Value:=⟨fun l=>.int .i64 l⟩
instance:Coe Nat Value:=⟨fun b=>.pointer (some ⟨b,0,none⟩)⟩
instance:Coe World Nat:=⟨fun w=>w.heap.size⟩
instance(b i:Nat):CoeDep (Nat×Nat) (b,i) Addr:=⟨⟨b,i,none⟩⟩
instance(b i:Nat):CoeDep (Nat×Nat) (b,i) (Option Addr):=⟨some ⟨b,i,none⟩⟩
instance(b i:Nat):CoeDep (Nat×Nat) (b,i) Value:=⟨.pointer (some ⟨b,i,none⟩)⟩
instance(b i:Nat):CoeDep (Nat×Nat) (b,i) (Option Value):=⟨some (.pointer (some ⟨b,i,none⟩))⟩
instance(b:World)(i:Nat):CoeDep (World×Nat) (b,i) Addr:=⟨⟨b.heap.size,i,none⟩⟩
instance(b:World)(i:Nat):CoeDep (World×Nat) (b,i) (Option Addr):=⟨some ⟨b.heap.size,i,none⟩⟩
instance(b:World)(i:Nat):CoeDep (World×Nat) (b,i) Value:=⟨.pointer (some ⟨b.heap.size,i,none⟩)⟩
instance(b:World)(i:Nat):CoeDep (World×Nat) (b,i) (Option Value):=⟨some (.pointer (some ⟨b.heap.size,i,none⟩))⟩
instance(b:World)(n i:Nat):CoeDep (World×Nat×Nat) (b,n,i) Addr:=⟨⟨b.heap.size+n,i,none⟩⟩
instance(b:World)(n i:Nat):CoeDep (World×Nat×Nat) (b,n,i) (Option Addr):=⟨some ⟨b.heap.size+n,i,none⟩⟩
instance(b:World)(n i:Nat):CoeDep (World×Nat×Nat) (b,n,i) Value:=⟨.pointer (some ⟨b.heap.size+n,i,none⟩)⟩
instance(b:World)(n i:Nat):CoeDep (World×Nat×Nat) (b,n,i) (Option Value):=⟨some (.pointer (some ⟨b.heap.size+n,i,none⟩))⟩
inductive Ea0|z
def a6:Ea0:=.z
instance:Coe Ea0 Value:=⟨fun _=>.string ⟨#[]⟩⟩
theorem a7:type_of% @World.rangeAt_setCells_same:=@World.rangeAt_setCells_same
theorem a8:type_of% @Nat.lt_of_lt_of_le:=@Nat.lt_of_lt_of_le
theorem aa:type_of% @Nat.le_trans:=@Nat.le_trans
theorem ac:type_of% @List.getElem_mem:=@List.getElem_mem
theorem ad:type_of% @List.mem_append:=@List.mem_append
theorem ae:type_of% @Nat.zero_le:=@Nat.zero_le
theorem af:type_of% @List.length_append:=@List.length_append
theorem ag:type_of% @World.there_setCells:=@World.there_setCells
theorem ah:type_of% @Option.some.injEq:=@Option.some.injEq
theorem ai:type_of% @World.rangeAt_setCells_apart:=@World.rangeAt_setCells_apart
theorem aj:type_of% @Nat.zero_add:=@Nat.zero_add
theorem ak:type_of% @Bool.false_eq_true:=@Bool.false_eq_true
theorem am:type_of% @List.mem_map_of_mem:=@List.mem_map_of_mem
theorem an:type_of% @List.mem_singleton:=@List.mem_singleton
theorem ap:type_of% @World.there_alloc:=@World.there_alloc
theorem aq:type_of% @List.take_of_length_le:=@List.take_of_length_le
theorem ar:type_of% @List.cons_append:=@List.cons_append
theorem au:type_of% @Bool.and_eq_true:=@Bool.and_eq_true
theorem av:type_of% @List.mem_map:=@List.mem_map
theorem aw:type_of% @List.map_cons:=@List.map_cons
theorem ax:type_of% @List.map_append:=@List.map_append
theorem ay:type_of% @List.mem_cons:=@List.mem_cons
theorem az:type_of% @World.cell?_drew:=@World.cell?_drew
theorem aA:type_of% @decide_eq_false:=@decide_eq_false
theorem aB:type_of% @decide_eq_true:=@decide_eq_true
theorem aC:type_of% @Prod.mk.injEq:=@Prod.mk.injEq
theorem aD:type_of% @bodyPost_ret:=@bodyPost_ret
theorem aE:type_of% @Nat.lt_or_ge:=@Nat.lt_or_ge
theorem aF{p:Prop}(h:p:=by omega):p:=h
theorem aG{p:Prop}(h:p:=by simp[Act.put,hpre]):p:=h
theorem aH{p:Prop}(h:p:=by simp):p:=h
theorem aI{p:Prop}(h:p:=by decide):p:=h
theorem aJ{p:Prop}(h:p:=by kernel_rfl):p:=h
theorem aK{p:Prop}(h:p:=by first|exact Am _|(simp;omega)|omega):p:=h
theorem aL{p:Prop}(h:p:=by simp;omega):p:=h
theorem aM{p:Prop}(h:p:=by (repeat (first|exact Ar _ _|refine Below.setCell ?_ (by first|exact Am _|(simp;done)|(simp;omega)|omega) _|refine Below.alloc ?_ (by first|exact Am _|(simp;done)|(simp;omega)|omega) _|refine Below.drew ?_|refine below_drewN ?_ _))):p:=h
theorem aN{p:Prop}(h:p:=by first|exact Am _|(simp;done)|(simp;omega)|omega):p:=h
theorem aO{p:Prop}(h:p:=by first|exact hpre|exact hpre.1|exact hpre.2|exact hpre.2.1|exact hpre.1.1|exact hpre.2.2.1):p:=h
theorem aP{p:Prop}(h:p:=by (repeat (first|exact Hb2.o|refine Below.setCell ?_ (by first|exact Am _|(simp;omega)|omega) _|refine Below.alloc ?_ (by first|exact Am _|(simp;omega)|omega) _|refine Below.drew ?_))):p:=h
theorem aQ{p:Prop}(h:p:=by first|rfl|(simp[Act.put,hpre];done)|(simp[Act.put,hpre];omega)):p:=h
theorem aR{p:Prop}(h:p:=by (repeat (first|exact Hb.o|refine Below.setCell ?_ (by first|exact Am _|(simp;omega)|omega) _|refine Below.alloc ?_ (by first|exact Am _|(simp;omega)|omega) _|refine Below.drew ?_))):p:=h
theorem aS{p:Prop}(h:p:=by (repeat (first|exact Hb4.o|refine Below.setCell ?_ (by first|exact Am _|exact Hb4.o.size|(simp;done)|(simp;omega)|omega) _|refine Below.alloc ?_ (by first|exact Am _|exact Hb4.o.size|(simp;done)|(simp;omega)|omega) _|refine Below.drew ?_))):p:=h
theorem aT{p:Prop}(h:p:=by rw[HS9.o];refine Ag _ (Am _) _ _ _ ?_;first|with_reducible exact Hb.o|exact Hb.o.alloc Hb.o.size _):p:=h
theorem aU{p:Prop}(h:p:=by (repeat (first|exact Hb2.o|refine Below.setCell ?_ (by first|exact Am _|exact Hb2.o.size|(simp;done)|(simp;omega)|omega) _|refine Below.alloc ?_ (by first|exact Am _|exact Hb2.o.size|(simp;done)|(simp;omega)|omega) _))):p:=h
theorem aV{p:Prop}(h:p:=by simpa using h):p:=h
theorem aW{p:Prop}(h:p:=by (repeat (first|exact Hb5.o|refine Below.setCell ?_ (by first|exact Am _|(simp;omega)|omega) _|refine Below.alloc ?_ (by first|exact Am _|(simp;omega)|omega) _|refine Below.drew ?_))):p:=h
theorem aX{p:Prop}(h:p:=by first|(simp[Act.put,hpre];done)|(simp[Act.put,hpre];omega)):p:=h
theorem aY{p:Prop}(h:p:=by unfold maxLen;omega):p:=h
theorem aZ{p:Prop}(h:p:=by simp[Act.put,hpre,hnb]):p:=h
theorem ba{p:Prop}(h:p:=by (repeat (first|exact HbW.o|refine Below.setCell ?_ (by first|exact Am _|(simp;done)|(simp;omega)|omega) _|refine Below.alloc ?_ (by first|exact Am _|(simp;done)|(simp;omega)|omega) _|refine Below.drew ?_|refine below_drewN ?_ _))):p:=h
theorem bc{p:Prop}(h:p:=by first|exact Am _|exact Hb2.o.size|(simp;done)|(simp;omega)|omega):p:=h
theorem bg{p:Prop}(h:p:=by first|exact Am _|exact Hb4.o.size|(simp;done)|(simp;omega)|omega):p:=h
theorem bh{p:Prop}(h:p:=by rw[HS9.o];exact a7 _ _ _ _ (by first|exact ap HT.o _|exact HT.o)):p:=h
theorem bi{p:Prop}(h:p:=by first|omega|(simp;omega)):p:=h
theorem bj{p:Prop}(h:p:=by rw[hp];simp):p:=h
theorem bn{p:Prop}(h:p:=by unfold Addr.add;split<;>simp_all):p:=h
theorem bo{p:Prop}(h:p:=by have:=Hsl.o;simp at this;omega):p:=h
theorem bp{p:Prop}(h:p:=by rw[hfz4 w.heap.size j (by simp;omega)];simp[go_sem,hfz2,hfz,hzz,hz3]):p:=h
theorem bq{p:Prop}(h:p:=by rw[HS9.o];refine Ag _ (Am _) _ _ _ ?_;first|with_reducible exact Hb4.o|exact Hb4.o.alloc Hb4.o.size _):p:=h
theorem br{p:Prop}(h:p:=by rw[HS9.o];refine Ag _ (Am _) _ _ _ ?_;first|with_reducible exact Hb6.o|exact Hb6.o.alloc Hb6.o.size _):p:=h
theorem bu{p:Prop}(h:p:=by rw[HS10.o];exact ai (show w9.rangeAt w 0 [a6,a6,a6]from by rw[HS9.o];exact a7 _ _ _ _ HT9.o) _ _ _ (.inl (show w.heap.size≠w.heap.size+1 by omega))):p:=h
theorem bw{p:Prop}(h:p:=by rw[hc4 w 0 (by simp;omega)];simp[go_sem,hc2,hc,hzz,hz3]):p:=h
theorem bz{p:Prop}(h:p:=by rw[hc4 w 1 (by simp;omega)];simp[go_sem,hc2,hc,hzz,hz3]):p:=h
theorem bB{p:Prop}(h:p:=by rw[hc4 w 2 (by simp;omega)];simp[go_sem,hc2,hc,hzz,hz3]):p:=h
theorem bC{p:Prop}(h:p:=by rw[hc4 w 3 (by simp;omega)];simp[go_sem,hc2,hc,hzz,hz3]):p:=h
theorem bD{p:Prop}(h:p:=by rw[HS9.o];exact Ag _ (by omega) _ _ _ B2.o):p:=h
theorem bE{p:Prop}(h:p:=by (repeat (first|exact Hb4.o|refine Below.setCell ?_ (by first|exact Am _|(simp;omega)|omega) _|refine Below.alloc ?_ (by first|exact Am _|(simp;omega)|omega) _|refine Below.drew ?_|refine Below.trans ?_ (hb6.mono (by first|exact Am _|(simp;omega)|omega))))):p:=h
theorem bF{p:Prop}(h:p:=by (repeat (first|exact Hb.o|refine Below.setCell ?_ (by first|exact Am _|(simp;omega)|omega) _|refine Below.alloc ?_ (by first|exact Am _|(simp;omega)|omega) _|refine Below.drew ?_|refine Below.trans ?_ (hb6.mono (by first|exact Am _|(simp;omega)|omega))))):p:=h
theorem bG{p:Prop}(h:p:=by simp[Act.put,hpre,hw1,hw2,hsb]):p:=h
theorem bH{p:Prop}(h:p:=by rw[hb];decide):p:=h
theorem bI{p:Prop}(h:p:=by simp at hkl ⊢;omega):p:=h
theorem bJ{p:Prop}(h:p:=by simp[Value.oneCell']):p:=h
theorem bK{p:Prop}(h:p:=by first|exact ap HT.o _|exact HT.o):p:=h
theorem bL{p:Prop}(h:p:=by (repeat (first|exact hbr.o|refine Below.setCell ?_ (by first|exact Am _|(simp;done)|(simp;omega)|omega) _|refine Below.alloc ?_ (by first|exact Am _|(simp;done)|(simp;omega)|omega) _|refine Below.drew ?_|refine below_drewN ?_ _))):p:=h
theorem bM{p:Prop}(h:p:=by simp[Act.put,hpre,u5]):p:=h
theorem bN{p:Prop}(h:p:=by rw[hfz w.heap.size j (by simp)];simp):p:=h
theorem bO{p:Prop}(h:p:=by simp[Act.put,hpre];done):p:=h
theorem bP{p:Prop}(h:p:=by have:=Ao hne;simpa using this):p:=h
theorem bQ{p:Prop}(h:p:=by unfold Be Bk;rw[hs,if_pos hb];rfl):p:=h
theorem bR{p:Prop}(h:p:=by simp[Act.put,hpre,H64.o]):p:=h
theorem bS{p:Prop}(h:p:=by (repeat (first|exact Hb5.o|refine Below.setCell ?_ (by first|exact Am _|(simp;done)|(simp;omega)|omega) _|refine Below.alloc ?_ (by first|exact Am _|(simp;done)|(simp;omega)|omega) _|refine Below.drew ?_))):p:=h
theorem bT{p:Prop}(h:p:=by rw[HS9.o];exact a7 _ _ _ _ (by first|exact ap HT4.o _|exact HT4.o)):p:=h
theorem bU{p:Prop}(h:p:=by rw[HS9.o];exact a7 _ _ _ _ (by first|exact ap HT6.o _|exact HT6.o)):p:=h
theorem bV{p:Prop}(h:p:=by rw[hfz4 w2.heap.size j (by simp)];simp):p:=h
theorem bW{p:Prop}(h:p:=by simp[hl,go_sem]):p:=h
theorem bX{p:Prop}(h:p:=by have:=Ba hne;simpa using this):p:=h
theorem bY{p:Prop}(h:p:=by rw[beq_eq_false_iff_ne];omega):p:=h
theorem bZ{p:Prop}(h:p:=by have e:10 ^ (2+1)=1000:=rfl;omega):p:=h
theorem ca{p:Prop}(h:p:=by unfold Be Bk;rw[hs0,hb];rfl):p:=h
theorem cb{p:Prop}(h:p:=by intro e;injection e with e;omega):p:=h
theorem cd{p:Prop}(h:p:=by rw[HS10.o];refine Ag _ (by omega) _ _ _ ?_;rw[HS9.o];exact Ag _ (Am _) _ _ _ Hb4.o):p:=h
theorem ce{p:Prop}(h:p:=by rw[Hs.o];simp):p:=h
theorem cf{p:Prop}(h:p:=by rw[hc w 0 (by simp)];simp):p:=h
theorem ch{p:Prop}(h:p:=by rw[hc w 1 (by simp)];simp):p:=h
theorem ci{p:Prop}(h:p:=by rw[hc w 2 (by simp)];simp):p:=h
theorem cj{p:Prop}(h:p:=by rw[hfz3 _ _ (by omega),hfz2 _ _ (by simp)];go_simp):p:=h
theorem ck{p:Prop}(h:p:=by have:=Ao hst;simpa using this):p:=h
theorem cm{p:Prop}(h:p:=by unfold Be;rw[hs];rfl):p:=h
theorem cn{p:Prop}(h:p:=by rw[hcc _ _ (by omega),hc2 _ _ (by simp)];go_simp):p:=h
theorem co{p:Prop}(h:p:=by unfold Bt;rw[if_pos rfl,hp];cases Jw [a,b]<;>rfl):p:=h
theorem cp{p:Prop}(h:p:=by rw[hc4 w2 0 (by simp)];simp):p:=h
theorem cq{p:Prop}(h:p:=by rw[hc4 w2 1 (by simp)];simp):p:=h
theorem cr{p:Prop}(h:p:=by rw[hc4 w2 2 (by simp)];simp):p:=h
theorem ct{p:Prop}(h:p:=by rw[hc4 w2 3 (by simp)];simp):p:=h
theorem cu{p:Prop}(h:p:=by simp[hsg]):p:=h
theorem cv{p:Prop}(h:p:=by rw[hw2];go_simp):p:=h
theorem cw{p:Prop}(h:p:=by have:=Hkl.o;omega):p:=h
theorem cx{p:Prop}(h:p:=by intro h;rcases h with h|h;omega;exact h4 h):p:=h
theorem cz{p:Prop}(h:p:=by rw[hfs];simp):p:=h
theorem cB{p:Prop}(h:p:=by rw[hw1];simp):p:=h
theorem cC{p:Prop}(h:p:=by rw[hW2];exact((Ar _ _).alloc (Am _) _).alloc (by simp) _):p:=h
theorem cD{p:Prop}(h:p:=by unfold maxLen;have:=Hsp.o;have:=Hsl.o;simp at this;omega):p:=h
theorem cE{p:Prop}(h:p:=by have:=Hsl.o;omega):p:=h
theorem cF{p:Prop}(h:p:=by rw[HB.o]at hy;injection hy with hy;subst hy;exact HV.o):p:=h
theorem cG{p:Prop}(h:p:=by simpa using Ab HR6.o 2 rfl):p:=h
theorem cH{p:Prop}(h:p:=by simpa using Ab HR6.o 3 rfl):p:=h
theorem cI{p:Prop}(h:p:=by simpa using he):p:=h
theorem cJ{p:Prop}(h:p:=by cases s with|nil=>exact absurd rfl hne|cons c z=>rfl):p:=h
theorem cK{p:Prop}(h:p:=by first|exact ap HT4.o _|exact HT4.o):p:=h
theorem cL{p:Prop}(h:p:=by first|exact ap HT6.o _|exact HT6.o):p:=h
theorem cM{p:Prop}(h:p:=by rw[List.getElem_map];exact(Hk.o _ (ac hlt)).after hW):p:=h
theorem cN{p:Prop}(h:p:=by rw[hfin.o,e7];cases b4<;>simp[h20]):p:=h
theorem cO{p:Prop}(h:p:=by have:=Hacc.o;rwa [List.drop_eq_nil_of_le (by omega),List.map_nil,List.flatten_nil,List.append_nil]at this):p:=h
theorem cP{p:Prop}(h:p:=by have:=hb1.size;simp at this;omega):p:=h
theorem cQ{p:Prop}(h:p:=by rw[<-hW0];simp[go_sem,u0,hn1,hn2]):p:=h
theorem cR{p:Prop}(h:p:=by rw[<-hW0];simp[go_sem,u1,hn1,hn2]):p:=h
theorem cS{p:Prop}(h:p:=by rw[<-hW0];simp[go_sem,u2,hn1,hn2]):p:=h
theorem cT{p:Prop}(h:p:=by rw[<-hW0];simp[go_sem,u3,hn1,hn2]):p:=h
theorem cU{p:Prop}(h:p:=by simp[Av]at hL9 ⊢;omega):p:=h
theorem cV{p:Prop}(h:p:=by rw[HS9.o];refine Ag _ (Am _) _ _ _ ?_;first|with_reducible exact Hb7.o|exact Hb7.o.alloc Hb7.o.size _):p:=h
theorem cW{p:Prop}(h:p:=by rw[<-hW0];simp[go_sem,hzf,d2,f2]):p:=h
theorem cX{p:Prop}(h:p:=by rw[<-hW0];simp[go_sem,hzf,d3,f2]):p:=h
theorem cY{p:Prop}(h:p:=by have:=hk.2.2;omega):p:=h
theorem cZ{p:Prop}(h:p:=by have:=Hbr.o.size;omega):p:=h
theorem d7{p:Prop}(h:p:=by rw[HS6.o,Bw];exact hz5):p:=h
theorem d9{p:Prop}(h:p:=by rfl):p:=h
theorem da{p:Prop}(h:p:=by repeat (first|exact Hb2.o.alloc Hb2.o.size _|refine Below.drew ?_|refine below_drewN ?_ _)):p:=h
theorem db{p:Prop}(h:p:=by rw[hq];simp):p:=h
theorem dc{p:Prop}(h:p:=by rw[h2];decide):p:=h
theorem de{p:Prop}(h:p:=by first|exact hpre.2|exact hpre.1.2|exact hpre.2.2|exact hpre.2.1.2|exact hpre.1.1.2):p:=h
theorem df{p:Prop}(h:p:=by rw[<-hW0];simp[go_sem,hzb]):p:=h
theorem dg{p:Prop}(h:p:=by rw[aq (by omega)];exact hf):p:=h
theorem dh{p:Prop}(h:p:=by rw[<-hW0];simp[go_sem,d0]):p:=h
theorem di{p:Prop}(h:p:=by rw[<-hW0];simp[go_sem,d1]):p:=h
theorem dj{p:Prop}(h:p:=by rw[<-hW0];simp[go_sem,f1]):p:=h
theorem dk{p:Prop}(h:p:=by intro a ha;simp at ha;rcases ha with rfl|rfl<;>(unfold Lit.keyWf maxLen;omega)):p:=h
theorem dl{p:Prop}(h:p:=by rw[h85];decide):p:=h
theorem dm{p:Prop}(h:p:=by rw[hw2];exact Hb1.o.alloc Hb1.o.size _):p:=h
theorem dn{p:Prop}(h:p:=by show w.heap.size+1<w.heap.size+2;omega):p:=h
theorem dp{p:Prop}(h:p:=by simpa using hr):p:=h
theorem dq{p:Prop}(h:p:=by have hg':w.drew.heap[g]?=some (.cells cur 5 (0,0)):=hg;simp[World.shape?,hg']):p:=h
theorem dr{p:Prop}(h:p:=by rw[IntWalk.i64_in _ (by omega)];omega):p:=h
theorem dt{p:Prop}(h:p:=by rw[hf];simp):p:=h
theorem du{p:Prop}(h:p:=by have e:10 ^ (5+1)=1000000:=rfl;omega):p:=h
theorem dv{p:Prop}(h:p:=by rw[(Bx hb1).1 _ _ (by simp)];go_simp):p:=h
theorem dx{p:Prop}(h:p:=by rw[hW5];exact(Ar _ _).alloc (Am _) _):p:=h
theorem dy{p:Prop}(h:p:=by rw[hfin.o,e7];simp[h20]):p:=h
theorem dz{p:Prop}(h:p:=by rw[hs];decide):p:=h
theorem dA{p:Prop}(h:p:=by rw[HS10.o];exact a7 _ _ _ _ HT10b.o):p:=h
theorem dB{p:Prop}(h:p:=by rw[hw2,az];exact Qb (by omega) X0.o):p:=h
theorem dC{p:Prop}(h:p:=by show w.heap.size<w3.heap.size;omega):p:=h
theorem dD{p:Prop}(h:p:=by have:=Hb4.o.size;have:=HB0.o;omega):p:=h
theorem dE{p:Prop}(h:p:=by have:=hb4.size;simp at this;omega):p:=h
theorem dF{p:Prop}(h:p:=by rw[decide_eq_false_iff_not];omega):p:=h
theorem dG{p:Prop}(h:p:=by simp[hp]):p:=h
theorem dH{p:Prop}(h:p:=by rw[Ji];simp[Cj];omega):p:=h
theorem dI{p:Prop}(h:p:=by rw[HS9.o];exact a7 _ _ _ _ (by first|exact ap HT7.o _|exact HT7.o)):p:=h
theorem dJ{p:Prop}(h:p:=by first|exact Am _|exact HbW4.o.size|(simp;done)|(simp;omega)|omega):p:=h
theorem dK{p:Prop}(h:p:=by have:=hb2.size;omega):p:=h
theorem dL{p:Prop}(h:p:=by rw[HS9.o];exact ag HT10.o _ _ _):p:=h
theorem dM{p:Prop}(h:p:=by rw[bne_iff_ne];omega):p:=h
theorem dN{p:Prop}(h:p:=by rw[hW2];simp[go_sem]):p:=h
theorem dO{p:Prop}(h:p:=by simp[h64]):p:=h
theorem dP{p:Prop}(h:p:=by first|exact hpre.1.2|exact hpre.2.1.2|exact hpre.2|exact hpre.1):p:=h
theorem dQ{p:Prop}(h:p:=by simpa using h1):p:=h
theorem dR{p:Prop}(h:p:=by simpa using h2):p:=h
theorem dS{p:Prop}(h:p:=by simpa using hp):p:=h
theorem dT{p:Prop}(h:p:=by simpa using ht):p:=h
theorem dU{p:Prop}(h:p:=by simpa using hu):p:=h
theorem dV{p:Prop}(h:p:=by injection e1 with e1;injection e1 with e1 e2;exact⟨e1,e2⟩):p:=h
theorem dW{p:Prop}(h:p:=by simp at hz ⊢;exact .inr hz):p:=h
theorem dX{p:Prop}(h:p:=by simp[Hs.o]):p:=h
theorem dY{p:Prop}(h:p:=by unfold Jq;rw[h9];simp[Aq,hc]):p:=h
theorem dZ{p:Prop}(h:p:=by rw[hc6 w 0 (by simp;omega)];simp[go_sem,u0,hn1,hn2,hzz]):p:=h
theorem ee{p:Prop}(h:p:=by rw[hc6 w 1 (by simp;omega)];simp[go_sem,u1,hn1,hn2,hzz]):p:=h
theorem ef{p:Prop}(h:p:=by rw[hc6 w 2 (by simp;omega)];simp[go_sem,u2,hn1,hn2,hzz]):p:=h
theorem eh{p:Prop}(h:p:=by have:=((hT t (Ch ht).1).2.2.1.1 f (Ci hf).2).2.1;omega):p:=h
theorem ei{p:Prop}(h:p:=by rw[hW1];simp):p:=h
theorem ej{p:Prop}(h:p:=by have:=congrArg List.length h;simp[Dy,Kh]at this;omega):p:=h
theorem en{p:Prop}(h:p:=by unfold Al;rw[hs0,hb];rfl):p:=h
theorem eo{p:Prop}(h:p:=by simpa using hkl):p:=h
theorem ep{p:Prop}(h:p:=by simpa using hlt):p:=h
theorem eu{p:Prop}(h:p:=by simp[Av]):p:=h
theorem ev{p:Prop}(h:p:=by simp[hy]):p:=h
theorem ew{p:Prop}(h:p:=by decide +kernel):p:=h
theorem ey{p:Prop}(h:p:=by rw[HS9.o];exact Ag _ (by omega) _ _ _ (B4.o _)):p:=h
theorem ez{p:Prop}(h:p:=by simp[Act.put,hpre,hns]):p:=h
theorem eC{p:Prop}(h:p:=by simpa using hl):p:=h
theorem eD{p:Prop}(h:p:=by simpa using hq):p:=h
theorem eE{p:Prop}(h:p:=by have:=(h.row.lt B e.symm).1;have:=h.hB;omega):p:=h
theorem eF{p:Prop}(h:p:=by unfold Sz;split<;>rfl):p:=h
theorem eG{p:Prop}(h:p:=by intro h;rcases h with h|h;omega;exact hne h):p:=h
theorem eH{p:Prop}(h:p:=by obtain⟨_,_,_,_,_,hf⟩:=hsc;exact hf _ hm):p:=h
theorem eI{p:Prop}(h:p:=by rw[Hn.o,Hr.o]):p:=h
theorem eJ{p:Prop}(h:p:=by rw[h5];decide):p:=h
theorem eK{p:Prop}(h:p:=by have:=Hsp.o;have:=Hsl.o;simp at this;omega):p:=h
theorem eL{p:Prop}(h:p:=by simp at hl ⊢;omega):p:=h
theorem eM{p:Prop}(h:p:=by simp[Bi,D7,H9];omega):p:=h
theorem eN{p:Prop}(h:p:=by simp[Value.ownBlock]):p:=h
theorem eO{p:Prop}(h:p:=by have:=hw.size;omega):p:=h
theorem eP{p:Prop}(h:p:=by rw[Hg.o];rfl):p:=h
theorem eQ{p:Prop}(h:p:=by simp[go_sem]):p:=h
theorem eR{p:Prop}(h:p:=by simpa [hji]using hj):p:=h
theorem eS{p:Prop}(h:p:=by have e:10 ^ (8+1)=1000000000:=rfl;omega):p:=h
theorem eT{p:Prop}(h:p:=by rw[hw2];simp;omega):p:=h
theorem eV{p:Prop}(h:p:=by simp[Ef]):p:=h
theorem eW{p:Prop}(h:p:=by have e6:10 ^ (5+1)=1000000:=rfl;omega):p:=h
theorem eX{p:Prop}(h:p:=by have e:10 ^ (6+1)=10000000:=rfl;omega):p:=h
theorem eY{p:Prop}(h:p:=by rw[B6];cases bad;exact Pe;exact Am _):p:=h
theorem eZ{p:Prop}(h:p:=by rw[hW3];exact(Ar _ _).alloc (Am _) _):p:=h
theorem f5{p:Prop}(h:p:=by rw[hw1];exact(Ar _ _).alloc (Am _) _):p:=h
theorem f7{p:Prop}(h:p:=by first|exact ap HT7.o _|exact HT7.o):p:=h
theorem f9{p:Prop}(h:p:=by simp at hs;omega):p:=h
theorem fa{p:Prop}(h:p:=by simp[Act.put,hp]):p:=h
theorem fc{p:Prop}(h:p:=by have:=hb3.size;simp at this;omega):p:=h
theorem fe{p:Prop}(h:p:=by have:=hb5.size;simp at this;omega):p:=h
theorem ff{p:Prop}(h:p:=by rw[hfz4 w.heap.size j aL];simp[go_sem,hfz2,hfz,hzz,hz3]):p:=h
theorem fg{p:Prop}(h:p:=by rw[hc4 w 0 aL];simp[go_sem,hc2,hc,hzz,hz3]):p:=h
theorem fh{p:Prop}(h:p:=by rw[hc4 w 1 aL];simp[go_sem,hc2,hc,hzz,hz3]):p:=h
theorem fi{p:Prop}(h:p:=by rw[hc4 w 2 aL];simp[go_sem,hc2,hc,hzz,hz3]):p:=h
theorem fj{p:Prop}(h:p:=by rw[hc4 w 3 aL];simp[go_sem,hc2,hc,hzz,hz3]):p:=h
theorem fk{p:Prop}(h:p:=by rw[hfz w.heap.size j aH];simp):p:=h
theorem fl{p:Prop}(h:p:=by rw[hfz4 w2.heap.size j aH];simp):p:=h
theorem fm{p:Prop}(h:p:=by rw[hc w 0 aH];simp):p:=h
theorem fq{p:Prop}(h:p:=by rw[hc w 1 aH];simp):p:=h
theorem fr{p:Prop}(h:p:=by rw[hc w 2 aH];simp):p:=h
theorem ft{p:Prop}(h:p:=by rw[hfz3 _ _ aF,hfz2 _ _ aH];go_simp):p:=h
theorem fw{p:Prop}(h:p:=by rw[hc4 w2 0 aH];simp):p:=h
theorem fx{p:Prop}(h:p:=by rw[hc4 w2 1 aH];simp):p:=h
theorem fy{p:Prop}(h:p:=by rw[hc4 w2 2 aH];simp):p:=h
theorem fz{p:Prop}(h:p:=by rw[hc4 w2 3 aH];simp):p:=h
theorem fA{p:Prop}(h:p:=by rw[hcc _ _ aF,hc2 _ _ aH];go_simp):p:=h
theorem fB{p:Prop}(h:p:=by rw[hW2];exact((Ar _ _).alloc (Am _) _).alloc aH _):p:=h
theorem fC{p:Prop}(h:p:=by rw[IntWalk.i64_in _ aF];omega):p:=h
theorem fD{p:Prop}(h:p:=by
  go_simp
  first|exact hK _ _ _ rfl Ac HR.o rfl|exact kF hK HR.o|exact hK undef _ _ Ac Ac HR.o aG|exact hK _ _ _ Ac Ac HR.o rfl|exact kF hK HR.o):p:=h
theorem fE{p:Prop}(h:p:=by
  repeat (first|exact Ap.nil|(refine Ap.cons ?_ ?_;rotate_left))
  all_goals
   rintro L U W hL hpre HR Hdep K hK
   have q0:=(HR.o.be.cell (p:=⟨w.heap.size,0,none⟩) Hl0.o).trans X0.o
   have q1:=(HR.o.be.cell (p:=⟨w1.heap.size,0,none⟩) Hl1.o).trans X1.o
   have q2:=(HR.o.be.cell (p:=⟨w1.heap.size,1,none⟩) Hl1.o).trans X2.o
   have q3:=(HR.o.be.cell (p:=⟨w1.heap.size,2,none⟩) Hl1.o).trans X3.o
   first|(simp[Region.binds]at hpre;done)|simp[Region.binds]at hpre|clear hpre
  iterate 2
   ·go_simp
    first|exact hK _ _ _ rfl Ac HR.o rfl|exact kF hK HR.o|exact hK undef _ _ Ac Ac HR.o aG|exact hK _ _ _ Ac Ac HR.o rfl|exact kF hK HR.o
  ·go_simp
   rw[if_pos aF]
   go_simp
   exact hK (z:List UInt8) _ _ rfl Ac HR.o aG
  ·go_simp
   first|exact hK _ _ _ rfl Ac HR.o rfl|exact kF hK HR.o|exact hK undef _ _ Ac Ac HR.o aG|exact hK _ _ _ Ac Ac HR.o rfl|exact kF hK HR.o
  ·have h5:L 5=false:=Dn Hdep.o 5 4 rfl hL
   have h6:L 6=false:=Dn Hdep.o 6 5 rfl h5
   have h7:L 7=false:=Dn Hdep.o 7 5 rfl h5
   have h8:L 8=false:=Dn Hdep.o 8 5 rfl h5
   have h10:L 10=false:=Dn Hdep.o 10 6 rfl h6
   have h11:L 11=false:=Dn Hdep.o 11 7 rfl h7
   have h12:L 12=false:=Dn Hdep.o 12 8 rfl h8
   go_simp
   refine(HC.o _ HR.o.be).mono ?_
   rintro e w5 hp
   obtain⟨n,a,b,c,r,rfl,hF,hb⟩:=hp.q
   go_simp
   exact hK _ _ _ Ac Ac (HR.o.call h5 h6 h7 h8 h10 h11 h12 hF hb) aG
  ·have l4:L 4=true:=aO
   go_simp
   exact hK (U 4) _ _ Ac Ac (HR.o.move l4) aG
  ·have l5:L 5=true:=aO
   have l4:L 4=true:=upE (Dn Hdep.o 5 4 rfl) l5
   obtain⟨n,a,b,c,r,u5,g0,g1,g2⟩:=HR.o.get l4 l5 (fun h=>Dn Hdep.o 10 6 rfl h)
   simp only[u5]
   go_simp
   exact hK _ _ _ Ac Ac (g0 hL) bM
  ·have l5:L 5=true:=aO
   have l4:L 4=true:=upE (Dn Hdep.o 5 4 rfl) l5
   obtain⟨n,a,b,c,r,u5,g0,g1,g2⟩:=HR.o.get l4 l5 (fun h=>Dn Hdep.o 10 6 rfl h)
   simp only[u5]
   go_simp
   exact hK _ _ _ Ac Ac (g1) bM
  ·have l5:L 5=true:=aO
   have l4:L 4=true:=upE (Dn Hdep.o 5 4 rfl) l5
   obtain⟨n,a,b,c,r,u5,g0,g1,g2⟩:=HR.o.get l4 l5 (fun h=>Dn Hdep.o 10 6 rfl h)
   simp only[u5]
   go_simp
   exact hK _ _ _ Ac Ac (g2) bM
  ·have h10:L 10=false:=Dn Hdep.o 10 9 rfl hL
   go_simp
   exact hK (.pointer (some ⟨W.heap.size,0,none⟩)) _ _ Ac Ac (HR.o.alloc h10 _) aG
  ·have l9:L 9=true:=aO
   have l6:L 6=true:=aO
   have l5:L 5=true:=upE (Dn Hdep.o 6 5 rfl) l6
   have l4:L 4=true:=upE (Dn Hdep.o 5 4 rfl) l5
   obtain⟨n,a,b,c,r,_,_,_,k6,_⟩:=HR.o.yes l4
   obtain⟨B,k9,_⟩:=HR.o.al l9
   have u6:=k6 l6
   obtain⟨g1,g2⟩:=HR.o.store l9 u6 k9
   rw[if_pos d9]
   refine wp_store_mid 177 _ _ rfl B 0 ([(n:Int),a,b,c]:List Value).toArray k9 u6 g1 aJ bJ ?_
   exact hK undef _ _ Ac Ac g2 rfl
  ·have l7:L 7=true:=aO
   go_simp
   exact hK (U 7) _ _ Ac Ac (HR.o.as1 l7) aG
  ·have l8:L 8=true:=aO
   go_simp
   exact hK (U 8) _ _ Ac Ac (HR.o.as2 l8) aG):p:=h
theorem fF{p:Prop}(h:p:=by
  repeat (first|exact Ap.nil|(refine Ap.cons ?_ ?_;rotate_left))
  all_goals
   rintro L U W hL hpre hR hun hdep K hK
   have HR:=Aa hR
   have hB:=HR.o
   have Hun:=Aa hun
   have hBw:=Hbr.o.trans (hB.mono hzr)
   have d2:=(hBw.cell (p:=⟨b,2,none⟩) hb).trans C2.o
   have d3:=(hB.cell (p:=⟨b,3,none⟩) hbw).trans g3
   have d6:=(hB.cell (p:=⟨b6,o6+m,none⟩) hb6).trans C6.o
   have d8:=(hB.cell (p:=⟨b8,o8+m,none⟩) hb8).trans C8.o
   have Hdep:=Aa hdep
   clear hun hdep hR
   first|(simp[Region.binds]at hpre;done)|simp[Region.binds]at hpre|clear hpre
  ·have h20:L 20=false:=Hdep.o 20 _ rfl {on:=0,ground:=Ground.phase} aH d9 hL
   have u20:U 20=acc:=(Hun.o 20 h20).trans rfl
   go_simp
   exact hK acc _ _ rfl Ac HR.o (by simp[Act.put,u20])
  iterate 7
   ·go_simp
    first|exact hK _ _ _ rfl Ac HR.o rfl|exact kF hK HR.o|exact hK undef _ _ Ac Ac HR.o aG|exact hK _ _ _ Ac Ac HR.o rfl|exact kF hK HR.o
  ·go_simp
   refine(Hd.o W).mono ?_
   rintro e w3 ⟨rfl,hb3⟩
   exact hK _ _ _ rfl Ac (hB.trans (hb3.mono hB.size)) aG
  ·go_simp
   rw[if_neg bi]
   go_simp
   first|exact hK _ _ _ rfl Ac HR.o rfl|exact kF hK HR.o
  ·go_simp
   rw[if_neg bi]
   go_simp
   first|exact hK _ _ _ rfl Ac HR.o rfl|exact kF hK HR.o
  iterate 7
   ·go_simp
    first|exact hK _ _ _ rfl Ac HR.o rfl|exact kF hK HR.o|exact hK undef _ _ Ac Ac HR.o aG|exact hK _ _ _ Ac Ac HR.o rfl|exact kF hK HR.o
  ·go_simp
   refine(HX.o W hBw).mono ?_
   rintro e w3 ⟨rfl,hb3⟩
   exact hK _ _ _ rfl Ac (hB.trans (hb3.mono hB.size)) aG
  ·go_simp
   rw[if_neg bi]
   go_simp
   first|exact hK _ _ _ rfl Ac HR.o rfl|exact kF hK HR.o
  ·go_simp
   first|exact hK _ _ _ rfl Ac HR.o rfl|exact kF hK HR.o|exact hK undef _ _ Ac Ac HR.o aG|exact hK _ _ _ Ac Ac HR.o rfl|exact kF hK HR.o):p:=h
theorem fG{p:Prop}(h:p:=by
  repeat (first|exact Ap.nil|(refine Ap.cons ?_ ?_;rotate_left))
  all_goals
   rintro L U W hL hpre HR Hdep K hK
   first|(simp[Region.binds]at hpre;done)|simp[Region.binds]at hpre|clear hpre
  iterate 3
   ·go_simp
    first|exact hK _ _ _ rfl Ac HR.o aQ|exact hK undef _ _ Ac Ac HR.o aX|exact hK _ _ _ Ac Ac HR.o rfl|exact hK _ _ _ Ac Ac HR.o bO
  ·go_simp
   rw[E1.o]
   exact hK _ _ _ rfl Ac HR.o aQ
  ·go_simp
   first|exact hK _ _ _ rfl Ac HR.o aQ|exact hK undef _ _ Ac Ac HR.o aX|exact hK _ _ _ Ac Ac HR.o rfl|exact hK _ _ _ Ac Ac HR.o bO
  ·obtain⟨R1,R2,R3⟩:=HR.o
   have hB:=R1 hL
   have h10:L 13=false:=Dn Hdep.o 13 5 rfl hL
   go_simp
   exact hK W.heap.size _ _ ⟨_,rfl⟩ Ac ⟨fun h=>by simp at h,fun _=>⟨W,rfl,hB,rfl⟩,fun h=>absurd (h10.symm.trans aV) aI⟩ aG
  iterate 2
   ·go_simp
    first|exact hK _ _ _ rfl Ac HR.o aQ|exact hK undef _ _ Ac Ac HR.o aX|exact hK _ _ _ Ac Ac HR.o rfl|exact hK _ _ _ Ac Ac HR.o bO
  ·go_simp
   rw[E2.o]
   exact hK _ _ _ rfl Ac HR.o aQ
  iterate 2
   ·go_simp
    first|exact hK _ _ _ rfl Ac HR.o aQ|exact hK undef _ _ Ac Ac HR.o aX|exact hK _ _ _ Ac Ac HR.o rfl|exact hK _ _ _ Ac Ac HR.o bO
  ·go_simp
   rw[E1.o]
   exact hK _ _ _ rfl Ac HR.o aQ
  ·go_simp
   refine(Hn.o _).mono ?_
   rintro e wz ⟨rfl,rfl⟩
   go_simp
   exact hK _ _ _ rfl Ac HR.o aQ
  ·obtain⟨R1,R2,R3⟩:=HR.o
   obtain⟨c,u5⟩:=hpre.1.2
   clear R1 R2 R3
   go_simp
   obtain⟨R1,R2,R3⟩:=HR.o
   exact hK (.pointer (some ⟨c,0,none⟩)) _ _ ⟨c,rfl⟩ Ac ⟨R1,R2,fun _=>u5.symm⟩ bM
  iterate 2
   ·go_simp
    first|exact hK _ _ _ rfl Ac HR.o aQ|exact hK undef _ _ Ac Ac HR.o aX|exact hK _ _ _ Ac Ac HR.o rfl|exact hK _ _ _ Ac Ac HR.o bO):p:=h
theorem fH{p:Prop}(h:p:=by
  repeat (first|exact Ap.nil|(refine Ap.cons ?_ ?_;rotate_left))
  all_goals
   rintro L U W hL hpre HR Hdep K hK
   obtain⟨mm,mv9,ha9,hk9,r1,r5⟩:=HR.o
   have a0:W.cell? (w0,0)=some (.slice A1 xs.length c1):=ha9.2.2.1
   have a1:W.cell? (w0,1)=some (.slice A2 ys.length c2):=ha9.2.2.2.1
   have f0:W.cell? (w5,0)=(f.tag:Int):=(hk9.cell B91.o B92.o B93.o).trans q90.o
   have f1:W.cell? (w5,1)=f.name:=(hk9.cell B91.o B92.o B93.o).trans q91.o
   have f2:W.cell? (w5,2)=some (.string ⟨(Be f.kind).toArray⟩):=(hk9.cell B91.o B92.o B93.o).trans q92.o
   have f3:W.cell? (w5,3)=f.given:=(hk9.cell B91.o B92.o B93.o).trans q93.o
   have g0:W.cell? (wr,0)=(g.tag:Int):=(hk9.cell B81.o B82.o B83.o).trans q80.o
   have g1:W.cell? (wr,1)=g.name:=(hk9.cell B81.o B82.o B83.o).trans q81.o
   have g2:W.cell? (wr,2)=some (.string ⟨(Be g.kind).toArray⟩):=(hk9.cell B81.o B82.o B83.o).trans q82.o
   have g3:W.cell? (wr,3)=g.given:=(hk9.cell B81.o B82.o B83.o).trans q83.o
   have s0:W.cell? (w,0)=some (.int .u8 (t.sort.toNat:Int)):=(hk9.cell B41.o B42.o B43.o).trans q40.o
   first|(simp[Region.binds]at hpre;done)|simp[Region.binds]at hpre|clear hpre
  iterate 5
   ·go_simp
    first|exact hK _ _ _ rfl Ac HR.o rfl|exact kF hK HR.o|exact hK undef _ _ Ac Ac HR.o aG|exact hK _ _ _ Ac Ac HR.o rfl|exact kF hK HR.o
  ·go_simp
   obtain⟨rfl,rfl⟩:=r5 hL
   refine(Hcall.o W ha9).mono ?_
   rintro e w5 ⟨rfl,mv5,ha5,hk5⟩
   exact hK _ _ _ rfl Ac ⟨_,mv5,ha5,hk9.trans hk5,fun _=>rfl,fun h=>by simp at h⟩ aG
  iterate 21
   ·go_simp
    first|exact hK _ _ _ rfl Ac HR.o rfl|exact kF hK HR.o|exact hK undef _ _ Ac Ac HR.o aG|exact hK _ _ _ Ac Ac HR.o rfl|exact kF hK HR.o):p:=h
theorem fI{p:Prop}(h:p:=by
  go_simp
  first|exact hK _ _ _ rfl Ac HR.o rfl|exact kF hK HR.o|exact hK undef _ _ Ac Ac HR.o aG):p:=h
theorem fJ{p:Prop}(h:p:=by
  repeat (first|exact Ap.nil|(refine Ap.cons ?_ ?_;rotate_left))
  all_goals
   rintro L U W hL hpre HR Hdep K hK
   first|(simp[Region.binds]at hpre;done)|simp[Region.binds]at hpre|clear hpre
  ·have h8:L 8=false:=Dn Hdep.o 8 0 rfl hL
   have hW:=HR.o.1 h8
   subst hW
   go_simp
   first|exact hK _ _ _ rfl Ac HR.o rfl|exact kF hK HR.o
  iterate 2
   ·go_simp
    first|exact hK _ _ _ rfl Ac HR.o rfl|exact kF hK HR.o|exact hK undef _ _ Ac Ac HR.o aG|exact hK _ _ _ Ac Ac HR.o rfl|exact kF hK HR.o
  ·go_simp
   rw[E2.o]
   first|exact hK _ _ _ rfl Ac HR.o rfl|exact kF hK HR.o
  iterate 4
   ·go_simp
    first|exact hK _ _ _ rfl Ac HR.o rfl|exact kF hK HR.o|exact hK undef _ _ Ac Ac HR.o aG|exact hK _ _ _ Ac Ac HR.o rfl|exact kF hK HR.o
  ·have hW:=HR.o.1 hL
   subst hW
   go_simp
   have HB6:=((((((Hb3.o.setCell (p:=⟨w.heap.size+1+1,0,none⟩) aL (n0:Int)).setCell (p:=⟨w.heap.size+1+1,1,none⟩) aL a).setCell (p:=⟨w.heap.size+1+1,2,none⟩) aL (.string ⟨b.toArray⟩)).setCell (p:=⟨w.heap.size+1+1,3,none⟩) aL c).alloc aL (.cells #[(n0:Int),a,.string ⟨b.toArray⟩,c] 177)).drew)
   refine hK undef _ _ Ac Ac ⟨fun h=>by simp at h,fun _=>⟨HB6,?_,?_,?_,?_⟩⟩ aG
   all_goals go_simp
  iterate 2
   ·go_simp
    first|exact hK _ _ _ rfl Ac HR.o rfl|exact kF hK HR.o|exact hK undef _ _ Ac Ac HR.o aG|exact hK _ _ _ Ac Ac HR.o rfl|exact kF hK HR.o):p:=h
theorem fK{p:Prop}(h:p:=by
  go_simp
  rw[if_neg bi]
  go_simp
  first|exact hK _ _ _ rfl Ac HR.o rfl|exact kF hK HR.o):p:=h
theorem fL{p:Prop}(h:p:=by exact Aj results192 _ _ w.heap.size [.int .i64 0,a6,a6,a6,a6,a6] _ _ rfl rfl HZ.o underlying107 rfl aJ):p:=h
theorem fM{p:Prop}(h:p:=by
  repeat (first|exact Ap.nil|(refine Ap.cons ?_ ?_;rotate_left))
  all_goals
   rintro L U W hL hpre HR Hdep K hK
   first|(simp[Region.binds]at hpre;done)|simp[Region.binds]at hpre|clear hpre
  iterate 3
   ·go_simp
    first|exact hK _ _ _ rfl Ac HR.o rfl|exact kF hK HR.o|exact hK undef _ _ Ac Ac HR.o aG|exact hK _ _ _ Ac Ac HR.o rfl|exact kF hK HR.o
  ·obtain⟨R1,R2,R3⟩:=HR.o
   have hB:=R1 hL
   have h10:L 8=false:=Dn Hdep.o 8 3 rfl hL
   go_simp
   exact hK W.heap.size _ _ ⟨_,rfl⟩ Ac ⟨fun h=>by simp at h,fun _=>⟨W,rfl,hB,rfl⟩,fun h=>absurd (h10.symm.trans aV) aI⟩ aG
  iterate 3
   ·go_simp
    first|exact hK _ _ _ rfl Ac HR.o rfl|exact kF hK HR.o|exact hK undef _ _ Ac Ac HR.o aG|exact hK _ _ _ Ac Ac HR.o rfl|exact kF hK HR.o
  ·go_simp
   rw[E2.o]
   first|exact hK _ _ _ rfl Ac HR.o rfl|exact kF hK HR.o
  ·obtain⟨R1,R2,R3⟩:=HR.o
   obtain⟨c,u5⟩:=hpre.1.2
   clear R1 R2 R3
   go_simp
   obtain⟨R1,R2,R3⟩:=HR.o
   exact hK (.pointer (some ⟨c,0,none⟩)) _ _ ⟨c,rfl⟩ Ac ⟨R1,R2,fun _=>u5.symm⟩ bM
  iterate 2
   ·go_simp
    first|exact hK _ _ _ rfl Ac HR.o rfl|exact kF hK HR.o|exact hK undef _ _ Ac Ac HR.o aG|exact hK _ _ _ Ac Ac HR.o rfl|exact kF hK HR.o):p:=h
theorem fN{p:Prop}(h:p:=by
  go_simp
  first|exact hK _ _ _ rfl Ac HR.o aQ|exact hK undef _ _ Ac Ac HR.o aX|exact hK _ _ _ Ac Ac HR.o rfl|exact hK _ _ _ Ac Ac HR.o bO):p:=h
theorem fO{p:Prop}(h:p:=by
  go_simp
  first|exact hK _ _ _ rfl Ac HR.o rfl|exact hK _ _ _ rfl Ac HR.o aZ|exact hK undef _ _ Ac Ac HR.o aZ|exact hK _ _ _ Ac Ac HR.o rfl|exact hK _ _ _ Ac Ac HR.o aZ):p:=h
theorem fP{p:Prop}(h:p:=by
  repeat (first|exact Ap.nil|(refine Ap.cons ?_ ?_;rotate_left))
  all_goals
   rintro L U W hL hpre ⟨q,rfl⟩ hun hdep K hK
   have hlq:=hlook q
   clear hun hdep
   first|(simp[Region.binds]at hpre;done)|simp[Region.binds]at hpre|clear hpre
   go_simp
   first|exact hK _ _ _ rfl Ac ⟨q,rfl⟩ rfl|exact hK _ _ _ rfl Ac ⟨q,rfl⟩ bR|exact hK undef _ _ Ac Ac ⟨q,rfl⟩ bR|exact hK _ _ _ Ac Ac ⟨q,rfl⟩ rfl|exact hK _ _ _ Ac Ac ⟨q,rfl⟩ bR):p:=h
theorem fQ{p:Prop}(h:p:=by
  obtain⟨R1,R2,R3⟩:=HR.o
  obtain⟨c,u5⟩:=hpre.1.2
  clear R1 R2 R3
  go_simp
  obtain⟨R1,R2,R3⟩:=HR.o
  exact hK (.pointer (some ⟨c,0,none⟩)) _ _ ⟨c,rfl⟩ Ac ⟨R1,R2,fun _=>u5.symm⟩ bM):p:=h
theorem fR{p:Prop}(h:p:=by
  have Hdec:=Aa (show decide (n<=200)=false by simp;omega)
  rw[Hdec.o]at Hpn
  go_wp2_with fail
  refine(Hpn.o _).mono ?_
  rintro e w3 ⟨rfl,rfl⟩
  go_wp2_with ((with_reducible refine Ad (op:=⟨none,.store 107 _ _,_,_,_,none⟩) rfl 107 _ _ rfl w 0 [.int .i64 0,a6,a6,a6,a6,a6] ?_ ?_ ?_ ?_ ?_ ?_);rfl;rfl;(first|exact ap HT.o _|exact HT.o);kernel_rfl;(simp[Value.oneCell']);intro w9 HS9)
  have HZ:=@Aa (w9.rangeAt w 0 [.int .i64 0,a6,a6,a6,a6,a6]) bh
  refine aD (v:=.tuple #[.agg ([.int .i64 0,a6,a6,a6,a6,a6]:List Value).toArray,.bool false]) ?_ rfl ?_
  ·exact Aj results192 _ _ w.heap.size [.int .i64 0,a6,a6,a6,a6,a6] _ _ rfl rfl HZ.o underlying107 rfl aJ
  exact Dv.no (Hno.o (fun m h=>by have h':=(Hhead.o m).1 h;have:=h'.1;cases this;omega)) rfl aT):p:=h
theorem fS{p:Prop}(h:p:=by
  subst h0
  go_wp2_with fail
  refine(Hpn.o _).mono ?_
  rintro e w3 ⟨rfl,rfl⟩
  go_wp2_with ((with_reducible refine Ad (op:=⟨none,.store 107 _ _,_,_,_,none⟩) rfl 107 _ _ rfl w 0 [.int .i64 0,a6,a6,a6,a6,a6] ?_ ?_ ?_ ?_ ?_ ?_);rfl;rfl;(first|exact ap HT.o _|exact HT.o);kernel_rfl;(simp[Value.oneCell']);intro w9 HS9)
  have HZ:=@Aa (w9.rangeAt w 0 [.int .i64 0,a6,a6,a6,a6,a6]) bh
  refine aD (v:=.tuple #[.agg ([.int .i64 0,a6,a6,a6,a6,a6]:List Value).toArray,.bool false]) ?_ rfl ?_
  ·exact Aj results192 _ _ w.heap.size [.int .i64 0,a6,a6,a6,a6,a6] _ _ rfl rfl HZ.o underlying107 rfl aJ
  exact Dv.no (Hno.o (fun m h=>by have h':=(Hhead.o m).1 h;have:=h'.1;cases this;omega)) rfl aT):p:=h
theorem fT{p:Prop}(h:p:=by
  repeat (first|exact Ap.nil|(refine Ap.cons ?_ ?_;rotate_left))
  all_goals
   rintro L u W hL hpre hR K hK
   first|(simp[Region.binds]at hpre;done)|simp[Region.binds]at hpre|clear hpre
   rcases hl:L 9 with _|_
   all_goals
    first|exact absurd (hl.symm.trans hL) aI|(
     rw[hl]at hR
     first|rw[if_neg aI]at hR|rw[if_pos rfl]at hR
     have hR':=hR.symm
     subst hR'
     go_simp
     try (go_at_call 107;refine(Hk.o _).mono ?_;rintro e w' ⟨rfl,rfl⟩)
     first|(refine hK _ _ _ rfl Ac bW rfl;done)|(refine hK _ _ _ rfl Ac bW aG;done)|(refine hK undef _ _ rfl Ac bW aG;done))):p:=h
theorem fU{p:Prop}(h:p:=by
  have h5:L 5=false:=Dn Hdep.o 5 4 rfl hL
  have h6:L 6=false:=Dn Hdep.o 6 5 rfl h5
  have h7:L 7=false:=Dn Hdep.o 7 5 rfl h5
  have h8:L 8=false:=Dn Hdep.o 8 5 rfl h5
  have h10:L 10=false:=Dn Hdep.o 10 6 rfl h6
  have h11:L 11=false:=Dn Hdep.o 11 7 rfl h7
  have h12:L 12=false:=Dn Hdep.o 12 8 rfl h8
  go_simp
  refine(HC.o _ HR.o.be).mono ?_
  rintro e w5 hp
  obtain⟨n,a,b,c,r,rfl,hF,hb⟩:=hp.q
  go_simp
  exact hK _ _ _ Ac Ac (HR.o.call h5 h6 h7 h8 h10 h11 h12 hF hb) aG):p:=h
theorem fV{p:Prop}(h:p:=by
  have hW:=HR.o.1 hL
  subst hW
  go_simp
  have HB6:=((((((Hb3.o.setCell (p:=⟨w.heap.size+1+1,0,none⟩) aL (n0:Int)).setCell (p:=⟨w.heap.size+1+1,1,none⟩) aL a).setCell (p:=⟨w.heap.size+1+1,2,none⟩) aL (.string ⟨b.toArray⟩)).setCell (p:=⟨w.heap.size+1+1,3,none⟩) aL c).alloc aL (.cells #[(n0:Int),a,.string ⟨b.toArray⟩,c] 177)).drew)
  refine hK undef _ _ Ac Ac ⟨fun h=>by simp at h,fun _=>⟨HB6,?_,?_,?_,?_⟩⟩ aG
  all_goals go_simp):p:=h
theorem fW{p:Prop}(h:p:=by
  repeat (first|exact Ap.nil|(refine Ap.cons ?_ ?_;rotate_left))
  all_goals
   rintro L U W hL hpre ⟨q,rfl⟩ hun hdep K hK
   have hlq:=hlook q
   clear hun hdep
   first|(simp[Region.binds]at hpre;done)|simp[Region.binds]at hpre|clear hpre
   go_simp
   first|exact hK _ _ _ rfl Ac ⟨q,rfl⟩ rfl|exact hK _ _ _ rfl Ac ⟨q,rfl⟩ aG|exact hK undef _ _ Ac Ac ⟨q,rfl⟩ aG|exact hK _ _ _ Ac Ac ⟨q,rfl⟩ rfl|exact hK _ _ _ Ac Ac ⟨q,rfl⟩ aG):p:=h
theorem fX{p:Prop}(h:p:=by
  have l9:L 9=true:=aO
  have l6:L 6=true:=aO
  have l5:L 5=true:=upE (Dn Hdep.o 6 5 rfl) l6
  have l4:L 4=true:=upE (Dn Hdep.o 5 4 rfl) l5
  obtain⟨n,a,b,c,r,_,_,_,k6,_⟩:=HR.o.yes l4
  obtain⟨B,k9,_⟩:=HR.o.al l9
  have u6:=k6 l6
  obtain⟨g1,g2⟩:=HR.o.store l9 u6 k9
  rw[if_pos d9]
  refine wp_store_mid 177 _ _ rfl B 0 ([(n:Int),a,b,c]:List Value).toArray k9 u6 g1 aJ bJ ?_
  exact hK undef _ _ Ac Ac g2 rfl):p:=h
theorem fY{p:Prop}(h:p:=by
  go_simp
  obtain⟨rfl,rfl⟩:=r5 hL
  refine(Hcall.o W ha9).mono ?_
  rintro e w5 ⟨rfl,mv5,ha5,hk5⟩
  exact hK _ _ _ rfl Ac ⟨_,mv5,ha5,hk9.trans hk5,fun _=>rfl,fun h=>by simp at h⟩ aG):p:=h
theorem fZ{p:Prop}(h:p:=by
  go_simp
  first|exact hK _ _ _ rfl Ac HR.o rfl|exact hK _ _ _ rfl Ac HR.o bG|exact hK undef _ _ Ac Ac HR.o bG|exact hK _ _ _ Ac Ac HR.o rfl|exact hK _ _ _ Ac Ac HR.o bG):p:=h
theorem g7{p:Prop}(h:p:=by
  go_simp
  rw[E2.o]
  first|exact hK _ _ _ rfl Ac HR.o rfl|exact kF hK HR.o):p:=h
theorem g8{p:Prop}(h:p:=by exact Jx results126 _ _ w.heap.size (w.heap.size+1) [a6,a6,a6] [a6,a6,a6] _ _ _ rfl rfl rfl rfl HZ1.o HZ2.o underlying67 rfl aJ aJ):p:=h
theorem ga{p:Prop}(h:p:=by
  obtain⟨R1,R2,R3⟩:=HR.o
  have hB:=R1 hL
  have h10:L 13=false:=Dn Hdep.o 13 5 rfl hL
  go_simp
  exact hK W.heap.size _ _ ⟨_,rfl⟩ Ac ⟨fun h=>by simp at h,fun _=>⟨W,rfl,hB,rfl⟩,fun h=>absurd (h10.symm.trans aV) aI⟩ aG):p:=h
theorem gb{p:Prop}(h:p:=by
  obtain⟨R1,R2,R3⟩:=HR.o
  have hB:=R1 hL
  have h10:L 8=false:=Dn Hdep.o 8 3 rfl hL
  go_simp
  exact hK W.heap.size _ _ ⟨_,rfl⟩ Ac ⟨fun h=>by simp at h,fun _=>⟨W,rfl,hB,rfl⟩,fun h=>absurd (h10.symm.trans aV) aI⟩ aG):p:=h
theorem gc{p:Prop}(h:p:=by
  go_simp
  refine(Hd.o W).mono ?_
  rintro e w3 ⟨rfl,hb3⟩
  exact hK _ _ _ rfl Ac (hB.trans (hb3.mono hB.size)) aG):p:=h
theorem gd{p:Prop}(h:p:=by
  have l5:L 5=true:=aO
  have l4:L 4=true:=upE (Dn Hdep.o 5 4 rfl) l5
  obtain⟨n,a,b,c,r,u5,g0,g1,g2⟩:=HR.o.get l4 l5 (fun h=>Dn Hdep.o 10 6 rfl h)
  simp only[u5]
  go_simp
  exact hK _ _ _ Ac Ac (g0 hL) bM):p:=h
theorem ge{p:Prop}(h:p:=by
  have l5:L 5=true:=aO
  have l4:L 4=true:=upE (Dn Hdep.o 5 4 rfl) l5
  obtain⟨n,a,b,c,r,u5,g0,g1,g2⟩:=HR.o.get l4 l5 (fun h=>Dn Hdep.o 10 6 rfl h)
  simp only[u5]
  go_simp
  exact hK _ _ _ Ac Ac (g1) bM):p:=h
theorem gf{p:Prop}(h:p:=by
  have l5:L 5=true:=aO
  have l4:L 4=true:=upE (Dn Hdep.o 5 4 rfl) l5
  obtain⟨n,a,b,c,r,u5,g0,g1,g2⟩:=HR.o.get l4 l5 (fun h=>Dn Hdep.o 10 6 rfl h)
  simp only[u5]
  go_simp
  exact hK _ _ _ Ac Ac (g2) bM):p:=h
theorem gg{p:Prop}(h:p:=by
  have h20:L 20=false:=Hdep.o 20 _ rfl {on:=0,ground:=Ground.phase} aH d9 hL
  have u20:U 20=acc:=(Hun.o 20 h20).trans rfl
  go_simp
  exact hK acc _ _ rfl Ac HR.o (by simp[Act.put,u20])):p:=h
theorem gh{p:Prop}(h:p:=by
  go_simp
  obtain rfl:=r6 hL
  refine(Hcall.o W ha9).mono ?_
  rintro e w5 ⟨rfl,ha5,hk5⟩
  exact hK _ _ _ rfl Ac ⟨_,ha5,hk9.trans hk5,fun _=>rfl,fun h=>by simp at h⟩ aG):p:=h
theorem gi{p:Prop}(h:p:=by
  have h8:L 8=false:=Dn Hdep.o 8 0 rfl hL
  have hW:=HR.o.1 h8
  subst hW
  go_simp
  first|exact hK _ _ _ rfl Ac HR.o rfl|exact kF hK HR.o):p:=h
theorem gj{p:Prop}(h:p:=by
  intro j y hj
  have e1:(⟨W.heap.size,0,none⟩:Addr).add j=⟨W.heap.size,j,none⟩:=bn
  rw[e1,World.cell?_alloc_new]
  simpa using hj):p:=h
theorem gk{p:Prop}(h:p:=by
  go_simp
  refine(Ih2.o _ (Hsc0.o.below hB)).mono ?_
  rintro e w3 ⟨rfl,hb3⟩
  exact hK _ _ _ rfl Ac (hB.trans (hb3.mono hB.size)) aG):p:=h
theorem gn{p:Prop}(h:p:=by
  go_simp
  rw[E1.o]
  exact hK _ _ _ rfl Ac HR.o aQ):p:=h
theorem gp{p:Prop}(h:p:=by
  have h10:L 10=false:=Dn Hdep.o 10 9 rfl hL
  go_simp
  exact hK (.pointer (some ⟨W.heap.size,0,none⟩)) _ _ Ac Ac (HR.o.alloc h10 _) aG):p:=h
theorem gq{p:Prop}(h:p:=by
  have e:=N4 S 0 u a.tmps.toList i s v hn hsi
  rw[aj]at e
  unfold Bp Act.put
  rw[hd]
  simp only[<-e]
  congr 1
  simp):p:=h
theorem gu{p:Prop}(h:p:=by
  go_simp
  refine(HX.o W hBw).mono ?_
  rintro e w3 ⟨rfl,hb3⟩
  exact hK _ _ _ rfl Ac (hB.trans (hb3.mono hB.size)) aG):p:=h
theorem gw{p:Prop}(h:p:=by
  go_simp
  refine(Hd.o _).mono ?_
  rintro e w3 ⟨rfl,hb3⟩
  exact hK _ _ _ rfl Ac (hB.trans (hb3.mono hB.size)) aG):p:=h
theorem gx{p:Prop}(h:p:=by have:=hc 1 _ rfl;simpa [Nat.add_assoc]using this):p:=h
theorem gy{p:Prop}(h:p:=by
  go_simp
  refine(Hn.o _).mono ?_
  rintro e wz ⟨rfl,rfl⟩
  go_simp
  exact hK _ _ _ rfl Ac HR.o aQ):p:=h
theorem gz{p:Prop}(h:p:=by exact⟨r2.os,r2.tape,r2.output,aa aH r2.size,fun k hk hne=>(r2.block k aL hne).trans (heap_alloc_old W _ hk)⟩):p:=h
theorem gA{p:Prop}(h:p:=by
  go_wp2_with fail
  go_ret
  exact⟨-1,rfl,by omega,by omega,fun h=>by omega,(Ar _ _).alloc (Am _) _⟩):p:=h
theorem gB{p:Prop}(h:p:=by exact Aj results192 _ _ w.heap.size [(n:Int),b,k.signs,k.base,k.name,vl] _ _ rfl rfl HZ.o underlying107 rfl aJ):p:=h
theorem gC{p:Prop}(h:p:=by
  go_simp
  exact hK _ _ _ rfl Ac hR aG):p:=h
theorem gD{p:Prop}(h:p:=by
  go_simp
  rw[if_pos aF]
  go_simp
  first|exact hK _ _ _ rfl Ac HR.o rfl|exact kF hK HR.o):p:=h
theorem gE{p:Prop}(h:p:=by
  go_wp2_with fail
  go_ret
  exact⟨-1,rfl,by omega,by omega,fun h=>by omega,Hb1.o⟩):p:=h
theorem gF{p:Prop}(h:p:=by
  go_simp
  rw[if_pos aF]
  go_simp
  exact hK (z:List UInt8) _ _ rfl Ac HR.o aG):p:=h
theorem gG{p:Prop}(h:p:=by have:=hc 2 _ rfl;simpa [Nat.add_assoc]using this):p:=h
theorem gH{p:Prop}(h:p:=by
  go_enter func245,ntmps245
  go_wp2_with fail
  go_ret
  exact⟨rfl,rfl⟩):p:=h
theorem gI{p:Prop}(h:p:=by
  have:=hac' i o ho e he hb
  have:=(Array.getElem?_eq_some_iff.1 ho).1
  omega):p:=h
theorem gJ{p:Prop}(h:p:=by
  go_simp
  rw[Htk.o]
  first|exact hK _ _ _ rfl Ac HR.o rfl|exact kF hK HR.o):p:=h
theorem gK{p:Prop}(h:p:=by
  have l4:L 4=true:=aO
  go_simp
  exact hK (U 4) _ _ Ac Ac (HR.o.move l4) aG):p:=h
theorem gL{p:Prop}(h:p:=by have:=hc 0 _ rfl;simpa using this):p:=h
theorem gM{p:Prop}(h:p:=by
  have l7:L 7=true:=aO
  go_simp
  exact hK (U 7) _ _ Ac Ac (HR.o.as1 l7) aG):p:=h
theorem gN{p:Prop}(h:p:=by
  have l8:L 8=true:=aO
  go_simp
  exact hK (U 8) _ _ Ac Ac (HR.o.as2 l8) aG):p:=h
theorem gO{p:Prop}(h:p:=by
  have:(W.alloc (.cells us.toArray e)).heap.size=W.heap.size+1:=aH
  omega):p:=h
theorem gP{p:Prop}(h:p:=by
  go_wp2_with fail
  go_ret
  exact⟨by rw[HE.o,HZ.o];simp,Hbr.o⟩):p:=h
theorem gQ{p:Prop}(h:p:=by
  rw[if_pos h]
  simp at h
  have:¬t.length<12:=aF
  simp[this]):p:=h
theorem gR{p:Prop}(h:p:=by
  go_simp
  exact hK _ _ _ rfl Ac hR rfl):p:=h
theorem gS{p:Prop}(h:p:=by exact(D4 (El tg)).2.2.1):p:=h
theorem gT{p:Prop}(h:p:=by
  go_simp
  first|exact hK _ _ _ rfl Ac HR.o rfl|exact kF hK HR.o):p:=h
theorem gU{p:Prop}(h:p:=by
  unfold Bp
  rw[Ng S 0 _ _ fun k s hk=>by simp[List.getD,hk]]):p:=h
theorem gV{p:Prop}(h:p:=by
  go_simp
  rw[E2.o]
  exact hK _ _ _ rfl Ac HR.o aQ):p:=h
theorem gW{p:Prop}(h:p:=by
  rw[o2]at HQ
  subst o1
  exact Bj.no HQ rfl Hb7):p:=h
theorem gX{p:Prop}(h:p:=by exact⟨b,off,e,a8 hlt hb.size,fun j u hu=>(hb.cell (p:=⟨b,off+j,none⟩) hlt).trans (hc j u hu)⟩):p:=h
theorem gY{p:Prop}(h:p:=by obtain⟨A,c,e,hl,hr⟩:=h;exact⟨A,c,e,hl,hr.below hb⟩):p:=h
theorem gZ{p:Prop}(h:p:=by go_ret;exact⟨rfl,rfl⟩):p:=h
theorem hC{p:Prop}(h:p:=by go_ret;exact⟨Ec (Cn Hf.o.symm),rfl⟩):p:=h
theorem hD{p:Prop}(h:p:=by rw[show c::(u++[d])=(c::u)++[d]from rfl,List.getLast?_append];rfl):p:=h
theorem hH{p:Prop}(h:p:=by exact⟨rfl,rfl⟩):p:=h
theorem hJ{p:Prop}(h:p:=by go_ret;exact⟨Ec (Cn eI),hb⟩):p:=h
theorem hM{p:Prop}(h:p:=by go_ret;exact⟨Ec (Cn Hn.o.symm),Ar _ _⟩):p:=h
theorem hO{p:Prop}(h:p:=by have h1:=Tc (s.take k).length (s.take k) rfl h;have h2:10 ^ (s.take k).length<=10 ^ 6:=Nat.pow_le_pow_right aF aL;have e6:10 ^ 6=1000000:=rfl;omega):p:=h
theorem hY{p:Prop}(h:p:=by exact⟨by rw[Hn.o];rfl,rfl⟩):p:=h
theorem hZ{p:Prop}(h:p:=by go_ret;exact⟨by rw[Hfin.o];rfl,(Ar _ _).alloc (Am _) _⟩):p:=h
theorem i6{p:Prop}(h:p:=by exact⟨rfl,Ar _ _⟩):p:=h
theorem i7{p:Prop}(h:p:=by rw[Dm aF,Int.tmod_eq_emod_of_nonneg aF,IntWalk.i64_in _ aF,IntWalk.u8_in _ aF];omega):p:=h
theorem i8{p:Prop}(h:p:=by exact⟨0,by omega,by rw[Hn.o];rfl,(fun m h=>by rw[Hno.o]at h;cases h),Ar _ _⟩):p:=h
theorem i9{p:Prop}(h:p:=by go_ret;exact⟨Ec (Cn (by rw[<-Hv.o,Ho.o];rfl)),Hb.o⟩):p:=h
theorem ia{p:Prop}(h:p:=by go_ret;exact⟨Ec (Cn (by rw[Hv.o,Ho.o,Hq.o];rfl)),Ar _ _⟩):p:=h
theorem ib{p:Prop}(h:p:=by exact Cp.no Hno.o rfl ((((Hb.o.setCell (Am _) _).setCell (Am _) _).setCell (Am _) _).setCell (Am _) _)):p:=h
theorem ic{p:Prop}(h:p:=by exact Cp.no HF.o rfl aP):p:=h
theorem ie{p:Prop}(h:p:=by exact hdone l u w hl (fun i hi=>hφ i (hl i hi) hi) hR):p:=h
theorem ig{p:Prop}(h:p:=by exact Df.no HF.o rfl aM):p:=h
theorem ii{p:Prop}(h:p:=by have h2:=Hsl.o;omega):p:=h
theorem ij{p:Prop}(h:p:=by have h1:k≠(c::nm).length:=fun e=>hne (hiff.2 e);have h2:=Hsl.o;omega):p:=h
theorem ik{p:Prop}(h:p:=by exact(((hR.1.setCell hl8 _).setCell hl8 _).setCell hl8 _).setCell hl8 _):p:=h
theorem il{p:Prop}(h:p:=by exact⟨by rw[Hfin.o];rfl,(Ar _ _).alloc (Am _) _⟩):p:=h
theorem im{p:Prop}(h:p:=by exact⟨by rw[Hr.o];rfl,((Hb.o.setCell (Am _) _).setCell (Am _) _).setCell (Am _) _⟩):p:=h
theorem io{p:Prop}(h:p:=by go_ret;exact⟨by rw[Hend.o];first|rfl|trivial,hb.o⟩):p:=h
theorem ip{p:Prop}(h:p:=by exact Dv.no (Hno.o (fun n h=>by have:=((Hhead.o n).1 h).1;cases this)) rfl aT):p:=h
theorem iq{p:Prop}(h:p:=by exact Dv.no (Hno.o (fun m h=>by have:=((Hhead.o m).1 h).2.2.2;cases this)) rfl bq):p:=h
theorem ir{p:Prop}(h:p:=by rw[Md _ _ k hs (Mt hk hs hb).2];exact Pb xv xs k w hsc hk hs hb):p:=h
theorem iu{p:Prop}(h:p:=by have hkf:Cs f.kind:=((hto.2.2.1.1 f cz).2.2.2.2 dl).1;exact ih aF f.kind W hW hkf hrf (Sg he hs hb hft h85 hfs hrf)):p:=h
theorem iv{p:Prop}(h:p:=by rw[hq]at hr;injection hr with e1 _;subst e1;exact .inr ⟨_,rfl,Am _⟩):p:=h
theorem iw{p:Prop}(h:p:=by rw[Jn]at this;rw[if_pos h];exact⟨by simpa [h]using this,fun x hx=>⟨h,hx⟩⟩):p:=h
theorem iy{p:Prop}(h:p:=by go_ret;rw[HF2.o];exact⟨rfl,_,Hst4.o.below ((Ar _ _).alloc (Am _) _),Hk4.o.trans (D9.of_below ((Ar _ _).alloc (Am _) _))⟩):p:=h
theorem iz{p:Prop}(h:p:=by obtain rfl:=R1 h6;go_simp;first|exact hK _ _ _ rfl Ac HR.o rfl|exact kF hK HR.o):p:=h
theorem iA{p:Prop}(h:p:=by go_simp;first|exact hK _ _ _ rfl Ac HR.o rfl|exact kF hK HR.o):p:=h
theorem iB{p:Prop}(h:p:=by exact hK _ _ _ rfl Ac ⟨mm,mv9,ha9.below hb5,hk9.trans (D9.of_below hb5),r1,r5⟩ aG):p:=h
theorem iC{p:Prop}(h:p:=by exact Gt.of (b:=true) (HF.o.trans Hr.o) rfl rfl (Hs2.o.below ((Ar _ _).alloc (Am _) _)) aU):p:=h
theorem iD{p:Prop}(h:p:=by have h1:=hS.1.2.1;have h2:=hT.1.2.1;exact aa (Nat.mul_le_mul h1 h2) aI):p:=h
theorem iE{p:Prop}(h:p:=by exact⟨_,_,rfl,Hb2.o,⟨_,_,_,rfl⟩,⟨_,_,_,rfl⟩,Ac⟩):p:=h
theorem iF{p:Prop}(h:p:=by go_ret;exact⟨rfl,Hb1.o⟩):p:=h
theorem iG{p:Prop}(h:p:=by exact hK _ _ _ rfl Ac (hB.trans (hb5.mono hB.size)) aG):p:=h
theorem iH{p:Prop}(h:p:=by go_ret;exact⟨rfl,(Ar _ _).alloc (Am _) _⟩):p:=h
theorem iI{p:Prop}(h:p:=by go_ret;exact⟨Ec (Cn Hend.o.symm),hbr.o.alloc hzw _⟩):p:=h
theorem iJ{p:Prop}(h:p:=by exact Gf.no Hend.o rfl (below_drewN (hbr.o.trans (Hbo.o.mono aF)) _)):p:=h
theorem iK{p:Prop}(h:p:=by go_simp;first|exact hK _ _ _ rfl Ac ⟨q,fun _=>rfl,Hq2.o⟩ rfl|exact hK _ _ _ rfl Ac ⟨q,fun _=>rfl,Hq2.o⟩ aG):p:=h
theorem iL{p:Prop}(h:p:=by exact hK undef _ _ Ac Ac ⟨Ag _ (Am _) _ _ _ r1,by rw[Bw];exact r2,ag r3 _ _ _,ai r4 _ _ _ (.inl (show w2.heap.size≠w.heap.size by omega)),r5.far (Cz _ _ _ W) aF,fun _=>a7 _ _ _ _ r3⟩ rfl):p:=h
theorem iM{p:Prop}(h:p:=by go_ret;exact⟨rfl,((Ar _ _).alloc (Am _) _).trans (hb1.mono aH)⟩):p:=h
theorem iN{p:Prop}(h:p:=by go_ret;rw[HF1.o];exact⟨rfl,Hst.o.below (((Ar _ _).alloc (Am _) _).alloc aH _),Ca (((Ar _ _).alloc (Am _) _).alloc aH _) _⟩):p:=h
theorem iO{p:Prop}(h:p:=by obtain⟨q,rfl⟩:=R1 h5;go_simp;first|exact hK _ _ _ rfl Ac HR.o rfl|exact kF hK HR.o):p:=h
theorem iP{p:Prop}(h:p:=by exact hK _ _ _ rfl Ac (HR.o.trans (hb5.mono HR.o.size)) aG):p:=h
theorem iQ{p:Prop}(h:p:=by exact⟨none,_,_,_,_,_,_,by rw[Hev.o],Hb9.o,fun h=>by rw[Hev.o]at h;cases h⟩):p:=h
theorem iR{p:Prop}(h:p:=by have:∀a b,Ef a<=Ef (a++b):=fun a b=>eV;exact this _ _):p:=h
theorem iS{p:Prop}(h:p:=by go_ret;exact⟨rfl,Hb2.o⟩):p:=h
theorem iT{p:Prop}(h:p:=by go_ret;exact⟨rfl,Hb3.o⟩):p:=h
theorem iU{p:Prop}(h:p:=by rw[Lib.cell_of_heap this];rfl):p:=h
theorem iV{p:Prop}(h:p:=by go_ret;exact⟨by rw[HF.o];simp,by rw[HB0.o];exact Hb4.o⟩):p:=h
theorem iW{p:Prop}(h:p:=by go_ret;exact⟨by rw[HF.o];rfl,by rw[HB0.o];exact Hb4.o⟩):p:=h
theorem iX{p:Prop}(h:p:=by first|exact hK _ _ _ rfl Ac HR.o rfl|exact kF hK HR.o):p:=h
theorem iY{p:Prop}(h:p:=by exact Fx.leaf (P:=fun c=>w.heap.size<=c) aF):p:=h
theorem iZ{p:Prop}(h:p:=by rw[Qad,hkd,<-o3];exact Fx.leaf (P:=fun c=>w.heap.size<=c) aF):p:=h
theorem j0{p:Prop}(h:p:=by rw[Zk,hkd];exact Fx.leaf (P:=fun c=>w.heap.size<=c) aF):p:=h
theorem j4{p:Prop}(h:p:=by have hB:=h.hB;exact⟨by simpa using h.lt,by simpa using h.bs,h.hB,h.bk.set _,by simp[go_sem,h.c0],by simp[go_sem,h.c1],by simp[go_sem,h.c2],by simp[go_sem,h.c3],h.tags.kept hg (Tb (fun k hk=>(h.tags.lt k hk).1) h.hB),h.row.kept hg (Tb (fun k hk=>(h.row.lt k hk).1) h.hB),fun x hx=>(h.kids x hx).grown hg fun c hc e=>by injection e with e;omega⟩):p:=h
theorem j5{p:Prop}(h:p:=by rw[e];intro e;injection e with e;omega):p:=h
theorem j6{p:Prop}(h:p:=by exact Bj.no HN.o rfl ((Ar _ _).alloc (Am _) _)):p:=h
theorem j7{p:Prop}(h:p:=by exact⟨B,e1,e2,a8 e3 hb.size,(hc _ _ e3).trans e4⟩):p:=h
theorem j8{p:Prop}(h:p:=by exact⟨_,rfl,.inl ⟨rfl,HN.o⟩⟩):p:=h
theorem j9{p:Prop}(h:p:=by exact⟨HX,.inl ⟨rfl,HN.o⟩⟩):p:=h
theorem ja{p:Prop}(h:p:=by have h:=Gc (.slice A xs.length c) xs k W' (hsc.below hW') hk;rw[hrf,hx]at h;exact h):p:=h
theorem jb{p:Prop}(h:p:=by exact aD (v:=.agg (Gv (.mk 91 [] 0 (Av ys)) (.slice A ys.length c)).toArray) (Ax results155 _ _ (w.heap.size+1) _ _ rfl Z.2 underlying75 rfl aJ) rfl Z.1):p:=h
theorem jc{p:Prop}(h:p:=by exact aD (v:=.agg (Gv (.mk 91 [] 0 (Av ys)) (.slice A5 ys.length c5)).toArray) (Ax results155 _ _ (w.heap.size+1) _ _ rfl Z.2 underlying75 rfl aJ) rfl Z.1):p:=h
theorem jd{p:Prop}(h:p:=by go_simp;exact hK undef _ _ Ac Ac (by simpa using hst) aG):p:=h
theorem je{p:Prop}(h:p:=by exact G6.no HN.o rfl bD):p:=h
theorem jf{p:Prop}(h:p:=by exact G6.yes (HA.o.trans (congrArg some Hxv.o)) rfl bD):p:=h
theorem jg{p:Prop}(h:p:=by exact⟨rfl,Hb3.o⟩):p:=h
end Go.Proofs.YtgfmljfjgohdcaaGreatDoor
