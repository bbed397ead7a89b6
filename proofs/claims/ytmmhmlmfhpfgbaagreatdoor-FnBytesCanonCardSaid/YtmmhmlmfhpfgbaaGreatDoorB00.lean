/- What the other texts share. Conditions: as each theorem names them. -/
import Derived.Test.YtmmhmlmfhpfgbaaGreatDoorProg
import Derived.WalkKit
import Derived.WalkSmall
import Derived.WalkSpells
import Derived.WalkLawsBesides
import Derived.Below
import Derived.Lib.Hide
import Derived.Lib.BufferRead
import Derived.Laws.BytesArg
import Derived.Deep.MidRow
set_option maxRecDepth 100000
set_option maxHeartbeats 32000000
set_option linter.unusedVariables false
set_option linter.unusedSimpArgs false
namespace Go.Proofs.YtmmhmlmfhpfgbaaGreatDoor
open Go.RowKit Go.Proofs.Tryz
theorem kF {φ R : Value → World → Prop} {f : Value → Act} {K : Act → World → Prop} (hK : ∀ v w' a', φ v w' → True → R v w' → a' = f v → K a' w') {v : Value} {w' : World} {a' : Act} (h : R v w') (h1 : φ v w' := by first | exact rfl | exact True.intro) (h2 : a' = f v := by first | exact rfl | (simp [Act.put, hpre]; done) | (simp [Act.put, hpre]; exact rfl)) (h3 : v = v := by first | exact @rfl _ undef | exact rfl) : K a' w' := hK v w' a' h1 True.intro h h2
instance:Coe (List UInt8) Value:=⟨fun l=>.string ⟨l.toArray⟩⟩
instance:Coe Int Value:=⟨fun l=>.int .i64 l⟩
instance:Coe Nat Value:=⟨fun b=>.pointer (some ⟨b,0,none⟩)⟩
instance:Coe World Nat:=⟨fun w=>w.heap.size⟩
instance(b i:Nat):CoeDep (Nat×Nat) (b,i) Addr:=⟨⟨b,i,none⟩⟩
instance(b i:Nat):CoeDep (Nat×Nat) (b,i) (Option Addr):=⟨some ⟨b,i,none⟩⟩
instance(b i:Nat):CoeDep (Nat×Nat) (b,i) Value:=⟨.pointer (some ⟨b,i,none⟩)⟩
instance(b i:Nat):CoeDep (Nat×Nat) (b,i) (Option Value):=⟨some (.pointer (some ⟨b,i,none⟩))⟩
instance(b:World)(i:Nat):CoeDep (World×Nat) (b,i) Addr:=⟨⟨b.heap.size,i,none⟩⟩
instance(b:World)(i:Nat):CoeDep (World×Nat) (b,i) (Option Addr):=⟨some ⟨b.heap.size,i,none⟩⟩
instance(b:World)(i:Nat):CoeDep (World×Nat) (b,i) Value:=⟨.pointer (some ⟨b.heap.size,i,none⟩)⟩
instance(b:World)(i:Nat):CoeDep (World×Nat) (b,i) (Option Value):=⟨some (.pointer (some ⟨b.heap.size,i,none⟩))⟩
instance(b:World)(n i:Nat):CoeDep (World×Nat×Nat) (b,n,i) Addr:=⟨⟨b.heap.size+n,i,none⟩⟩
instance(b:World)(n i:Nat):CoeDep (World×Nat×Nat) (b,n,i) (Option Addr):=⟨some ⟨b.heap.size+n,i,none⟩⟩
instance(b:World)(n i:Nat):CoeDep (World×Nat×Nat) (b,n,i) Value:=⟨.pointer (some ⟨b.heap.size+n,i,none⟩)⟩
instance(b:World)(n i:Nat):CoeDep (World×Nat×Nat) (b,n,i) (Option Value):=⟨some (.pointer (some ⟨b.heap.size+n,i,none⟩))⟩
inductive Ea0|z
def a6:Ea0:=.z
instance:Coe Ea0 Value:=⟨fun _=>.string ⟨#[]⟩⟩
theorem aa:type_of% @World.rangeAt_setCells_same:=@World.rangeAt_setCells_same
theorem ac:type_of% @Nat.lt_of_lt_of_le:=@Nat.lt_of_lt_of_le
theorem ad:type_of% @Nat.le_trans:=@Nat.le_trans
theorem ae:type_of% @List.getElem_mem:=@List.getElem_mem
theorem af:type_of% @List.mem_append:=@List.mem_append
theorem ag:type_of% @Nat.zero_le:=@Nat.zero_le
theorem ah:type_of% @List.length_append:=@List.length_append
theorem ai:type_of% @World.there_setCells:=@World.there_setCells
theorem aj:type_of% @Option.some.injEq:=@Option.some.injEq
theorem ak:type_of% @World.rangeAt_setCells_apart:=@World.rangeAt_setCells_apart
theorem am:type_of% @Nat.zero_add:=@Nat.zero_add
theorem an:type_of% @Bool.false_eq_true:=@Bool.false_eq_true
theorem aq:type_of% @List.mem_map_of_mem:=@List.mem_map_of_mem
theorem ar:type_of% @List.mem_singleton:=@List.mem_singleton
theorem au:type_of% @World.there_alloc:=@World.there_alloc
theorem av:type_of% @List.take_of_length_le:=@List.take_of_length_le
theorem aw:type_of% @List.cons_append:=@List.cons_append
theorem ax:type_of% @Bool.and_eq_true:=@Bool.and_eq_true
theorem ay:type_of% @List.mem_map:=@List.mem_map
theorem az:type_of% @List.map_cons:=@List.map_cons
theorem aA:type_of% @List.map_append:=@List.map_append
theorem aB:type_of% @List.mem_cons:=@List.mem_cons
theorem aC:type_of% @World.cell?_drew:=@World.cell?_drew
theorem aD:type_of% @decide_eq_false:=@decide_eq_false
theorem aE:type_of% @decide_eq_true:=@decide_eq_true
theorem aF:type_of% @Prod.mk.injEq:=@Prod.mk.injEq
theorem aG:type_of% @bodyPost_ret:=@bodyPost_ret
theorem aH:type_of% @Nat.lt_or_ge:=@Nat.lt_or_ge
theorem aI{p:Prop}(h:p:=by omega):p:=h
theorem aJ{p:Prop}(h:p:=by simp[Act.put,hpre]):p:=h
theorem aK{p:Prop}(h:p:=by simp):p:=h
theorem aL{p:Prop}(h:p:=by decide):p:=h
theorem aM{p:Prop}(h:p:=by first|exact Al _|(simp;omega)|omega):p:=h
theorem aN{p:Prop}(h:p:=by kernel_rfl):p:=h
theorem aO{p:Prop}(h:p:=by simp;omega):p:=h
theorem aP{p:Prop}(h:p:=by (repeat (first|exact Aq _ _|refine Below.setCell ?_ (by first|exact Al _|(simp;done)|(simp;omega)|omega) _|refine Below.alloc ?_ (by first|exact Al _|(simp;done)|(simp;omega)|omega) _|refine Below.drew ?_|refine below_drewN ?_ _))):p:=h
theorem aQ{p:Prop}(h:p:=by first|exact hpre|exact hpre.1|exact hpre.2|exact hpre.2.1|exact hpre.1.1|exact hpre.2.2.1):p:=h
theorem aR{p:Prop}(h:p:=by first|exact Al _|(simp;done)|(simp;omega)|omega):p:=h
theorem aS{p:Prop}(h:p:=by (repeat (first|exact Hb2.o|refine Below.setCell ?_ (by first|exact Al _|(simp;omega)|omega) _|refine Below.alloc ?_ (by first|exact Al _|(simp;omega)|omega) _|refine Below.drew ?_))):p:=h
theorem aT{p:Prop}(h:p:=by first|rfl|(simp[Act.put,hpre];done)|(simp[Act.put,hpre];omega)):p:=h
theorem aU{p:Prop}(h:p:=by simpa using h):p:=h
theorem aV{p:Prop}(h:p:=by (repeat (first|exact Hb.o|refine Below.setCell ?_ (by first|exact Al _|(simp;omega)|omega) _|refine Below.alloc ?_ (by first|exact Al _|(simp;omega)|omega) _|refine Below.drew ?_))):p:=h
theorem aW{p:Prop}(h:p:=by (repeat (first|exact Hb4.o|refine Below.setCell ?_ (by first|exact Al _|exact Hb4.o.size|(simp;done)|(simp;omega)|omega) _|refine Below.alloc ?_ (by first|exact Al _|exact Hb4.o.size|(simp;done)|(simp;omega)|omega) _|refine Below.drew ?_))):p:=h
theorem aX{p:Prop}(h:p:=by rw[HS9.o];refine Ak _ (Al _) _ _ _ ?_;first|with_reducible exact Hb.o|exact Hb.o.alloc Hb.o.size _):p:=h
theorem aY{p:Prop}(h:p:=by (repeat (first|exact Hb2.o|refine Below.setCell ?_ (by first|exact Al _|exact Hb2.o.size|(simp;done)|(simp;omega)|omega) _|refine Below.alloc ?_ (by first|exact Al _|exact Hb2.o.size|(simp;done)|(simp;omega)|omega) _))):p:=h
theorem aZ{p:Prop}(h:p:=by (repeat (first|exact Hb5.o|refine Below.setCell ?_ (by first|exact Al _|(simp;omega)|omega) _|refine Below.alloc ?_ (by first|exact Al _|(simp;omega)|omega) _|refine Below.drew ?_))):p:=h
theorem ba{p:Prop}(h:p:=by first|(simp[Act.put,hpre];done)|(simp[Act.put,hpre];omega)):p:=h
theorem bc{p:Prop}(h:p:=by unfold maxLen;omega):p:=h
theorem bg{p:Prop}(h:p:=by (repeat (first|exact HbW.o|refine Below.setCell ?_ (by first|exact Al _|(simp;done)|(simp;omega)|omega) _|refine Below.alloc ?_ (by first|exact Al _|(simp;done)|(simp;omega)|omega) _|refine Below.drew ?_|refine below_drewN ?_ _))):p:=h
theorem bh{p:Prop}(h:p:=by first|exact Al _|exact Hb2.o.size|(simp;done)|(simp;omega)|omega):p:=h
theorem bi{p:Prop}(h:p:=by first|exact Al _|exact Hb4.o.size|(simp;done)|(simp;omega)|omega):p:=h
theorem bj{p:Prop}(h:p:=by rw[HS9.o];exact aa _ _ _ _ (by first|exact au HT.o _|exact HT.o)):p:=h
theorem bn{p:Prop}(h:p:=by first|omega|(simp;omega)):p:=h
theorem bp{p:Prop}(h:p:=by rw[hp];simp):p:=h
theorem bq{p:Prop}(h:p:=by unfold Addr.add;split<;>simp_all):p:=h
theorem br{p:Prop}(h:p:=by have:=Hsl.o;simp at this;omega):p:=h
theorem bu{p:Prop}(h:p:=by rw[hfz4 w.heap.size j (by simp;omega)];simp[go_sem,hfz2,hfz,hzz,hz3]):p:=h
theorem bw{p:Prop}(h:p:=by rw[HS9.o];refine Ak _ (Al _) _ _ _ ?_;first|with_reducible exact Hb4.o|exact Hb4.o.alloc Hb4.o.size _):p:=h
theorem bB{p:Prop}(h:p:=by rw[HS9.o];refine Ak _ (Al _) _ _ _ ?_;first|with_reducible exact Hb6.o|exact Hb6.o.alloc Hb6.o.size _):p:=h
theorem bC{p:Prop}(h:p:=by rw[hc4 w 0 (by simp;omega)];simp[go_sem,hc2,hc,hzz,hz3]):p:=h
theorem bD{p:Prop}(h:p:=by rw[hc4 w 1 (by simp;omega)];simp[go_sem,hc2,hc,hzz,hz3]):p:=h
theorem bE{p:Prop}(h:p:=by rw[hc4 w 2 (by simp;omega)];simp[go_sem,hc2,hc,hzz,hz3]):p:=h
theorem bF{p:Prop}(h:p:=by rw[hc4 w 3 (by simp;omega)];simp[go_sem,hc2,hc,hzz,hz3]):p:=h
theorem bG{p:Prop}(h:p:=by (repeat (first|exact Hb4.o|refine Below.setCell ?_ (by first|exact Al _|(simp;omega)|omega) _|refine Below.alloc ?_ (by first|exact Al _|(simp;omega)|omega) _|refine Below.drew ?_|refine Below.trans ?_ (hb6.mono (by first|exact Al _|(simp;omega)|omega))))):p:=h
theorem bH{p:Prop}(h:p:=by (repeat (first|exact Hb.o|refine Below.setCell ?_ (by first|exact Al _|(simp;omega)|omega) _|refine Below.alloc ?_ (by first|exact Al _|(simp;omega)|omega) _|refine Below.drew ?_|refine Below.trans ?_ (hb6.mono (by first|exact Al _|(simp;omega)|omega))))):p:=h
theorem bI{p:Prop}(h:p:=by rw[hb];decide):p:=h
theorem bJ{p:Prop}(h:p:=by simp at hkl ⊢;omega):p:=h
theorem bK{p:Prop}(h:p:=by rw[hW3];exact(((Aq _ _).alloc (Al _) _).alloc (by simp) _).alloc (by simp;omega) _):p:=h
theorem bL{p:Prop}(h:p:=by simp[Value.oneCell']):p:=h
theorem bM{p:Prop}(h:p:=by first|exact au HT.o _|exact HT.o):p:=h
theorem bN{p:Prop}(h:p:=by (repeat (first|exact hbr.o|refine Below.setCell ?_ (by first|exact Al _|(simp;done)|(simp;omega)|omega) _|refine Below.alloc ?_ (by first|exact Al _|(simp;done)|(simp;omega)|omega) _|refine Below.drew ?_|refine below_drewN ?_ _))):p:=h
theorem bO{p:Prop}(h:p:=by simp[Act.put,hpre,u5]):p:=h
theorem bP{p:Prop}(h:p:=by rw[hfz w.heap.size j (by simp)];simp):p:=h
theorem bQ{p:Prop}(h:p:=by simp[Act.put,hpre];done):p:=h
theorem bR{p:Prop}(h:p:=by have:=hk.2.2;omega):p:=h
theorem bS{p:Prop}(h:p:=by have:=At hne;simpa using this):p:=h
theorem bT{p:Prop}(h:p:=by unfold Be Cj;rw[hs,if_pos hb];rfl):p:=h
theorem bU{p:Prop}(h:p:=by simp[Act.put,hpre,H64.o]):p:=h
theorem bV{p:Prop}(h:p:=by (repeat (first|exact Hb5.o|refine Below.setCell ?_ (by first|exact Al _|(simp;done)|(simp;omega)|omega) _|refine Below.alloc ?_ (by first|exact Al _|(simp;done)|(simp;omega)|omega) _|refine Below.drew ?_))):p:=h
theorem bW{p:Prop}(h:p:=by rw[HS9.o];exact aa _ _ _ _ (by first|exact au HT4.o _|exact HT4.o)):p:=h
theorem bX{p:Prop}(h:p:=by rw[HS9.o];exact aa _ _ _ _ (by first|exact au HT6.o _|exact HT6.o)):p:=h
theorem bY{p:Prop}(h:p:=by rw[hfz4 w2.heap.size j (by simp)];simp):p:=h
theorem bZ{p:Prop}(h:p:=by first|exact hpre.2|exact hpre.2.1|exact hpre.1):p:=h
theorem ca{p:Prop}(h:p:=by simp[Act.put,hpre,hwr]):p:=h
theorem cb{p:Prop}(h:p:=by rw[IntWalk.u8_in _ (by omega)];omega):p:=h
theorem cd{p:Prop}(h:p:=by simp[hl,go_sem]):p:=h
theorem ce{p:Prop}(h:p:=by have:=Bv hne;simpa using this):p:=h
theorem cf{p:Prop}(h:p:=by rw[beq_eq_false_iff_ne];omega):p:=h
theorem ch{p:Prop}(h:p:=by have e:10 ^ (2+1)=1000:=rfl;omega):p:=h
theorem cj{p:Prop}(h:p:=by unfold Be Cj;rw[hs0,hb];rfl):p:=h
theorem ck{p:Prop}(h:p:=by intro e;injection e with e;omega):p:=h
theorem cm{p:Prop}(h:p:=by rw[Hs.o];simp):p:=h
theorem cn{p:Prop}(h:p:=by rw[hc w 0 (by simp)];simp):p:=h
theorem co{p:Prop}(h:p:=by rw[hc w 1 (by simp)];simp):p:=h
theorem cp{p:Prop}(h:p:=by rw[hc w 2 (by simp)];simp):p:=h
theorem cq{p:Prop}(h:p:=by rw[hfz3 _ _ (by omega),hfz2 _ _ (by simp)];go_simp):p:=h
theorem cr{p:Prop}(h:p:=by have:=At hst;simpa using this):p:=h
theorem ct{p:Prop}(h:p:=by unfold Be;rw[hs];rfl):p:=h
theorem cu{p:Prop}(h:p:=by rw[hcc _ _ (by omega),hc2 _ _ (by simp)];go_simp):p:=h
theorem cv{p:Prop}(h:p:=by unfold Cc;rw[if_pos rfl,hp];cases Ks [a,b]<;>rfl):p:=h
theorem cw{p:Prop}(h:p:=by rw[hc4 w2 0 (by simp)];simp):p:=h
theorem cx{p:Prop}(h:p:=by rw[hc4 w2 1 (by simp)];simp):p:=h
theorem cy{p:Prop}(h:p:=by rw[hc4 w2 2 (by simp)];simp):p:=h
theorem cz{p:Prop}(h:p:=by rw[hc4 w2 3 (by simp)];simp):p:=h
theorem cB{p:Prop}(h:p:=by simp only[List.all_append,List.all_cons,Hdp.o,Hnp.o,Hs4.o.1];decide):p:=h
theorem cC{p:Prop}(h:p:=by rw[hw2];go_simp):p:=h
theorem cD{p:Prop}(h:p:=by have:=Hkl.o;omega):p:=h
theorem cE{p:Prop}(h:p:=by intro h;rcases h with h|h;omega;exact h4 h):p:=h
theorem cF{p:Prop}(h:p:=by rw[hW1];exact Eg.new _ _):p:=h
theorem cG{p:Prop}(h:p:=by rw[hfs];simp):p:=h
theorem cH{p:Prop}(h:p:=by rw[hw1];simp):p:=h
theorem cI{p:Prop}(h:p:=by simp[hsg]):p:=h
theorem cJ{p:Prop}(h:p:=by rw[h2];decide):p:=h
theorem cK{p:Prop}(h:p:=by unfold maxLen;have:=Hsp.o;have:=Hsl.o;simp at this;omega):p:=h
theorem cL{p:Prop}(h:p:=by have:=Hsl.o;omega):p:=h
theorem cM{p:Prop}(h:p:=by rw[HB.o]at hy;injection hy with hy;subst hy;exact HV.o):p:=h
theorem cN{p:Prop}(h:p:=by rw[hW1];simp):p:=h
theorem cO{p:Prop}(h:p:=by simpa using Ab HR6.o 2 rfl):p:=h
theorem cP{p:Prop}(h:p:=by simpa using Ab HR6.o 3 rfl):p:=h
theorem cQ{p:Prop}(h:p:=by simpa using he):p:=h
theorem cR{p:Prop}(h:p:=by cases s with|nil=>exact absurd rfl hne|cons c z=>rfl):p:=h
theorem cS{p:Prop}(h:p:=by first|exact au HT4.o _|exact HT4.o):p:=h
theorem cT{p:Prop}(h:p:=by first|exact au HT6.o _|exact HT6.o):p:=h
theorem cU{p:Prop}(h:p:=by rw[List.getElem_map];exact(Hk.o _ (ae hlt)).after hW):p:=h
theorem cV{p:Prop}(h:p:=by rw[hfin.o,e7];cases b4<;>simp[h20]):p:=h
theorem cW{p:Prop}(h:p:=by have:=Hacc.o;rwa [List.drop_eq_nil_of_le (by omega),List.map_nil,List.flatten_nil,List.append_nil]at this):p:=h
theorem cX{p:Prop}(h:p:=by rw[<-hW0];simp[go_sem,u0,hn1,hn2]):p:=h
theorem cY{p:Prop}(h:p:=by rw[<-hW0];simp[go_sem,u1,hn1,hn2]):p:=h
theorem cZ{p:Prop}(h:p:=by rw[<-hW0];simp[go_sem,u2,hn1,hn2]):p:=h
theorem d7{p:Prop}(h:p:=by rw[<-hW0];simp[go_sem,u3,hn1,hn2]):p:=h
theorem d9{p:Prop}(h:p:=by simp[Av]at hL9 ⊢;omega):p:=h
theorem da{p:Prop}(h:p:=by rw[HS9.o];refine Ak _ (Al _) _ _ _ ?_;first|with_reducible exact Hb7.o|exact Hb7.o.alloc Hb7.o.size _):p:=h
theorem db{p:Prop}(h:p:=by rw[<-hW0];simp[go_sem,hzf,d2,f2]):p:=h
theorem dc{p:Prop}(h:p:=by rw[<-hW0];simp[go_sem,hzf,d3,f2]):p:=h
theorem de{p:Prop}(h:p:=by have:=Hbr.o.size;omega):p:=h
theorem df{p:Prop}(h:p:=by rw[HS6.o,Ch];exact hz5):p:=h
theorem dg{p:Prop}(h:p:=by first|exact hpre.2|exact hpre):p:=h
theorem dh{p:Prop}(h:p:=by unfold Be Kd.part;rw[hsg];rfl):p:=h
theorem di{p:Prop}(h:p:=by repeat (first|exact Hb2.o.alloc Hb2.o.size _|refine Below.drew ?_|refine below_drewN ?_ _)):p:=h
theorem dj{p:Prop}(h:p:=by rw[hq];simp):p:=h
theorem dk{p:Prop}(h:p:=by rw[h5];decide):p:=h
theorem dl{p:Prop}(h:p:=by simp[Du]):p:=h
theorem dm{p:Prop}(h:p:=by rfl):p:=h
theorem dq{p:Prop}(h:p:=by first|exact hpre.2|exact hpre.1.2|exact hpre.2.2|exact hpre.2.1.2|exact hpre.1.1.2):p:=h
theorem dr{p:Prop}(h:p:=by rw[<-hW0];simp[go_sem,hzb]):p:=h
theorem du{p:Prop}(h:p:=by rw[av (by omega)];exact hf):p:=h
theorem dx{p:Prop}(h:p:=by rw[<-hW0];simp[go_sem,d0]):p:=h
theorem dy{p:Prop}(h:p:=by rw[<-hW0];simp[go_sem,d1]):p:=h
theorem dz{p:Prop}(h:p:=by rw[<-hW0];simp[go_sem,f1]):p:=h
theorem dA{p:Prop}(h:p:=by rw[h85];decide):p:=h
theorem dB{p:Prop}(h:p:=by rw[hw2];exact Hb1.o.alloc Hb1.o.size _):p:=h
theorem dC{p:Prop}(h:p:=by show w.heap.size+1<w.heap.size+2;omega):p:=h
theorem dD{p:Prop}(h:p:=by have hg':w.drew.heap[g]?=some (.cells cur 5 (0,0)):=hg;simp[World.shape?,hg']):p:=h
theorem dE{p:Prop}(h:p:=by rw[IntWalk.i64_in _ (by omega)];omega):p:=h
theorem dF{p:Prop}(h:p:=by rw[hf];simp):p:=h
theorem dG{p:Prop}(h:p:=by have e:10 ^ (5+1)=1000000:=rfl;omega):p:=h
theorem dH{p:Prop}(h:p:=by rw[(Ci hb1).1 _ _ (by simp)];go_simp):p:=h
theorem dI{p:Prop}(h:p:=by rw[hfin.o,e7];simp[h20]):p:=h
theorem dJ{p:Prop}(h:p:=by rw[hs];decide):p:=h
theorem dK{p:Prop}(h:p:=by rw[hw2,aC];exact Sb (by omega) X0.o):p:=h
theorem dL{p:Prop}(h:p:=by show w.heap.size<w3.heap.size;omega):p:=h
theorem dM{p:Prop}(h:p:=by have:=Hb4.o.size;have:=HB0.o;omega):p:=h
theorem dN{p:Prop}(h:p:=by rw[decide_eq_false_iff_not];omega):p:=h
theorem dO{p:Prop}(h:p:=by rw[G6];simp[Bs];omega):p:=h
theorem dP{p:Prop}(h:p:=by simp[Act.put,hpre,e6]):p:=h
theorem dQ{p:Prop}(h:p:=by rw[HS9.o];exact aa _ _ _ _ (by first|exact au HT7.o _|exact HT7.o)):p:=h
theorem dR{p:Prop}(h:p:=by first|exact Al _|exact HbW4.o.size|(simp;done)|(simp;omega)|omega):p:=h
theorem dS{p:Prop}(h:p:=by rw[bne_iff_ne];omega):p:=h
theorem dT{p:Prop}(h:p:=by simp[Du];omega):p:=h
theorem dU{p:Prop}(h:p:=by simpa using h1):p:=h
theorem dV{p:Prop}(h:p:=by simpa using h2):p:=h
theorem dW{p:Prop}(h:p:=by simpa using hr):p:=h
theorem dX{p:Prop}(h:p:=by simpa using ht):p:=h
theorem dY{p:Prop}(h:p:=by simpa using hu):p:=h
theorem dZ{p:Prop}(h:p:=by first|exact hpre.1|exact hpre):p:=h
theorem ee{p:Prop}(h:p:=by simp at hz ⊢;exact .inr hz):p:=h
theorem ef{p:Prop}(h:p:=by simp[Hs.o]):p:=h
theorem eh{p:Prop}(h:p:=by unfold Kp;rw[h9];simp[As,hc]):p:=h
theorem ej{p:Prop}(h:p:=by rw[hc6 w 0 (by simp;omega)];simp[go_sem,u0,hn1,hn2,hzz]):p:=h
theorem eo{p:Prop}(h:p:=by rw[hc6 w 1 (by simp;omega)];simp[go_sem,u1,hn1,hn2,hzz]):p:=h
theorem ep{p:Prop}(h:p:=by rw[hc6 w 2 (by simp;omega)];simp[go_sem,u2,hn1,hn2,hzz]):p:=h
theorem eu{p:Prop}(h:p:=by have:=((hT t (Bj ht).1).2.2.1.1 f (Ay hf).2).2.1;omega):p:=h
theorem ev{p:Prop}(h:p:=by rw[hW3];simp):p:=h
theorem ew{p:Prop}(h:p:=by have:=congrArg List.length h;simp[Dk,H7]at this;omega):p:=h
theorem ey{p:Prop}(h:p:=by simp[h64]):p:=h
theorem ez{p:Prop}(h:p:=by injection e with e;omega):p:=h
theorem eC{p:Prop}(h:p:=by unfold Am;rw[hs0,hb];rfl):p:=h
theorem eD{p:Prop}(h:p:=by rw[hW3];go_simp):p:=h
theorem eE{p:Prop}(h:p:=by simpa using hkl):p:=h
theorem eF{p:Prop}(h:p:=by simpa using hlt):p:=h
theorem eG{p:Prop}(h:p:=by first|exact hpre.1.2|exact hpre.2.2|exact hpre.1):p:=h
theorem eH{p:Prop}(h:p:=by first|exact hpre.1.2|exact hpre.2.2|exact hpre.2):p:=h
theorem eI{p:Prop}(h:p:=by rintro rfl;simp at this):p:=h
theorem eJ{p:Prop}(h:p:=by simp[Av]):p:=h
theorem eK{p:Prop}(h:p:=by decide +kernel):p:=h
theorem eL{p:Prop}(h:p:=by rw[HS9.o];exact Ak _ (by omega) _ _ _ (B4.o _)):p:=h
theorem eM{p:Prop}(h:p:=by simpa using hl):p:=h
theorem eN{p:Prop}(h:p:=by simpa using hp):p:=h
theorem eO{p:Prop}(h:p:=by have:=(h.row.lt B e.symm).1;have:=h.hB;omega):p:=h
theorem eP{p:Prop}(h:p:=by unfold Xw;split<;>rfl):p:=h
theorem eQ{p:Prop}(h:p:=by intro h;rcases h with h|h;omega;exact hne h):p:=h
theorem eR{p:Prop}(h:p:=by obtain⟨_,_,_,_,_,hf⟩:=hsc;exact hf _ hm):p:=h
theorem eS{p:Prop}(h:p:=by rw[Hn.o,Hr.o]):p:=h
theorem eT{p:Prop}(h:p:=by have:=Hsp.o;have:=Hsl.o;simp at this;omega):p:=h
theorem eV{p:Prop}(h:p:=by have:=hb2.size;omega):p:=h
theorem eW{p:Prop}(h:p:=by simp at hl ⊢;omega):p:=h
theorem eX{p:Prop}(h:p:=by simp[Aw,Di,Gl];omega):p:=h
theorem eY{p:Prop}(h:p:=by simp[Value.ownBlock]):p:=h
theorem eZ{p:Prop}(h:p:=by have:=hw.size;omega):p:=h
theorem f5{p:Prop}(h:p:=by rw[Hg.o];rfl):p:=h
theorem f6{p:Prop}(h:p:=by simpa [hji]using hj):p:=h
theorem f7{p:Prop}(h:p:=by have e:10 ^ (8+1)=1000000000:=rfl;omega):p:=h
theorem f9{p:Prop}(h:p:=by rw[ar]at hy;subst hy;exact ih _ _ h hx):p:=h
theorem fa{p:Prop}(h:p:=by rw[hw2];simp;omega):p:=h
theorem fc{p:Prop}(h:p:=by have e6:10 ^ (5+1)=1000000:=rfl;omega):p:=h
theorem fe{p:Prop}(h:p:=by have e:10 ^ (6+1)=10000000:=rfl;omega):p:=h
theorem ff{p:Prop}(h:p:=by rw[Cp];cases bad;exact Qz;exact Al _):p:=h
theorem fg{p:Prop}(h:p:=by rw[hW3];exact(Aq _ _).alloc (Al _) _):p:=h
theorem fh{p:Prop}(h:p:=by rw[hW5];exact(Aq _ _).alloc (Al _) _):p:=h
theorem fi{p:Prop}(h:p:=by rw[hw1];exact(Aq _ _).alloc (Al _) _):p:=h
theorem fj{p:Prop}(h:p:=by simp at hkl;omega):p:=h
theorem fk{p:Prop}(h:p:=by first|exact au HT7.o _|exact HT7.o):p:=h
theorem fl{p:Prop}(h:p:=by simp at hs;omega):p:=h
theorem fm{p:Prop}(h:p:=by have:=hb1.size;simp at this;omega):p:=h
theorem fq{p:Prop}(h:p:=by have:=hb4.size;simp at this;omega):p:=h
theorem fr{p:Prop}(h:p:=by rw[hfz4 w.heap.size j aO];simp[go_sem,hfz2,hfz,hzz,hz3]):p:=h
theorem ft{p:Prop}(h:p:=by rw[hc4 w 0 aO];simp[go_sem,hc2,hc,hzz,hz3]):p:=h
theorem fw{p:Prop}(h:p:=by rw[hc4 w 1 aO];simp[go_sem,hc2,hc,hzz,hz3]):p:=h
theorem fy{p:Prop}(h:p:=by rw[hc4 w 2 aO];simp[go_sem,hc2,hc,hzz,hz3]):p:=h
theorem fA{p:Prop}(h:p:=by rw[hc4 w 3 aO];simp[go_sem,hc2,hc,hzz,hz3]):p:=h
theorem fB{p:Prop}(h:p:=by rw[hW3];exact(((Aq _ _).alloc (Al _) _).alloc aK _).alloc aO _):p:=h
theorem fC{p:Prop}(h:p:=by rw[hfz w.heap.size j aK];simp):p:=h
theorem fD{p:Prop}(h:p:=by rw[hfz4 w2.heap.size j aK];simp):p:=h
theorem fE{p:Prop}(h:p:=by rw[IntWalk.u8_in _ aI];omega):p:=h
theorem fF{p:Prop}(h:p:=by rw[hc w 0 aK];simp):p:=h
theorem fG{p:Prop}(h:p:=by rw[hc w 1 aK];simp):p:=h
theorem fH{p:Prop}(h:p:=by rw[hc w 2 aK];simp):p:=h
theorem fI{p:Prop}(h:p:=by rw[hfz3 _ _ aI,hfz2 _ _ aK];go_simp):p:=h
theorem fJ{p:Prop}(h:p:=by rw[hc4 w2 0 aK];simp):p:=h
theorem fK{p:Prop}(h:p:=by rw[hc4 w2 1 aK];simp):p:=h
theorem fL{p:Prop}(h:p:=by rw[hc4 w2 2 aK];simp):p:=h
theorem fM{p:Prop}(h:p:=by rw[hc4 w2 3 aK];simp):p:=h
theorem fN{p:Prop}(h:p:=by rw[hcc _ _ aI,hc2 _ _ aK];go_simp):p:=h
theorem fO{p:Prop}(h:p:=by rw[IntWalk.i64_in _ aI];omega):p:=h
theorem fP{p:Prop}(h:p:=by
  go_simp
  first|exact hK _ _ _ rfl Ae HR.o rfl|exact kF hK HR.o|exact hK undef _ _ Ae Ae HR.o aJ|exact hK _ _ _ Ae Ae HR.o rfl|exact kF hK HR.o):p:=h
theorem fQ{p:Prop}(h:p:=by
  repeat (first|exact Bb.nil|(refine Bb.cons ?_ ?_;rotate_left))
  all_goals
   rintro L U W hL hpre HR Hdep K hK
   have q0:=(HR.o.be.cell (p:=⟨w.heap.size,0,none⟩) Hl0.o).trans X0.o
   have q1:=(HR.o.be.cell (p:=⟨w1.heap.size,0,none⟩) Hl1.o).trans X1.o
   have q2:=(HR.o.be.cell (p:=⟨w1.heap.size,1,none⟩) Hl1.o).trans X2.o
   have q3:=(HR.o.be.cell (p:=⟨w1.heap.size,2,none⟩) Hl1.o).trans X3.o
   first|(simp[Region.binds]at hpre;done)|simp[Region.binds]at hpre|clear hpre
  iterate 2
   ·go_simp
    first|exact hK _ _ _ rfl Ae HR.o rfl|exact kF hK HR.o|exact hK undef _ _ Ae Ae HR.o aJ|exact hK _ _ _ Ae Ae HR.o rfl|exact kF hK HR.o
  ·go_simp
   rw[if_pos aI]
   go_simp
   exact hK (z:List UInt8) _ _ rfl Ae HR.o aJ
  ·go_simp
   first|exact hK _ _ _ rfl Ae HR.o rfl|exact kF hK HR.o|exact hK undef _ _ Ae Ae HR.o aJ|exact hK _ _ _ Ae Ae HR.o rfl|exact kF hK HR.o
  ·have h5:L 5=false:=Ct Hdep.o 5 4 rfl hL
   have h6:L 6=false:=Ct Hdep.o 6 5 rfl h5
   have h7:L 7=false:=Ct Hdep.o 7 5 rfl h5
   have h8:L 8=false:=Ct Hdep.o 8 5 rfl h5
   have h10:L 10=false:=Ct Hdep.o 10 6 rfl h6
   have h11:L 11=false:=Ct Hdep.o 11 7 rfl h7
   have h12:L 12=false:=Ct Hdep.o 12 8 rfl h8
   go_simp
   refine(HC.o _ HR.o.be).mono ?_
   rintro e w5 hp
   obtain⟨n,a,b,c,r,rfl,hF,hb⟩:=hp.q
   go_simp
   exact hK _ _ _ Ae Ae (HR.o.call h5 h6 h7 h8 h10 h11 h12 hF hb) aJ
  ·have l4:L 4=true:=aQ
   go_simp
   exact hK (U 4) _ _ Ae Ae (HR.o.move l4) aJ
  ·have l5:L 5=true:=aQ
   have l4:L 4=true:=Sm (Ct Hdep.o 5 4 rfl) l5
   obtain⟨n,a,b,c,r,u5,g0,g1,g2⟩:=HR.o.get l4 l5 (fun h=>Ct Hdep.o 10 6 rfl h)
   simp only[u5]
   go_simp
   exact hK _ _ _ Ae Ae (g0 hL) bO
  ·have l5:L 5=true:=aQ
   have l4:L 4=true:=Sm (Ct Hdep.o 5 4 rfl) l5
   obtain⟨n,a,b,c,r,u5,g0,g1,g2⟩:=HR.o.get l4 l5 (fun h=>Ct Hdep.o 10 6 rfl h)
   simp only[u5]
   go_simp
   exact hK _ _ _ Ae Ae (g1) bO
  ·have l5:L 5=true:=aQ
   have l4:L 4=true:=Sm (Ct Hdep.o 5 4 rfl) l5
   obtain⟨n,a,b,c,r,u5,g0,g1,g2⟩:=HR.o.get l4 l5 (fun h=>Ct Hdep.o 10 6 rfl h)
   simp only[u5]
   go_simp
   exact hK _ _ _ Ae Ae (g2) bO
  ·have h10:L 10=false:=Ct Hdep.o 10 9 rfl hL
   go_simp
   exact hK (.pointer (some ⟨W.heap.size,0,none⟩)) _ _ Ae Ae (HR.o.alloc h10 _) aJ
  ·have l9:L 9=true:=aQ
   have l6:L 6=true:=aQ
   have l5:L 5=true:=Sm (Ct Hdep.o 6 5 rfl) l6
   have l4:L 4=true:=Sm (Ct Hdep.o 5 4 rfl) l5
   obtain⟨n,a,b,c,r,_,_,_,k6,_⟩:=HR.o.yes l4
   obtain⟨B,k9,_⟩:=HR.o.al l9
   have u6:=k6 l6
   obtain⟨g1,g2⟩:=HR.o.store l9 u6 k9
   rw[if_pos dm]
   refine wp_store_mid 157 _ _ rfl B 0 ([(n:Int),a,b,c]:List Value).toArray k9 u6 g1 aN bL ?_
   exact hK undef _ _ Ae Ae g2 rfl
  ·have l7:L 7=true:=aQ
   go_simp
   exact hK (U 7) _ _ Ae Ae (HR.o.as1 l7) aJ
  ·have l8:L 8=true:=aQ
   go_simp
   exact hK (U 8) _ _ Ae Ae (HR.o.as2 l8) aJ):p:=h
theorem fR{p:Prop}(h:p:=by
  repeat (first|exact Bb.nil|(refine Bb.cons ?_ ?_;rotate_left))
  all_goals
   rintro L U W hL hpre hR hun hdep K hK
   have HR:=Aa hR
   have hB:=HR.o
   have Hun:=Aa hun
   have hBw:=Hbr.o.trans (hB.mono hzr)
   have d2:=(hBw.cell (p:=⟨b,2,none⟩) hb).trans C2.o
   have d3:=(hB.cell (p:=⟨b,3,none⟩) hbw).trans g3
   have d6:=(hB.cell (p:=⟨b6,o6+m,none⟩) hb6).trans C6.o
   have d8:=(hB.cell (p:=⟨b8,o8+m,none⟩) hb8).trans C8.o
   have Hdep:=Aa hdep
   clear hun hdep hR
   first|(simp[Region.binds]at hpre;done)|simp[Region.binds]at hpre|clear hpre
  ·have h20:L 20=false:=Hdep.o 20 _ rfl {on:=0,ground:=Ground.phase} aK dm hL
   have u20:U 20=acc:=(Hun.o 20 h20).trans rfl
   go_simp
   exact hK acc _ _ rfl Ae HR.o (by simp[Act.put,u20])
  iterate 7
   ·go_simp
    first|exact hK _ _ _ rfl Ae HR.o rfl|exact kF hK HR.o|exact hK undef _ _ Ae Ae HR.o aJ|exact hK _ _ _ Ae Ae HR.o rfl|exact kF hK HR.o
  ·go_simp
   refine(Hd.o W).mono ?_
   rintro e w3 ⟨rfl,hb3⟩
   exact hK _ _ _ rfl Ae (hB.trans (hb3.mono hB.size)) aJ
  ·go_simp
   rw[if_neg bn]
   go_simp
   first|exact hK _ _ _ rfl Ae HR.o rfl|exact kF hK HR.o
  ·go_simp
   rw[if_neg bn]
   go_simp
   first|exact hK _ _ _ rfl Ae HR.o rfl|exact kF hK HR.o
  iterate 7
   ·go_simp
    first|exact hK _ _ _ rfl Ae HR.o rfl|exact kF hK HR.o|exact hK undef _ _ Ae Ae HR.o aJ|exact hK _ _ _ Ae Ae HR.o rfl|exact kF hK HR.o
  ·go_simp
   refine(HX.o W hBw).mono ?_
   rintro e w3 ⟨rfl,hb3⟩
   exact hK _ _ _ rfl Ae (hB.trans (hb3.mono hB.size)) aJ
  ·go_simp
   rw[if_neg bn]
   go_simp
   first|exact hK _ _ _ rfl Ae HR.o rfl|exact kF hK HR.o
  ·go_simp
   first|exact hK _ _ _ rfl Ae HR.o rfl|exact kF hK HR.o|exact hK undef _ _ Ae Ae HR.o aJ|exact hK _ _ _ Ae Ae HR.o rfl|exact kF hK HR.o):p:=h
theorem fS{p:Prop}(h:p:=by
  repeat (first|exact Bb.nil|(refine Bb.cons ?_ ?_;rotate_left))
  all_goals
   rintro L U W hL hpre HR Hdep K hK
   first|(simp[Region.binds]at hpre;done)|simp[Region.binds]at hpre|clear hpre
  iterate 3
   ·go_simp
    first|exact hK _ _ _ rfl Ae HR.o aT|exact hK undef _ _ Ae Ae HR.o ba|exact hK _ _ _ Ae Ae HR.o rfl|exact hK _ _ _ Ae Ae HR.o bQ
  ·go_simp
   rw[E1.o]
   exact hK _ _ _ rfl Ae HR.o aT
  ·go_simp
   first|exact hK _ _ _ rfl Ae HR.o aT|exact hK undef _ _ Ae Ae HR.o ba|exact hK _ _ _ Ae Ae HR.o rfl|exact hK _ _ _ Ae Ae HR.o bQ
  ·obtain⟨R1,R2,R3⟩:=HR.o
   have hB:=R1 hL
   have h10:L 13=false:=Ct Hdep.o 13 5 rfl hL
   go_simp
   exact hK W.heap.size _ _ ⟨_,rfl⟩ Ae ⟨fun h=>by simp at h,fun _=>⟨W,rfl,hB,rfl⟩,fun h=>absurd (h10.symm.trans aU) aL⟩ aJ
  iterate 2
   ·go_simp
    first|exact hK _ _ _ rfl Ae HR.o aT|exact hK undef _ _ Ae Ae HR.o ba|exact hK _ _ _ Ae Ae HR.o rfl|exact hK _ _ _ Ae Ae HR.o bQ
  ·go_simp
   rw[E2.o]
   exact hK _ _ _ rfl Ae HR.o aT
  iterate 2
   ·go_simp
    first|exact hK _ _ _ rfl Ae HR.o aT|exact hK undef _ _ Ae Ae HR.o ba|exact hK _ _ _ Ae Ae HR.o rfl|exact hK _ _ _ Ae Ae HR.o bQ
  ·go_simp
   rw[E1.o]
   exact hK _ _ _ rfl Ae HR.o aT
  ·go_simp
   refine(Hn.o _).mono ?_
   rintro e wz ⟨rfl,rfl⟩
   go_simp
   exact hK _ _ _ rfl Ae HR.o aT
  ·obtain⟨R1,R2,R3⟩:=HR.o
   obtain⟨c,u5⟩:=hpre.1.2
   clear R1 R2 R3
   go_simp
   obtain⟨R1,R2,R3⟩:=HR.o
   exact hK (.pointer (some ⟨c,0,none⟩)) _ _ ⟨c,rfl⟩ Ae ⟨R1,R2,fun _=>u5.symm⟩ bO
  iterate 2
   ·go_simp
    first|exact hK _ _ _ rfl Ae HR.o aT|exact hK undef _ _ Ae Ae HR.o ba|exact hK _ _ _ Ae Ae HR.o rfl|exact hK _ _ _ Ae Ae HR.o bQ):p:=h
theorem fT{p:Prop}(h:p:=by
  go_simp
  first|exact hK _ _ _ rfl Ae HR.o rfl|exact kF hK HR.o|exact hK undef _ _ Ae Ae HR.o aJ):p:=h
theorem fU{p:Prop}(h:p:=by
  repeat (first|exact Bb.nil|(refine Bb.cons ?_ ?_;rotate_left))
  all_goals
   rintro L U W hL hpre HR Hdep K hK
   first|(simp[Region.binds]at hpre;done)|simp[Region.binds]at hpre|clear hpre
  ·have h8:L 8=false:=Ct Hdep.o 8 0 rfl hL
   have hW:=HR.o.1 h8
   subst hW
   go_simp
   first|exact hK _ _ _ rfl Ae HR.o rfl|exact kF hK HR.o
  iterate 2
   ·go_simp
    first|exact hK _ _ _ rfl Ae HR.o rfl|exact kF hK HR.o|exact hK undef _ _ Ae Ae HR.o aJ|exact hK _ _ _ Ae Ae HR.o rfl|exact kF hK HR.o
  ·go_simp
   rw[E2.o]
   first|exact hK _ _ _ rfl Ae HR.o rfl|exact kF hK HR.o
  iterate 4
   ·go_simp
    first|exact hK _ _ _ rfl Ae HR.o rfl|exact kF hK HR.o|exact hK undef _ _ Ae Ae HR.o aJ|exact hK _ _ _ Ae Ae HR.o rfl|exact kF hK HR.o
  ·have hW:=HR.o.1 hL
   subst hW
   go_simp
   have HB6:=((((((Hb3.o.setCell (p:=⟨w.heap.size+1+1,0,none⟩) aO (n0:Int)).setCell (p:=⟨w.heap.size+1+1,1,none⟩) aO a).setCell (p:=⟨w.heap.size+1+1,2,none⟩) aO (.string ⟨b.toArray⟩)).setCell (p:=⟨w.heap.size+1+1,3,none⟩) aO c).alloc aO (.cells #[(n0:Int),a,.string ⟨b.toArray⟩,c] 157)).drew)
   refine hK undef _ _ Ae Ae ⟨fun h=>by simp at h,fun _=>⟨HB6,?_,?_,?_,?_⟩⟩ aJ
   all_goals go_simp
  iterate 2
   ·go_simp
    first|exact hK _ _ _ rfl Ae HR.o rfl|exact kF hK HR.o|exact hK undef _ _ Ae Ae HR.o aJ|exact hK _ _ _ Ae Ae HR.o rfl|exact kF hK HR.o):p:=h
theorem fV{p:Prop}(h:p:=by
  go_simp
  rw[if_neg bn]
  go_simp
  first|exact hK _ _ _ rfl Ae HR.o rfl|exact kF hK HR.o):p:=h
theorem fW{p:Prop}(h:p:=by
  repeat (first|exact Bb.nil|(refine Bb.cons ?_ ?_;rotate_left))
  all_goals
   rintro L U W hL hpre HR Hdep K hK
   first|(simp[Region.binds]at hpre;done)|simp[Region.binds]at hpre|clear hpre
  iterate 3
   ·go_simp
    first|exact hK _ _ _ rfl Ae HR.o rfl|exact kF hK HR.o|exact hK undef _ _ Ae Ae HR.o aJ|exact hK _ _ _ Ae Ae HR.o rfl|exact kF hK HR.o
  ·obtain⟨R1,R2,R3⟩:=HR.o
   have hB:=R1 hL
   have h10:L 8=false:=Ct Hdep.o 8 3 rfl hL
   go_simp
   exact hK W.heap.size _ _ ⟨_,rfl⟩ Ae ⟨fun h=>by simp at h,fun _=>⟨W,rfl,hB,rfl⟩,fun h=>absurd (h10.symm.trans aU) aL⟩ aJ
  iterate 3
   ·go_simp
    first|exact hK _ _ _ rfl Ae HR.o rfl|exact kF hK HR.o|exact hK undef _ _ Ae Ae HR.o aJ|exact hK _ _ _ Ae Ae HR.o rfl|exact kF hK HR.o
  ·go_simp
   rw[E2.o]
   first|exact hK _ _ _ rfl Ae HR.o rfl|exact kF hK HR.o
  ·obtain⟨R1,R2,R3⟩:=HR.o
   obtain⟨c,u5⟩:=hpre.1.2
   clear R1 R2 R3
   go_simp
   obtain⟨R1,R2,R3⟩:=HR.o
   exact hK (.pointer (some ⟨c,0,none⟩)) _ _ ⟨c,rfl⟩ Ae ⟨R1,R2,fun _=>u5.symm⟩ bO
  iterate 2
   ·go_simp
    first|exact hK _ _ _ rfl Ae HR.o rfl|exact kF hK HR.o|exact hK undef _ _ Ae Ae HR.o aJ|exact hK _ _ _ Ae Ae HR.o rfl|exact kF hK HR.o):p:=h
theorem fX{p:Prop}(h:p:=by exact Au results175 _ _ w.heap.size [.int .i64 0,a6,a6,a6,a6,a6] _ _ rfl rfl HZ.o underlying97 rfl aN):p:=h
theorem fY{p:Prop}(h:p:=by
  go_simp
  first|exact hK _ _ _ rfl Ae HR.o aT|exact hK undef _ _ Ae Ae HR.o ba|exact hK _ _ _ Ae Ae HR.o rfl|exact hK _ _ _ Ae Ae HR.o bQ):p:=h
theorem fZ{p:Prop}(h:p:=by
  repeat (first|exact Bb.nil|(refine Bb.cons ?_ ?_;rotate_left))
  all_goals
   rintro L U W hL hpre ⟨q,rfl⟩ hun hdep K hK
   have hlq:=hlook q
   clear hun hdep
   first|(simp[Region.binds]at hpre;done)|simp[Region.binds]at hpre|clear hpre
   go_simp
   first|exact hK _ _ _ rfl Ae ⟨q,rfl⟩ rfl|exact hK _ _ _ rfl Ae ⟨q,rfl⟩ bU|exact hK undef _ _ Ae Ae ⟨q,rfl⟩ bU|exact hK _ _ _ Ae Ae ⟨q,rfl⟩ rfl|exact hK _ _ _ Ae Ae ⟨q,rfl⟩ bU):p:=h
theorem g7{p:Prop}(h:p:=by
  obtain⟨R1,R2,R3⟩:=HR.o
  obtain⟨c,u5⟩:=hpre.1.2
  clear R1 R2 R3
  go_simp
  obtain⟨R1,R2,R3⟩:=HR.o
  exact hK (.pointer (some ⟨c,0,none⟩)) _ _ ⟨c,rfl⟩ Ae ⟨R1,R2,fun _=>u5.symm⟩ bO):p:=h
theorem g8{p:Prop}(h:p:=by
  have Hdec:=Aa (show decide (n<=200)=false by simp;omega)
  rw[Hdec.o]at Hpn
  go_wp2_with fail
  refine(Hpn.o _).mono ?_
  rintro e w3 ⟨rfl,rfl⟩
  go_wp2_with ((with_reducible refine Ac (op:=⟨none,.store 97 _ _,_,_,_,none⟩) rfl 97 _ _ rfl w 0 [.int .i64 0,a6,a6,a6,a6,a6] ?_ ?_ ?_ ?_ ?_ ?_);rfl;rfl;(first|exact au HT.o _|exact HT.o);kernel_rfl;(simp[Value.oneCell']);intro w9 HS9)
  have HZ:=@Aa (w9.rangeAt w 0 [.int .i64 0,a6,a6,a6,a6,a6]) bj
  refine aG (v:=.tuple #[.agg ([.int .i64 0,a6,a6,a6,a6,a6]:List Value).toArray,.bool false]) ?_ rfl ?_
  ·exact Au results175 _ _ w.heap.size [.int .i64 0,a6,a6,a6,a6,a6] _ _ rfl rfl HZ.o underlying97 rfl aN
  exact Em.no (Hno.o (fun m h=>by have h':=(Hhead.o m).1 h;have:=h'.1;cases this;omega)) rfl aX):p:=h
theorem ga{p:Prop}(h:p:=by
  subst h0
  go_wp2_with fail
  refine(Hpn.o _).mono ?_
  rintro e w3 ⟨rfl,rfl⟩
  go_wp2_with ((with_reducible refine Ac (op:=⟨none,.store 97 _ _,_,_,_,none⟩) rfl 97 _ _ rfl w 0 [.int .i64 0,a6,a6,a6,a6,a6] ?_ ?_ ?_ ?_ ?_ ?_);rfl;rfl;(first|exact au HT.o _|exact HT.o);kernel_rfl;(simp[Value.oneCell']);intro w9 HS9)
  have HZ:=@Aa (w9.rangeAt w 0 [.int .i64 0,a6,a6,a6,a6,a6]) bj
  refine aG (v:=.tuple #[.agg ([.int .i64 0,a6,a6,a6,a6,a6]:List Value).toArray,.bool false]) ?_ rfl ?_
  ·exact Au results175 _ _ w.heap.size [.int .i64 0,a6,a6,a6,a6,a6] _ _ rfl rfl HZ.o underlying97 rfl aN
  exact Em.no (Hno.o (fun m h=>by have h':=(Hhead.o m).1 h;have:=h'.1;cases this;omega)) rfl aX):p:=h
theorem gc{p:Prop}(h:p:=by
  repeat (first|exact Bb.nil|(refine Bb.cons ?_ ?_;rotate_left))
  all_goals
   rintro L u W hL hpre hR K hK
   first|(simp[Region.binds]at hpre;done)|simp[Region.binds]at hpre|clear hpre
   rcases hl:L 9 with _|_
   all_goals
    first|exact absurd (hl.symm.trans hL) aL|(
     rw[hl]at hR
     first|rw[if_neg aL]at hR|rw[if_pos rfl]at hR
     have hR':=hR.symm
     subst hR'
     go_simp
     try (go_at_call 95;refine(Hk.o _).mono ?_;rintro e w' ⟨rfl,rfl⟩)
     first|(refine hK _ _ _ rfl Ae cd rfl;done)|(refine hK _ _ _ rfl Ae cd aJ;done)|(refine hK undef _ _ rfl Ae cd aJ;done))):p:=h
theorem gd{p:Prop}(h:p:=by
  have k2:¬(k:Int)<1+(x:Int):=aI
  have HRf:=Aa hR.o
  have Hgf:=Aa hg.o
  have HFf:=Aa hF.o
  go_wp2_with fail
  go_ret
  exact⟨l++[10],q,by simp,⟨HFf.o.sep aL,by simp only[ah,List.length_cons,List.length_nil];omega,by simp⟩,by omega,HRf.o,Hgf.o⟩):p:=h
theorem ge{p:Prop}(h:p:=by
  have h5:L 5=false:=Ct Hdep.o 5 4 rfl hL
  have h6:L 6=false:=Ct Hdep.o 6 5 rfl h5
  have h7:L 7=false:=Ct Hdep.o 7 5 rfl h5
  have h8:L 8=false:=Ct Hdep.o 8 5 rfl h5
  have h10:L 10=false:=Ct Hdep.o 10 6 rfl h6
  have h11:L 11=false:=Ct Hdep.o 11 7 rfl h7
  have h12:L 12=false:=Ct Hdep.o 12 8 rfl h8
  go_simp
  refine(HC.o _ HR.o.be).mono ?_
  rintro e w5 hp
  obtain⟨n,a,b,c,r,rfl,hF,hb⟩:=hp.q
  go_simp
  exact hK _ _ _ Ae Ae (HR.o.call h5 h6 h7 h8 h10 h11 h12 hF hb) aJ):p:=h
theorem gg{p:Prop}(h:p:=by
  have hW:=HR.o.1 hL
  subst hW
  go_simp
  have HB6:=((((((Hb3.o.setCell (p:=⟨w.heap.size+1+1,0,none⟩) aO (n0:Int)).setCell (p:=⟨w.heap.size+1+1,1,none⟩) aO a).setCell (p:=⟨w.heap.size+1+1,2,none⟩) aO (.string ⟨b.toArray⟩)).setCell (p:=⟨w.heap.size+1+1,3,none⟩) aO c).alloc aO (.cells #[(n0:Int),a,.string ⟨b.toArray⟩,c] 157)).drew)
  refine hK undef _ _ Ae Ae ⟨fun h=>by simp at h,fun _=>⟨HB6,?_,?_,?_,?_⟩⟩ aJ
  all_goals go_simp):p:=h
theorem gh{p:Prop}(h:p:=by
  repeat (first|exact Bb.nil|(refine Bb.cons ?_ ?_;rotate_left))
  all_goals
   rintro L U W hL hpre ⟨q,rfl⟩ hun hdep K hK
   have hlq:=hlook q
   clear hun hdep
   first|(simp[Region.binds]at hpre;done)|simp[Region.binds]at hpre|clear hpre
   go_simp
   first|exact hK _ _ _ rfl Ae ⟨q,rfl⟩ rfl|exact hK _ _ _ rfl Ae ⟨q,rfl⟩ aJ|exact hK undef _ _ Ae Ae ⟨q,rfl⟩ aJ|exact hK _ _ _ Ae Ae ⟨q,rfl⟩ rfl|exact hK _ _ _ Ae Ae ⟨q,rfl⟩ aJ):p:=h
theorem gi{p:Prop}(h:p:=by
  have l9:L 9=true:=aQ
  have l6:L 6=true:=aQ
  have l5:L 5=true:=Sm (Ct Hdep.o 6 5 rfl) l6
  have l4:L 4=true:=Sm (Ct Hdep.o 5 4 rfl) l5
  obtain⟨n,a,b,c,r,_,_,_,k6,_⟩:=HR.o.yes l4
  obtain⟨B,k9,_⟩:=HR.o.al l9
  have u6:=k6 l6
  obtain⟨g1,g2⟩:=HR.o.store l9 u6 k9
  rw[if_pos dm]
  refine wp_store_mid 157 _ _ rfl B 0 ([(n:Int),a,b,c]:List Value).toArray k9 u6 g1 aN bL ?_
  exact hK undef _ _ Ae Ae g2 rfl):p:=h
theorem gj{p:Prop}(h:p:=by
  have h12:L 12=false:=Ct Hdep.o 12 11 rfl hL
  have h13:L 13=false:=Ct Hdep.o 13 12 rfl h12
  have h16:L 16=false:=Ct Hdep.o 16 13 rfl h13
  have hW:=HR.o.s0 hL
  subst hW
  go_simp
  refine(HC.o g q _ HX9.o HR9.o aI).mono ?_
  rintro e w5 ⟨b5,v5,q5,rfl,k1,k2,k3,k4,k5,k6⟩
  exact hK _ _ _ Ae Ae (Mt.call Hg9.o HS9.o hgl h12 h13 h16 ⟨v5,rfl,k1,k2,k3⟩ k5 k6 k4) aJ):p:=h
theorem gk{p:Prop}(h:p:=by
  have l13:L 13=true:=bZ
  have l12:L 12=true:=Sm (Ct Hdep.o 13 12 rfl) l13
  have l11:L 11=true:=Sm (Ct Hdep.o 12 11 rfl) l12
  obtain⟨b8,v8,q8,A6,c6,e6,_,_,_,hK6⟩:=HR.o.s3 l13 hL
  have x3:=hK6.c3
  have x4:=hK6.bk.live 3
  have x5:=hK6.lt
  go_simp
  exact hK undef _ _ Ae Ae (HR.o.store (Al _) hgl l11 l12 l13 hL (by rw[e6])) dP):p:=h
theorem gn{p:Prop}(h:p:=by
  go_simp
  first|exact hK _ _ _ rfl Ae HR.o rfl|exact hK _ _ _ rfl Ae HR.o ca|exact hK undef _ _ Ae Ae HR.o ca|exact hK _ _ _ Ae Ae HR.o rfl|exact hK _ _ _ Ae Ae HR.o ca):p:=h
theorem gp{p:Prop}(h:p:=by
  go_simp
  rw[E2.o]
  first|exact hK _ _ _ rfl Ae HR.o rfl|exact kF hK HR.o):p:=h
theorem gq{p:Prop}(h:p:=by
  have l11:L 11=true:=aQ
  have h13:L 13=false:=Ct Hdep.o 13 12 rfl hL
  have h16:L 16=false:=Ct Hdep.o 16 13 rfl h13
  obtain⟨b5,e5,hn⟩:=HR.o.build l11 hL h13 h16
  simp only[e5]
  go_simp
  exact hK _ _ _ Ae Ae hn (by simp[Act.put,hpre,e5])):p:=h
theorem gu{p:Prop}(h:p:=by
  obtain⟨R1,R2,R3⟩:=HR.o
  have hB:=R1 hL
  have h10:L 13=false:=Ct Hdep.o 13 5 rfl hL
  go_simp
  exact hK W.heap.size _ _ ⟨_,rfl⟩ Ae ⟨fun h=>by simp at h,fun _=>⟨W,rfl,hB,rfl⟩,fun h=>absurd (h10.symm.trans aU) aL⟩ aJ):p:=h
theorem gw{p:Prop}(h:p:=by
  obtain⟨R1,R2,R3⟩:=HR.o
  have hB:=R1 hL
  have h10:L 8=false:=Ct Hdep.o 8 3 rfl hL
  go_simp
  exact hK W.heap.size _ _ ⟨_,rfl⟩ Ae ⟨fun h=>by simp at h,fun _=>⟨W,rfl,hB,rfl⟩,fun h=>absurd (h10.symm.trans aU) aL⟩ aJ):p:=h
theorem gx{p:Prop}(h:p:=by
  go_simp
  refine(Hd.o W).mono ?_
  rintro e w3 ⟨rfl,hb3⟩
  exact hK _ _ _ rfl Ae (hB.trans (hb3.mono hB.size)) aJ):p:=h
theorem gy{p:Prop}(h:p:=by
  have l5:L 5=true:=aQ
  have l4:L 4=true:=Sm (Ct Hdep.o 5 4 rfl) l5
  obtain⟨n,a,b,c,r,u5,g0,g1,g2⟩:=HR.o.get l4 l5 (fun h=>Ct Hdep.o 10 6 rfl h)
  simp only[u5]
  go_simp
  exact hK _ _ _ Ae Ae (g0 hL) bO):p:=h
theorem gz{p:Prop}(h:p:=by
  have l5:L 5=true:=aQ
  have l4:L 4=true:=Sm (Ct Hdep.o 5 4 rfl) l5
  obtain⟨n,a,b,c,r,u5,g0,g1,g2⟩:=HR.o.get l4 l5 (fun h=>Ct Hdep.o 10 6 rfl h)
  simp only[u5]
  go_simp
  exact hK _ _ _ Ae Ae (g1) bO):p:=h
theorem gA{p:Prop}(h:p:=by
  have l5:L 5=true:=aQ
  have l4:L 4=true:=Sm (Ct Hdep.o 5 4 rfl) l5
  obtain⟨n,a,b,c,r,u5,g0,g1,g2⟩:=HR.o.get l4 l5 (fun h=>Ct Hdep.o 10 6 rfl h)
  simp only[u5]
  go_simp
  exact hK _ _ _ Ae Ae (g2) bO):p:=h
theorem gB{p:Prop}(h:p:=by
  have h20:L 20=false:=Hdep.o 20 _ rfl {on:=0,ground:=Ground.phase} aK dm hL
  have u20:U 20=acc:=(Hun.o 20 h20).trans rfl
  go_simp
  exact hK acc _ _ rfl Ae HR.o (by simp[Act.put,u20])):p:=h
theorem gC{p:Prop}(h:p:=by
  have h8:L 8=false:=Ct Hdep.o 8 0 rfl hL
  have hW:=HR.o.1 h8
  subst hW
  go_simp
  first|exact hK _ _ _ rfl Ae HR.o rfl|exact kF hK HR.o):p:=h
theorem gD{p:Prop}(h:p:=by
  have h13:L 13=false:=Ct Hdep.o 13 4 rfl hL
  have x3:=HR.o.c3 HS9.o h13
  go_simp
  first|exact hK _ _ _ rfl Ae HR.o rfl|exact kF hK HR.o):p:=h
theorem gE{p:Prop}(h:p:=by
  intro j y hj
  have e1:(⟨W.heap.size,0,none⟩:Addr).add j=⟨W.heap.size,j,none⟩:=bq
  rw[e1,World.cell?_alloc_new]
  simpa using hj):p:=h
theorem gF{p:Prop}(h:p:=by
  go_simp
  refine(Ih2.o _ (Hsc0.o.below hB)).mono ?_
  rintro e w3 ⟨rfl,hb3⟩
  exact hK _ _ _ rfl Ae (hB.trans (hb3.mono hB.size)) aJ):p:=h
theorem gG{p:Prop}(h:p:=by
  go_simp
  rw[E1.o]
  exact hK _ _ _ rfl Ae HR.o aT):p:=h
theorem gH{p:Prop}(h:p:=by
  have h10:L 10=false:=Ct Hdep.o 10 9 rfl hL
  go_simp
  exact hK (.pointer (some ⟨W.heap.size,0,none⟩)) _ _ Ae Ae (HR.o.alloc h10 _) aJ):p:=h
theorem gI{p:Prop}(h:p:=by
  have e:=Qh S 0 u a.tmps.toList i s v hn hsi
  rw[am]at e
  unfold Bl Act.put
  rw[hd]
  simp only[<-e]
  congr 1
  simp):p:=h
theorem gJ{p:Prop}(h:p:=by
  by_cases hb0:b.toNat=0
  ·simp[Ag,ngo,ha,hb,hb0]
  have:¬999999<a.toNat % 128+b.toNat*128:=aI
  simp[Ag,ngo,ha,hb,hb0,this]):p:=h
theorem gK{p:Prop}(h:p:=by
  go_simp
  refine(HX.o W hBw).mono ?_
  rintro e w3 ⟨rfl,hb3⟩
  exact hK _ _ _ rfl Ae (hB.trans (hb3.mono hB.size)) aJ):p:=h
theorem gL{p:Prop}(h:p:=by
  go_simp
  refine(Hd.o _).mono ?_
  rintro e w3 ⟨rfl,hb3⟩
  exact hK _ _ _ rfl Ae (hB.trans (hb3.mono hB.size)) aJ):p:=h
theorem gM{p:Prop}(h:p:=by have:=hc 1 _ rfl;simpa [Nat.add_assoc]using this):p:=h
theorem gN{p:Prop}(h:p:=by
  go_simp
  refine(Hn.o _).mono ?_
  rintro e wz ⟨rfl,rfl⟩
  go_simp
  exact hK _ _ _ rfl Ae HR.o aT):p:=h
theorem gO{p:Prop}(h:p:=by exact⟨r2.os,r2.tape,r2.output,ad aK r2.size,fun k hk hne=>(r2.block k aO hne).trans (heap_alloc_old W _ hk)⟩):p:=h
theorem gP{p:Prop}(h:p:=by simp at h;obtain⟨rfl,rfl⟩:=h;exact⟨by omega,by simp⟩):p:=h
theorem gQ{p:Prop}(h:p:=by exact Au results175 _ _ w.heap.size [(n:Int),b,k.signs,k.base,k.name,vl] _ _ rfl rfl HZ.o underlying97 rfl aN):p:=h
theorem gR{p:Prop}(h:p:=by
  go_simp
  exact hK _ _ _ rfl Ae hR aJ):p:=h
theorem gS{p:Prop}(h:p:=by
  go_simp
  rw[if_pos aI]
  go_simp
  first|exact hK _ _ _ rfl Ae HR.o rfl|exact kF hK HR.o):p:=h
theorem gT{p:Prop}(h:p:=by
  split at h
  ·simp at h
  simp at h;obtain⟨rfl,rfl⟩:=h;exact⟨by omega,by simp⟩):p:=h
theorem gU{p:Prop}(h:p:=by
  have:¬999999<a.toNat:=aI
  simp[Ag,ngo,ha,this]):p:=h
theorem gV{p:Prop}(h:p:=by
  go_simp
  rw[if_pos aI]
  go_simp
  exact hK (kp:List UInt8) _ _ rfl Ae HR.o aJ):p:=h
theorem gW{p:Prop}(h:p:=by
  go_simp
  rw[if_pos aI]
  go_simp
  exact hK (z:List UInt8) _ _ rfl Ae HR.o aJ):p:=h
theorem gX{p:Prop}(h:p:=by have:=hc 2 _ rfl;simpa [Nat.add_assoc]using this):p:=h
theorem gY{p:Prop}(h:p:=by
  go_enter func230,ntmps230
  go_wp2_with fail
  go_ret
  exact⟨rfl,rfl⟩):p:=h
theorem gZ{p:Prop}(h:p:=by
  have:=hac' i o ho e he hb
  have:=(Array.getElem?_eq_some_iff.1 ho).1
  omega):p:=h
theorem hC{p:Prop}(h:p:=by
  go_simp
  rw[Htk.o]
  first|exact hK _ _ _ rfl Ae HR.o rfl|exact kF hK HR.o):p:=h
theorem hD{p:Prop}(h:p:=by
  have l4:L 4=true:=aQ
  go_simp
  exact hK (U 4) _ _ Ae Ae (HR.o.move l4) aJ):p:=h
theorem hH{p:Prop}(h:p:=by have:=hc 0 _ rfl;simpa using this):p:=h
theorem hM{p:Prop}(h:p:=by
  have l7:L 7=true:=aQ
  go_simp
  exact hK (U 7) _ _ Ae Ae (HR.o.as1 l7) aJ):p:=h
theorem hO{p:Prop}(h:p:=by
  have l8:L 8=true:=aQ
  go_simp
  exact hK (U 8) _ _ Ae Ae (HR.o.as2 l8) aJ):p:=h
theorem hY{p:Prop}(h:p:=by
  have:(W.alloc (.cells us.toArray e)).heap.size=W.heap.size+1:=aK
  omega):p:=h
theorem hZ{p:Prop}(h:p:=by
  go_wp2_with fail
  go_ret
  exact⟨by rw[HE.o,HZ.o];simp,Hbr.o⟩):p:=h
theorem i9{p:Prop}(h:p:=by
  rw[if_pos h]
  simp at h
  have:¬t.length<12:=aI
  simp[this]):p:=h
theorem ia{p:Prop}(h:p:=by
  go_simp
  exact hK _ _ _ rfl Ae hR rfl):p:=h
theorem ib{p:Prop}(h:p:=by exact(Et (Fj tg)).2.2.1):p:=h
theorem ic{p:Prop}(h:p:=by
  go_simp
  first|exact hK _ _ _ rfl Ae HR.o rfl|exact kF hK HR.o):p:=h
theorem ie{p:Prop}(h:p:=by
  unfold Bl
  rw[Pf S 0 _ _ fun k s hk=>by simp[List.getD,hk]]):p:=h
theorem ig{p:Prop}(h:p:=by subst ho;simp[World.cell?,hh]at c0):p:=h
theorem ii{p:Prop}(h:p:=by
  go_simp
  rw[E2.o]
  exact hK _ _ _ rfl Ae HR.o aT):p:=h
theorem ij{p:Prop}(h:p:=by exact⟨tg+1,by simp,by omega⟩):p:=h
theorem ik{p:Prop}(h:p:=by
  rw[o2]at HQ
  subst o1
  exact Bc.no HQ rfl Hb7):p:=h
theorem il{p:Prop}(h:p:=by exact⟨b,off,e,ac hlt hb.size,fun j u hu=>(hb.cell (p:=⟨b,off+j,none⟩) hlt).trans (hc j u hu)⟩):p:=h
theorem im{p:Prop}(h:p:=by obtain⟨A,c,e,hl,hr⟩:=h;exact⟨A,c,e,hl,hr.below hb⟩):p:=h
theorem io{p:Prop}(h:p:=by exact⟨rfl,rfl⟩):p:=h
theorem ip{p:Prop}(h:p:=by rw[hq]at hr;injection hr with e1 _;subst e1;exact .inr ⟨_,rfl,Al _⟩):p:=h
theorem iq{p:Prop}(h:p:=by go_ret;exact⟨rfl,rfl⟩):p:=h
theorem ir{p:Prop}(h:p:=by go_ret;exact⟨Er (Db Hf.o.symm),rfl⟩):p:=h
theorem iu{p:Prop}(h:p:=by rw[show c::(u++[d])=(c::u)++[d]from rfl,List.getLast?_append];rfl):p:=h
theorem iv{p:Prop}(h:p:=by go_ret;exact⟨Er (Db eS),hb⟩):p:=h
theorem iw{p:Prop}(h:p:=by go_ret;exact⟨Er (Db Hn.o.symm),Aq _ _⟩):p:=h
theorem iy{p:Prop}(h:p:=by have h1:=Yd (s.take k).length (s.take k) rfl h;have h2:10 ^ (s.take k).length<=10 ^ 6:=Nat.pow_le_pow_right aI aO;have e6:10 ^ 6=1000000:=rfl;omega):p:=h
theorem iz{p:Prop}(h:p:=by exact⟨by rw[Hn.o];rfl,rfl⟩):p:=h
theorem iA{p:Prop}(h:p:=by have hB:=h.hB;exact⟨by simpa using h.lt,by simpa using h.bs,h.hB,h.bk.set _,by simp[go_sem,h.c0],by simp[go_sem,h.c1],by simp[go_sem,h.c2],by simp[go_sem,h.c3],h.tags.kept hg (M8 (fun k hk=>(h.tags.lt k hk).1) h.hB),h.row.kept hg (M8 (fun k hk=>(h.row.lt k hk).1) h.hB),fun x hx=>(h.kids x hx).grown hg fun c hc e=>by injection e with e;omega⟩):p:=h
theorem iB{p:Prop}(h:p:=by rw[e];intro e;injection e with e;omega):p:=h
theorem iC{p:Prop}(h:p:=by go_ret;exact⟨by rw[Hfin.o];rfl,(Aq _ _).alloc (Al _) _⟩):p:=h
theorem iD{p:Prop}(h:p:=by rw[Bo aI,Int.tmod_eq_emod_of_nonneg aI,IntWalk.i64_in _ aI,IntWalk.u8_in _ aI];omega):p:=h
theorem iE{p:Prop}(h:p:=by exact⟨0,by omega,by rw[Hn.o];rfl,(fun m h=>by rw[Hno.o]at h;cases h),Aq _ _⟩):p:=h
theorem iF{p:Prop}(h:p:=by exact hdone l u w hl (fun i hi=>hφ i (hl i hi) hi) hR):p:=h
theorem iG{p:Prop}(h:p:=by first|exact hK _ _ _ rfl Ae HR.o rfl|exact kF hK HR.o):p:=h
theorem iH{p:Prop}(h:p:=by exact En.leaf (P:=fun c=>w.heap.size<=c) aI):p:=h
theorem iI{p:Prop}(h:p:=by rw[Lib.cell_of_heap this];rfl):p:=h
theorem iJ{p:Prop}(h:p:=by exact⟨rfl,Aq _ _⟩):p:=h
theorem iK{p:Prop}(h:p:=by go_ret;exact⟨by rw[HF.o];simp,by rw[HB0.o];exact Hb4.o⟩):p:=h
theorem iL{p:Prop}(h:p:=by go_ret;exact⟨by rw[HF.o];rfl,by rw[HB0.o];exact Hb4.o⟩):p:=h
theorem iM{p:Prop}(h:p:=by go_ret;exact⟨rfl,(Aq _ _).alloc (Al _) _⟩):p:=h
theorem iN{p:Prop}(h:p:=by exact⟨by rw[Hfin.o];rfl,(Aq _ _).alloc (Al _) _⟩):p:=h
theorem iO{p:Prop}(h:p:=by exact⟨by rw[Hr.o];rfl,((Hb.o.setCell (Al _) _).setCell (Al _) _).setCell (Al _) _⟩):p:=h
theorem iP{p:Prop}(h:p:=by go_ret;exact⟨by rw[Hend.o];first|rfl|trivial,hb.o⟩):p:=h
theorem iQ{p:Prop}(h:p:=by rw[Nf _ _ k hs (Nm hk hs hb).2];exact P1 xv xs k w hsc hk hs hb):p:=h
theorem iR{p:Prop}(h:p:=by have hkf:Cw f.kind:=((hto.2.2.1.1 f cG).2.2.2.2 dA).1;exact ih aI f.kind W hW hkf hrf (Xg he hs hb hft h85 hfs hrf)):p:=h
theorem iS{p:Prop}(h:p:=by go_ret;exact⟨Er (Db (by rw[<-Hv.o,Ho.o];rfl)),Hb.o⟩):p:=h
theorem iT{p:Prop}(h:p:=by go_ret;exact⟨Er (Db (by rw[Hv.o,Ho.o,Hq.o];rfl)),Aq _ _⟩):p:=h
theorem iU{p:Prop}(h:p:=by exact Dd.no Hno.o rfl ((((Hb.o.setCell (Al _) _).setCell (Al _) _).setCell (Al _) _).setCell (Al _) _)):p:=h
theorem iV{p:Prop}(h:p:=by exact Dd.no HF.o rfl aS):p:=h
theorem iW{p:Prop}(h:p:=by exact D4.no HF.o rfl aP):p:=h
theorem iX{p:Prop}(h:p:=by have h2:=Hsl.o;omega):p:=h
theorem iY{p:Prop}(h:p:=by have h1:k≠(c::nm).length:=fun e=>hne (hiff.2 e);have h2:=Hsl.o;omega):p:=h
theorem iZ{p:Prop}(h:p:=by exact(((hR.1.setCell hl8 _).setCell hl8 _).setCell hl8 _).setCell hl8 _):p:=h
theorem j0{p:Prop}(h:p:=by exact Em.no (Hno.o (fun n h=>by have:=((Hhead.o n).1 h).1;cases this)) rfl aX):p:=h
theorem j4{p:Prop}(h:p:=by exact Em.no (Hno.o (fun m h=>by have:=((Hhead.o m).1 h).2.2.2;cases this)) rfl bw):p:=h
theorem j5{p:Prop}(h:p:=by go_ret;exact⟨Er (Db Hend.o.symm),hbr.o.alloc hzw _⟩):p:=h
theorem j6{p:Prop}(h:p:=by exact Jb.no Hend.o rfl (below_drewN (hbr.o.trans (Hbo.o.mono aI)) _)):p:=h
theorem j7{p:Prop}(h:p:=by go_simp;first|exact hK _ _ _ rfl Ae ⟨q,fun _=>rfl,Hq2.o⟩ rfl|exact hK _ _ _ rfl Ae ⟨q,fun _=>rfl,Hq2.o⟩ aJ):p:=h
theorem j8{p:Prop}(h:p:=by exact hK undef _ _ Ae Ae ⟨Ak _ (Al _) _ _ _ r1,by rw[Ch];exact r2,ai r3 _ _ _,ak r4 _ _ _ (.inl (show w2.heap.size≠w.heap.size by omega)),r5.far (Do _ _ _ W) aI,fun _=>aa _ _ _ _ r3⟩ rfl):p:=h
theorem j9{p:Prop}(h:p:=by go_ret;exact⟨rfl,((Aq _ _).alloc (Al _) _).trans (hb1.mono aK)⟩):p:=h
theorem ja{p:Prop}(h:p:=by go_ret;exact⟨rfl,Hb1.o⟩):p:=h
theorem jb{p:Prop}(h:p:=by have:∀a b,Du a<=Du (a++b):=fun a b=>dl;exact this _ _):p:=h
theorem jc{p:Prop}(h:p:=by go_ret;exact⟨rfl,Hb3.o⟩):p:=h
theorem jd{p:Prop}(h:p:=by go_simp;first|exact hK _ _ _ rfl Ae HR.o rfl|exact kF hK HR.o):p:=h
theorem je{p:Prop}(h:p:=by rw[Vk,hkd,<-o3];exact En.leaf (P:=fun c=>w.heap.size<=c) aI):p:=h
theorem jf{p:Prop}(h:p:=by rw[Vu,hkd];exact En.leaf (P:=fun c=>w.heap.size<=c) aI):p:=h
theorem jg{p:Prop}(h:p:=by exact Bc.no HN.o rfl ((Aq _ _).alloc (Al _) _)):p:=h
theorem jh{p:Prop}(h:p:=by exact Jm.of (b:=true) (HF.o.trans Hr.o) rfl rfl (Hs2.o.below ((Aq _ _).alloc (Al _) _)) aY):p:=h
theorem ji{p:Prop}(h:p:=by exact⟨_,rfl,.inl ⟨rfl,HN.o⟩⟩):p:=h
theorem jk{p:Prop}(h:p:=by exact⟨HX,.inl ⟨rfl,HN.o⟩⟩):p:=h
theorem jn{p:Prop}(h:p:=by first|exact hpre.1|exact hpre.2):p:=h
theorem jo{p:Prop}(h:p:=by exact hK _ _ _ Ae Ae hn rfl):p:=h
theorem jp{p:Prop}(h:p:=by have h:=Fb (.slice A xs.length c) xs k W' (hsc.below hW') hk;rw[hrf,hx]at h;exact h):p:=h
theorem jq{p:Prop}(h:p:=by go_ret;exact⟨rfl,Hb2.o⟩):p:=h
theorem jr{p:Prop}(h:p:=by exact aG (v:=.agg (Ew (.mk 91 [] 0 (Av ys)) (.slice A ys.length c)).toArray) (Ba results140 _ _ (w.heap.size+1) _ _ rfl Z.2 underlying68 rfl aN) rfl Z.1):p:=h
theorem ju{p:Prop}(h:p:=by exact aG (v:=.agg (Ew (.mk 91 [] 0 (Av ys)) (.slice A5 ys.length c5)).toArray) (Ba results140 _ _ (w.heap.size+1) _ _ rfl Z.2 underlying68 rfl aN) rfl Z.1):p:=h
theorem jv{p:Prop}(h:p:=by go_simp;exact hK undef _ _ Ae Ae (by simpa using hst) aJ):p:=h
theorem jw{p:Prop}(h:p:=by exact hK _ _ _ rfl Ae (hB.trans (hb5.mono hB.size)) aJ):p:=h
theorem jx{p:Prop}(h:p:=by exact⟨rfl,Hb3.o⟩):p:=h
theorem jy{p:Prop}(h:p:=by intro v6 w6 hown hg hwh;obtain⟨hn,A6,c6,e6⟩:=Mt.app (uc:=U 11) (ub:=U 12) (Al _) hgl HS9.o.bs HS9.o hF hR8 hg8 hv8 hL8 l11 l12 h16 hown hg hwh;exact hK _ _ _ Ae Ae hn rfl):p:=h
theorem jz{p:Prop}(h:p:=by have x2:=HR.o.old h14 (show w1.heap.size<W4.heap.size by omega) aI X4.o;go_simp;first|exact hK _ _ _ rfl Ae HR.o rfl|exact kF hK HR.o):p:=h
theorem jA{p:Prop}(h:p:=by have hS:=(HS5.o.putK (K4.o.mono (Q:=fun c=>w1.heap.size+3<=c/\(Value.slice (some ⟨W9.heap.size,0,none⟩) 1 1).ownBlock≠some c) fun c hc _=>⟨by have:WC.heap.size<=c:=hc;omega,fun e=>by have:WC.heap.size<=c:=hc;injection e with e;simp only at e;omega⟩)).done aK aK;rw[Hsv.o f Hf.o];exact hS.mono fun c hc _=>aI):p:=h
theorem jB{p:Prop}(h:p:=by go_ret;exact⟨(dt++58::(nm++[58]))++l,q+1,by simp,⟨Km.kind Hpre2.o.1 Hpre2.o.2 Hl.o,by simp;omega⟩,by omega,HR3.o,Hg3.o⟩):p:=h
theorem jC{p:Prop}(h:p:=by exact⟨tg+1+a,by simp,by omega⟩):p:=h
end Go.Proofs.YtmmhmlmfhpfgbaaGreatDoor
