/- What the other texts share. Conditions: as each theorem names them. -/
import Derived.Test.YtpjijpcemejlnaaGreatDoorProg
import Derived.WalkKit
import Derived.WalkSmall
import Derived.WalkSpells
import Derived.WalkLawsBesides
import Derived.Below
import Derived.Lib.Hide
import Derived.Lib.BufferRead
import Derived.Laws.BytesArg
import Derived.Deep.MidRow
set_option maxRecDepth 100000
set_option maxHeartbeats 32000000
set_option linter.unusedVariables false
set_option linter.unusedSimpArgs false
namespace Go.Proofs.YtpjijpcemejlnaaGreatDoor
open Go.RowKit Go.Proofs.Tryz
theorem kF {φ R : Value → World → Prop} {f : Value → Act} {K : Act → World → Prop} (hK : ∀ v w' a', φ v w' → True → R v w' → a' = f v → K a' w') {v : Value} {w' : World} {a' : Act} (h : R v w') (h1 : φ v w' := by first | exact rfl | exact True.intro) (h2 : a' = f v := by first | exact rfl | (simp [Act.put, hpre]; done) | (simp [Act.put, hpre]; exact rfl)) (h3 : v = v := by first | exact @rfl _ undef | exact rfl) : K a' w' := hK v w' a' h1 True.intro h h2
instance:Coe (List UInt8) Value:=⟨fun l=>.string ⟨l.toArray⟩⟩
instance:Coe Int Value:=⟨fun l=>.int .i64 l⟩
instance:Coe Nat Value:=⟨fun b=>.pointer (some ⟨b,0,none⟩)⟩
instance:Coe World Nat:=⟨fun w=>w.heap.size⟩
instance(b i:Nat):CoeDep (Nat×Nat) (b,i) Addr:=⟨⟨b,i,none⟩⟩
instance(b i:Nat):CoeDep (Nat×Nat) (b,i) (Option Addr):=⟨some ⟨b,i,none⟩⟩
instance(b i:Nat):CoeDep (Nat×Nat) (b,i) Value:=⟨.pointer (some ⟨b,i,none⟩)⟩
instance(b i:Nat):CoeDep (Nat×Nat) (b,i) (Option Value):=⟨some (.pointer (some ⟨b,i,none⟩))⟩
instance(b:World)(i:Nat):CoeDep (World×Nat) (b,i) Addr:=⟨⟨b.heap.size,i,none⟩⟩
instance(b:World)(i:Nat):CoeDep (World×Nat) (b,i) (Option Addr):=⟨some ⟨b.heap.size,i,none⟩⟩
instance(b:World)(i:Nat):CoeDep (World×Nat) (b,i) Value:=⟨.pointer (some ⟨b.heap.size,i,none⟩)⟩
instance(b:World)(i:Nat):CoeDep (World×Nat) (b,i) (Option Value):=⟨some (.pointer (some ⟨b.heap.size,i,none⟩))⟩
instance(b:World)(n i:Nat):CoeDep (World×Nat×Nat) (b,n,i) Addr:=⟨⟨b.heap.size+n,i,none⟩⟩
instance(b:World)(n i:Nat):CoeDep (World×Nat×Nat) (b,n,i) (Option Addr):=⟨some ⟨b.heap.size+n,i,none⟩⟩
instance(b:World)(n i:Nat):CoeDep (World×Nat×Nat) (b,n,i) Value:=⟨.pointer (some ⟨b.heap.size+n,i,none⟩)⟩
instance(b:World)(n i:Nat):CoeDep (World×Nat×Nat) (b,n,i) (Option Value):=⟨some (.pointer (some ⟨b.heap.size+n,i,none⟩))⟩
inductive Ea0|z
def a8:Ea0:=.z
instance:Coe Ea0 Value:=⟨fun _=>.string ⟨#[]⟩⟩
theorem aa:type_of% @World.rangeAt_setCells_same:=@World.rangeAt_setCells_same
theorem ac:type_of% @Nat.lt_of_lt_of_le:=@Nat.lt_of_lt_of_le
theorem ad:type_of% @Nat.le_trans:=@Nat.le_trans
theorem ae:type_of% @List.getElem_mem:=@List.getElem_mem
theorem af:type_of% @List.mem_append:=@List.mem_append
theorem ag:type_of% @Nat.zero_le:=@Nat.zero_le
theorem ah:type_of% @List.length_append:=@List.length_append
theorem ai:type_of% @World.there_setCells:=@World.there_setCells
theorem aj:type_of% @Option.some.injEq:=@Option.some.injEq
theorem ak:type_of% @World.rangeAt_setCells_apart:=@World.rangeAt_setCells_apart
theorem am:type_of% @Nat.zero_add:=@Nat.zero_add
theorem an:type_of% @Bool.false_eq_true:=@Bool.false_eq_true
theorem ao:type_of% @List.mem_map_of_mem:=@List.mem_map_of_mem
theorem ap:type_of% @List.mem_singleton:=@List.mem_singleton
theorem aq:type_of% @World.there_alloc:=@World.there_alloc
theorem ar:type_of% @List.take_of_length_le:=@List.take_of_length_le
theorem au:type_of% @List.cons_append:=@List.cons_append
theorem av:type_of% @Bool.and_eq_true:=@Bool.and_eq_true
theorem aw:type_of% @List.mem_map:=@List.mem_map
theorem ax:type_of% @List.map_cons:=@List.map_cons
theorem ay:type_of% @List.map_append:=@List.map_append
theorem az:type_of% @List.mem_cons:=@List.mem_cons
theorem aA:type_of% @World.cell?_drew:=@World.cell?_drew
theorem aB:type_of% @decide_eq_false:=@decide_eq_false
theorem aC:type_of% @decide_eq_true:=@decide_eq_true
theorem aD:type_of% @Prod.mk.injEq:=@Prod.mk.injEq
theorem aE:type_of% @bodyPost_ret:=@bodyPost_ret
theorem aF:type_of% @Nat.lt_or_ge:=@Nat.lt_or_ge
theorem aG{p:Prop}(h:p:=by omega):p:=h
theorem aH{p:Prop}(h:p:=by simp[Act.put,hpre]):p:=h
theorem aI{p:Prop}(h:p:=by first|exact hpre|exact hpre.1|exact hpre.2|exact hpre.2.1|exact hpre.1.1|exact hpre.2.2.1):p:=h
theorem aJ{p:Prop}(h:p:=by decide):p:=h
theorem aK{p:Prop}(h:p:=by simp):p:=h
theorem aL{p:Prop}(h:p:=by first|exact Ao _|(simp;omega)|omega):p:=h
theorem aM{p:Prop}(h:p:=by kernel_rfl):p:=h
theorem aN{p:Prop}(h:p:=by simp;omega):p:=h
theorem aO{p:Prop}(h:p:=by (repeat (first|exact At _ _|refine Below.setCell ?_ (by first|exact Ao _|(simp;done)|(simp;omega)|omega) _|refine Below.alloc ?_ (by first|exact Ao _|(simp;done)|(simp;omega)|omega) _|refine Below.drew ?_|refine below_drewN ?_ _))):p:=h
theorem aP{p:Prop}(h:p:=by first|exact Ao _|(simp;done)|(simp;omega)|omega):p:=h
theorem aQ{p:Prop}(h:p:=by (repeat (first|exact Hb2.o|refine Below.setCell ?_ (by first|exact Ao _|(simp;omega)|omega) _|refine Below.alloc ?_ (by first|exact Ao _|(simp;omega)|omega) _|refine Below.drew ?_))):p:=h
theorem aR{p:Prop}(h:p:=by first|rfl|(simp[Act.put,hpre];done)|(simp[Act.put,hpre];omega)):p:=h
theorem aS{p:Prop}(h:p:=by simp[Act.put,hpre,hpe]):p:=h
theorem aT{p:Prop}(h:p:=by (repeat (first|exact Hb.o|refine Below.setCell ?_ (by first|exact Ao _|(simp;omega)|omega) _|refine Below.alloc ?_ (by first|exact Ao _|(simp;omega)|omega) _|refine Below.drew ?_))):p:=h
theorem aU{p:Prop}(h:p:=by (repeat (first|exact Hb4.o|refine Below.setCell ?_ (by first|exact Ao _|exact Hb4.o.size|(simp;done)|(simp;omega)|omega) _|refine Below.alloc ?_ (by first|exact Ao _|exact Hb4.o.size|(simp;done)|(simp;omega)|omega) _|refine Below.drew ?_))):p:=h
theorem aV{p:Prop}(h:p:=by rw[HS9.o];refine Ah _ (Ao _) _ _ _ ?_;first|with_reducible exact Hb.o|exact Hb.o.alloc Hb.o.size _):p:=h
theorem aW{p:Prop}(h:p:=by (repeat (first|exact Hb2.o|refine Below.setCell ?_ (by first|exact Ao _|exact Hb2.o.size|(simp;done)|(simp;omega)|omega) _|refine Below.alloc ?_ (by first|exact Ao _|exact Hb2.o.size|(simp;done)|(simp;omega)|omega) _))):p:=h
theorem aX{p:Prop}(h:p:=by (repeat (first|exact Hb5.o|refine Below.setCell ?_ (by first|exact Ao _|(simp;omega)|omega) _|refine Below.alloc ?_ (by first|exact Ao _|(simp;omega)|omega) _|refine Below.drew ?_))):p:=h
theorem aY{p:Prop}(h:p:=by first|(simp[Act.put,hpre];done)|(simp[Act.put,hpre];omega)):p:=h
theorem aZ{p:Prop}(h:p:=by (repeat (first|exact HbW.o|refine Below.setCell ?_ (by first|exact Ao _|(simp;done)|(simp;omega)|omega) _|refine Below.alloc ?_ (by first|exact Ao _|(simp;done)|(simp;omega)|omega) _|refine Below.drew ?_|refine below_drewN ?_ _))):p:=h
theorem b7{p:Prop}(h:p:=by first|exact Ao _|exact Hb2.o.size|(simp;done)|(simp;omega)|omega):p:=h
theorem ba{p:Prop}(h:p:=by first|exact Ao _|exact Hb4.o.size|(simp;done)|(simp;omega)|omega):p:=h
theorem bc{p:Prop}(h:p:=by rw[HS9.o];exact aa _ _ _ _ (by first|exact aq HT.o _|exact HT.o)):p:=h
theorem bg{p:Prop}(h:p:=by simpa using h):p:=h
theorem bh{p:Prop}(h:p:=by first|omega|(simp;omega)):p:=h
theorem bi{p:Prop}(h:p:=by rw[hp];simp):p:=h
theorem bj{p:Prop}(h:p:=by unfold maxLen;omega):p:=h
theorem bn{p:Prop}(h:p:=by have:=Hsl.o;simp at this;omega):p:=h
theorem bp{p:Prop}(h:p:=by unfold Addr.add;split<;>simp_all):p:=h
theorem bq{p:Prop}(h:p:=by rw[hfz4 w.heap.size j (by simp;omega)];simp[go_sem,hfz2,hfz,hzz,hz3]):p:=h
theorem br{p:Prop}(h:p:=by rw[HS9.o];refine Ah _ (Ao _) _ _ _ ?_;first|with_reducible exact Hb4.o|exact Hb4.o.alloc Hb4.o.size _):p:=h
theorem bu{p:Prop}(h:p:=by rw[HS9.o];refine Ah _ (Ao _) _ _ _ ?_;first|with_reducible exact Hb6.o|exact Hb6.o.alloc Hb6.o.size _):p:=h
theorem bv{p:Prop}(h:p:=by rw[hc4 w 0 (by simp;omega)];simp[go_sem,hc2,hc,hzz,hz3]):p:=h
theorem bw{p:Prop}(h:p:=by rw[hc4 w 1 (by simp;omega)];simp[go_sem,hc2,hc,hzz,hz3]):p:=h
theorem bz{p:Prop}(h:p:=by rw[hc4 w 2 (by simp;omega)];simp[go_sem,hc2,hc,hzz,hz3]):p:=h
theorem bB{p:Prop}(h:p:=by rw[hc4 w 3 (by simp;omega)];simp[go_sem,hc2,hc,hzz,hz3]):p:=h
theorem bC{p:Prop}(h:p:=by (repeat (first|exact Hb4.o|refine Below.setCell ?_ (by first|exact Ao _|(simp;omega)|omega) _|refine Below.alloc ?_ (by first|exact Ao _|(simp;omega)|omega) _|refine Below.drew ?_|refine Below.trans ?_ (hb6.mono (by first|exact Ao _|(simp;omega)|omega))))):p:=h
theorem bD{p:Prop}(h:p:=by (repeat (first|exact Hb.o|refine Below.setCell ?_ (by first|exact Ao _|(simp;omega)|omega) _|refine Below.alloc ?_ (by first|exact Ao _|(simp;omega)|omega) _|refine Below.drew ?_|refine Below.trans ?_ (hb6.mono (by first|exact Ao _|(simp;omega)|omega))))):p:=h
theorem bE{p:Prop}(h:p:=by rw[hb];decide):p:=h
theorem bF{p:Prop}(h:p:=by first|exact aq HT.o _|exact HT.o):p:=h
theorem bG{p:Prop}(h:p:=by (repeat (first|exact hbr.o|refine Below.setCell ?_ (by first|exact Ao _|(simp;done)|(simp;omega)|omega) _|refine Below.alloc ?_ (by first|exact Ao _|(simp;done)|(simp;omega)|omega) _|refine Below.drew ?_|refine below_drewN ?_ _))):p:=h
theorem bH{p:Prop}(h:p:=by simp[Act.put,hpre,u5]):p:=h
theorem bI{p:Prop}(h:p:=by rw[hfz w.heap.size j (by simp)];simp):p:=h
theorem bJ{p:Prop}(h:p:=by simp[Act.put,hpre];done):p:=h
theorem bK{p:Prop}(h:p:=by have:=Am hne;simpa using this):p:=h
theorem bL{p:Prop}(h:p:=by simp[Act.put,hpre,H64.o]):p:=h
theorem bM{p:Prop}(h:p:=by (repeat (first|exact Hb5.o|refine Below.setCell ?_ (by first|exact Ao _|(simp;done)|(simp;omega)|omega) _|refine Below.alloc ?_ (by first|exact Ao _|(simp;done)|(simp;omega)|omega) _|refine Below.drew ?_))):p:=h
theorem bN{p:Prop}(h:p:=by rw[HS9.o];exact aa _ _ _ _ (by first|exact aq HT4.o _|exact HT4.o)):p:=h
theorem bO{p:Prop}(h:p:=by rw[HS9.o];exact aa _ _ _ _ (by first|exact aq HT6.o _|exact HT6.o)):p:=h
theorem bP{p:Prop}(h:p:=by rw[hfz4 w2.heap.size j (by simp)];simp):p:=h
theorem bQ{p:Prop}(h:p:=by simp[hl,go_sem]):p:=h
theorem bR{p:Prop}(h:p:=by have:=Bk hne;simpa using this):p:=h
theorem bS{p:Prop}(h:p:=by rw[beq_eq_false_iff_ne];omega):p:=h
theorem bT{p:Prop}(h:p:=by simp[Act.put,hpre,um]):p:=h
theorem bU{p:Prop}(h:p:=by simp[Value.oneCell']):p:=h
theorem bV{p:Prop}(h:p:=by have e:10 ^ (2+1)=1000:=rfl;omega):p:=h
theorem bW{p:Prop}(h:p:=by unfold Br Ck;rw[hs0,hb];rfl):p:=h
theorem bX{p:Prop}(h:p:=by intro e;injection e with e;omega):p:=h
theorem bY{p:Prop}(h:p:=by rw[Hs.o];simp):p:=h
theorem bZ{p:Prop}(h:p:=by rw[hc w 0 (by simp)];simp):p:=h
theorem cd{p:Prop}(h:p:=by rw[hc w 1 (by simp)];simp):p:=h
theorem ce{p:Prop}(h:p:=by rw[hc w 2 (by simp)];simp):p:=h
theorem cf{p:Prop}(h:p:=by rw[hfz3 _ _ (by omega),hfz2 _ _ (by simp)];go_simp):p:=h
theorem ch{p:Prop}(h:p:=by have:=Am hst;simpa using this):p:=h
theorem ci{p:Prop}(h:p:=by rw[hcc _ _ (by omega),hc2 _ _ (by simp)];go_simp):p:=h
theorem cj{p:Prop}(h:p:=by unfold Bo;rw[if_pos rfl,hp];cases H6 [a,b]<;>rfl):p:=h
theorem ck{p:Prop}(h:p:=by rw[hc4 w2 0 (by simp)];simp):p:=h
theorem cm{p:Prop}(h:p:=by rw[hc4 w2 1 (by simp)];simp):p:=h
theorem cn{p:Prop}(h:p:=by rw[hc4 w2 2 (by simp)];simp):p:=h
theorem co{p:Prop}(h:p:=by rw[hc4 w2 3 (by simp)];simp):p:=h
theorem cp{p:Prop}(h:p:=by rw[hw2];go_simp):p:=h
theorem cq{p:Prop}(h:p:=by intro h;rcases h with h|h;omega;exact h4 h):p:=h
theorem cr{p:Prop}(h:p:=by rw[hfs];simp):p:=h
theorem ct{p:Prop}(h:p:=by simp[hsg]):p:=h
theorem cu{p:Prop}(h:p:=by unfold maxLen;have:=Hsp.o;have:=Hsl.o;simp at this;omega):p:=h
theorem cv{p:Prop}(h:p:=by simp at hkl ⊢;omega):p:=h
theorem cw{p:Prop}(h:p:=by have e:10 ^ (5+1)=1000000:=rfl;omega):p:=h
theorem cx{p:Prop}(h:p:=by have:=Hsl.o;omega):p:=h
theorem cy{p:Prop}(h:p:=by rw[HB.o]at hy;injection hy with hy;subst hy;exact HV.o):p:=h
theorem cz{p:Prop}(h:p:=by simpa using Ac HR6.o 2 rfl):p:=h
theorem cC{p:Prop}(h:p:=by simpa using Ac HR6.o 3 rfl):p:=h
theorem cD{p:Prop}(h:p:=by simpa using he):p:=h
theorem cE{p:Prop}(h:p:=by cases s with|nil=>exact absurd rfl hne|cons c z=>rfl):p:=h
theorem cF{p:Prop}(h:p:=by first|exact aq HT4.o _|exact HT4.o):p:=h
theorem cG{p:Prop}(h:p:=by first|exact aq HT6.o _|exact HT6.o):p:=h
theorem cH{p:Prop}(h:p:=by rw[hfin.o,e7];cases b4<;>simp[h20]):p:=h
theorem cI{p:Prop}(h:p:=by rw[<-hW0];simp[go_sem,u0,hn1,hn2]):p:=h
theorem cJ{p:Prop}(h:p:=by rw[<-hW0];simp[go_sem,u1,hn1,hn2]):p:=h
theorem cK{p:Prop}(h:p:=by rw[<-hW0];simp[go_sem,u2,hn1,hn2]):p:=h
theorem cL{p:Prop}(h:p:=by rw[<-hW0];simp[go_sem,u3,hn1,hn2]):p:=h
theorem cM{p:Prop}(h:p:=by unfold Br Ck;rw[hs,if_pos hb];rfl):p:=h
theorem cN{p:Prop}(h:p:=by simp[Ay]at hL9 ⊢;omega):p:=h
theorem cO{p:Prop}(h:p:=by rw[HS9.o];refine Ah _ (Ao _) _ _ _ ?_;first|with_reducible exact Hb7.o|exact Hb7.o.alloc Hb7.o.size _):p:=h
theorem cP{p:Prop}(h:p:=by rw[<-hW0];simp[go_sem,hzf,d2,f2]):p:=h
theorem cQ{p:Prop}(h:p:=by rw[<-hW0];simp[go_sem,hzf,d3,f2]):p:=h
theorem cR{p:Prop}(h:p:=by have:=hk.2.2;omega):p:=h
theorem cS{p:Prop}(h:p:=by rw[HS6.o,Cr];exact hz5):p:=h
theorem cT{p:Prop}(h:p:=by repeat (first|exact Hb2.o.alloc Hb2.o.size _|refine Below.drew ?_|refine below_drewN ?_ _)):p:=h
theorem cU{p:Prop}(h:p:=by rw[hq];simp):p:=h
theorem cV{p:Prop}(h:p:=by unfold Br;rw[hs];rfl):p:=h
theorem cW{p:Prop}(h:p:=by first|exact hpre.2|exact hpre.1.2|exact hpre.2.2|exact hpre.2.1.2|exact hpre.1.1.2):p:=h
theorem cX{p:Prop}(h:p:=by rw[<-hW0];simp[go_sem,hzb]):p:=h
theorem cY{p:Prop}(h:p:=by rw[ar (by omega)];exact hf):p:=h
theorem cZ{p:Prop}(h:p:=by rw[<-hW0];simp[go_sem,d0]):p:=h
theorem d7{p:Prop}(h:p:=by rw[<-hW0];simp[go_sem,d1]):p:=h
theorem d9{p:Prop}(h:p:=by rw[<-hW0];simp[go_sem,f1]):p:=h
theorem da{p:Prop}(h:p:=by rw[h85];decide):p:=h
theorem db{p:Prop}(h:p:=by rw[hw2];exact Hb1.o.alloc Hb1.o.size _):p:=h
theorem dc{p:Prop}(h:p:=by show w.heap.size+1<w.heap.size+2;omega):p:=h
theorem de{p:Prop}(h:p:=by rw[hf];simp):p:=h
theorem df{p:Prop}(h:p:=by rw[(Bs hb1).1 _ _ (by simp)];go_simp):p:=h
theorem dg{p:Prop}(h:p:=by rw[h2];decide):p:=h
theorem dh{p:Prop}(h:p:=by rw[hfin.o,e7];simp[h20]):p:=h
theorem di{p:Prop}(h:p:=by rw[hs];decide):p:=h
theorem dj{p:Prop}(h:p:=by rw[hw2,aA];exact Ei (by omega) X0.o):p:=h
theorem dl{p:Prop}(h:p:=by show w.heap.size<w3.heap.size;omega):p:=h
theorem dm{p:Prop}(h:p:=by have:=Hb4.o.size;have:=HB0.o;omega):p:=h
theorem dn{p:Prop}(h:p:=by rw[decide_eq_false_iff_not];omega):p:=h
theorem dp{p:Prop}(h:p:=by rw[hw1];simp):p:=h
theorem dq{p:Prop}(h:p:=by rw[H7];simp[Ch];omega):p:=h
theorem dr{p:Prop}(h:p:=by simp[Act.put,hpre,q2]):p:=h
theorem dt{p:Prop}(h:p:=by rw[HS9.o];exact aa _ _ _ _ (by first|exact aq HT7.o _|exact HT7.o)):p:=h
theorem du{p:Prop}(h:p:=by first|exact Ao _|exact HbW4.o.size|(simp;done)|(simp;omega)|omega):p:=h
theorem dv{p:Prop}(h:p:=by rw[bne_iff_ne];omega):p:=h
theorem dx{p:Prop}(h:p:=by rfl):p:=h
theorem dy{p:Prop}(h:p:=by simpa using h1):p:=h
theorem dz{p:Prop}(h:p:=by simpa using h2):p:=h
theorem dA{p:Prop}(h:p:=by simpa using hr):p:=h
theorem dB{p:Prop}(h:p:=by simpa using ht):p:=h
theorem dC{p:Prop}(h:p:=by simpa using hu):p:=h
theorem dD{p:Prop}(h:p:=by simp at hz ⊢;exact .inr hz):p:=h
theorem dE{p:Prop}(h:p:=by simp[Hs.o]):p:=h
theorem dF{p:Prop}(h:p:=by unfold Ha;rw[h9];simp[Al,hc]):p:=h
theorem dG{p:Prop}(h:p:=by have:=Hkl.o;omega):p:=h
theorem dH{p:Prop}(h:p:=by rw[hc6 w 0 (by simp;omega)];simp[go_sem,u0,hn1,hn2,hzz]):p:=h
theorem dI{p:Prop}(h:p:=by rw[hc6 w 1 (by simp;omega)];simp[go_sem,u1,hn1,hn2,hzz]):p:=h
theorem dJ{p:Prop}(h:p:=by rw[hc6 w 2 (by simp;omega)];simp[go_sem,u2,hn1,hn2,hzz]):p:=h
theorem dK{p:Prop}(h:p:=by have:=congrArg List.length h;simp[D4,Kw]at this;omega):p:=h
theorem dL{p:Prop}(h:p:=by simp[h64]):p:=h
theorem dM{p:Prop}(h:p:=by rw[List.getElem_map];exact(Hk.o _ (ae hlt)).after hW):p:=h
theorem dN{p:Prop}(h:p:=by simp[Act.put,hpre,u7,q2]):p:=h
theorem dO{p:Prop}(h:p:=by unfold Aj;rw[hs0,hb];rfl):p:=h
theorem dP{p:Prop}(h:p:=by decide +kernel):p:=h
theorem dQ{p:Prop}(h:p:=by have:=Hbr.o.size;omega):p:=h
theorem dR{p:Prop}(h:p:=by rw[HS9.o];exact Ah _ (by omega) _ _ _ (B4.o _)):p:=h
theorem dS{p:Prop}(h:p:=by simp[Act.put,hpre,hwd]):p:=h
theorem dT{p:Prop}(h:p:=by simpa using hp):p:=h
theorem dU{p:Prop}(h:p:=by have:=(h.row.lt B e.symm).1;have:=h.hB;omega):p:=h
theorem dV{p:Prop}(h:p:=by intro h;rcases h with h|h;omega;exact hne h):p:=h
theorem dW{p:Prop}(h:p:=by obtain⟨_,_,_,_,_,hf⟩:=hsc;exact hf _ hm):p:=h
theorem dX{p:Prop}(h:p:=by rw[Hn.o,Hr.o]):p:=h
theorem dY{p:Prop}(h:p:=by have:=Hsp.o;have:=Hsl.o;simp at this;omega):p:=h
theorem dZ{p:Prop}(h:p:=by simp at hl ⊢;omega):p:=h
theorem ee{p:Prop}(h:p:=by simp[Bh,D7,H9];omega):p:=h
theorem ef{p:Prop}(h:p:=by simp[Value.ownBlock]):p:=h
theorem eh{p:Prop}(h:p:=by have:=hw.size;omega):p:=h
theorem ei{p:Prop}(h:p:=by rw[Hg.o];rfl):p:=h
theorem ej{p:Prop}(h:p:=by simpa [hji]using hj):p:=h
theorem en{p:Prop}(h:p:=by have e:10 ^ (8+1)=1000000000:=rfl;omega):p:=h
theorem eo{p:Prop}(h:p:=by rw[hw2];simp;omega):p:=h
theorem ep{p:Prop}(h:p:=by simp[Du]):p:=h
theorem eu{p:Prop}(h:p:=by have e6:10 ^ (5+1)=1000000:=rfl;omega):p:=h
theorem ev{p:Prop}(h:p:=by rw[Bw];cases bad;exact Ni;exact Ao _):p:=h
theorem ew{p:Prop}(h:p:=by rw[hW3];exact(At _ _).alloc (Ao _) _):p:=h
theorem ey{p:Prop}(h:p:=by rw[hW5];exact(At _ _).alloc (Ao _) _):p:=h
theorem ez{p:Prop}(h:p:=by first|exact aq HT7.o _|exact HT7.o):p:=h
theorem eC{p:Prop}(h:p:=by simp at hs;omega):p:=h
theorem eD{p:Prop}(h:p:=by have:=hb1.size;simp at this;omega):p:=h
theorem eE{p:Prop}(h:p:=by have:=hb4.size;simp at this;omega):p:=h
theorem eF{p:Prop}(h:p:=by rw[hfz4 w.heap.size j aN];simp[go_sem,hfz2,hfz,hzz,hz3]):p:=h
theorem eG{p:Prop}(h:p:=by rw[hc4 w 0 aN];simp[go_sem,hc2,hc,hzz,hz3]):p:=h
theorem eH{p:Prop}(h:p:=by rw[hc4 w 1 aN];simp[go_sem,hc2,hc,hzz,hz3]):p:=h
theorem eI{p:Prop}(h:p:=by rw[hc4 w 2 aN];simp[go_sem,hc2,hc,hzz,hz3]):p:=h
theorem eJ{p:Prop}(h:p:=by rw[hc4 w 3 aN];simp[go_sem,hc2,hc,hzz,hz3]):p:=h
theorem eK{p:Prop}(h:p:=by rw[hfz w.heap.size j aK];simp):p:=h
theorem eL{p:Prop}(h:p:=by rw[hfz4 w2.heap.size j aK];simp):p:=h
theorem eM{p:Prop}(h:p:=by rw[hc w 0 aK];simp):p:=h
theorem eN{p:Prop}(h:p:=by rw[hc w 1 aK];simp):p:=h
theorem eO{p:Prop}(h:p:=by rw[hc w 2 aK];simp):p:=h
theorem eP{p:Prop}(h:p:=by rw[hfz3 _ _ aG,hfz2 _ _ aK];go_simp):p:=h
theorem eQ{p:Prop}(h:p:=by rw[hc4 w2 0 aK];simp):p:=h
theorem eR{p:Prop}(h:p:=by rw[hc4 w2 1 aK];simp):p:=h
theorem eS{p:Prop}(h:p:=by rw[hc4 w2 2 aK];simp):p:=h
theorem eT{p:Prop}(h:p:=by rw[hc4 w2 3 aK];simp):p:=h
theorem eV{p:Prop}(h:p:=by rw[hcc _ _ aG,hc2 _ _ aK];go_simp):p:=h
theorem eW{p:Prop}(h:p:=by
  go_simp
  first|exact hK _ _ _ rfl Ab HR.o rfl|exact kF hK HR.o|exact hK undef _ _ Ab Ab HR.o aH|exact hK _ _ _ Ab Ab HR.o rfl|exact kF hK HR.o):p:=h
theorem eX{p:Prop}(h:p:=by
  repeat (first|exact Aq.nil|(refine Aq.cons ?_ ?_;rotate_left))
  all_goals
   rintro L U W hL hpre HR Hdep K hK
   first|(simp[Region.binds]at hpre;done)|simp[Region.binds]at hpre|clear hpre
  iterate 4
   ·go_simp
    first|exact hK _ _ _ rfl Ab HR.o rfl|exact hK _ _ _ rfl Ab HR.o aS|exact hK undef _ _ Ab Ab HR.o aS|exact hK _ _ _ Ab Ab HR.o rfl|exact hK _ _ _ Ab Ab HR.o aS
  ·go_simp
   refine(HO.o _ ((At W8.heap.size W8).drew.trans (HR.o.mono aK))).mono ?_
   rintro e w9 ⟨rfl,hb⟩
   go_simp
   exact hK _ _ _ rfl Ab (HR.o.trans (hb.mono HR.o.size)) aH
  ·go_simp
   first|exact hK _ _ _ rfl Ab HR.o rfl|exact hK _ _ _ rfl Ab HR.o aS|exact hK undef _ _ Ab Ab HR.o aS|exact hK _ _ _ Ab Ab HR.o rfl|exact hK _ _ _ Ab Ab HR.o aS
  ·have p0:=(HR.o.cell (p:=⟨w.heap.size,0,none⟩) aN).trans ((aA _ _).trans P0.o)
   go_simp
   first|exact hK _ _ _ rfl Ab HR.o rfl|exact kF hK HR.o
  ·have y0:=(HR.o.cell (p:=⟨B,0,none⟩) aN).trans ((aA _ _).trans Y0.o)
   have y1:=(HR.o.cell (p:=⟨B,1,none⟩) aN).trans ((aA _ _).trans Y1.o)
   have y2:=(HR.o.cell (p:=⟨B,2,none⟩) aN).trans ((aA _ _).trans Y2.o)
   have y3:=(HR.o.cell (p:=⟨B,3,none⟩) aN).trans ((aA _ _).trans Y3.o)
   go_simp
   first|exact hK _ _ _ rfl Ab HR.o rfl|exact kF hK HR.o
  ·go_simp
   refine(HS.o _ ((At W8.heap.size W8).drew.trans (HR.o.mono aK))).mono ?_
   rintro e w9 ⟨rfl,hb⟩
   go_simp
   exact hK _ _ _ rfl Ab (HR.o.trans (hb.mono HR.o.size)) aH
  iterate 16
   ·go_simp
    first|exact hK _ _ _ rfl Ab HR.o rfl|exact hK _ _ _ rfl Ab HR.o aS|exact hK undef _ _ Ab Ab HR.o aS|exact hK _ _ _ Ab Ab HR.o rfl|exact hK _ _ _ Ab Ab HR.o aS):p:=h
theorem eY{p:Prop}(h:p:=by
  repeat (first|exact Aq.nil|(refine Aq.cons ?_ ?_;rotate_left))
  all_goals
   rintro L U W hL hpre HR Hdep K hK
   have q0:=(HR.o.be.cell (p:=⟨w.heap.size,0,none⟩) Hl0.o).trans X0.o
   have q1:=(HR.o.be.cell (p:=⟨w1.heap.size,0,none⟩) Hl1.o).trans X1.o
   have q2:=(HR.o.be.cell (p:=⟨w1.heap.size,1,none⟩) Hl1.o).trans X2.o
   have q3:=(HR.o.be.cell (p:=⟨w1.heap.size,2,none⟩) Hl1.o).trans X3.o
   first|(simp[Region.binds]at hpre;done)|simp[Region.binds]at hpre|clear hpre
  iterate 2
   ·go_simp
    first|exact hK _ _ _ rfl Ab HR.o rfl|exact kF hK HR.o|exact hK undef _ _ Ab Ab HR.o aH|exact hK _ _ _ Ab Ab HR.o rfl|exact kF hK HR.o
  ·go_simp
   rw[if_pos aG]
   go_simp
   exact hK (z:List UInt8) _ _ rfl Ab HR.o aH
  ·go_simp
   first|exact hK _ _ _ rfl Ab HR.o rfl|exact kF hK HR.o|exact hK undef _ _ Ab Ab HR.o aH|exact hK _ _ _ Ab Ab HR.o rfl|exact kF hK HR.o
  ·have h5:L 5=false:=Bu Hdep.o 5 4 rfl hL
   have h6:L 6=false:=Bu Hdep.o 6 5 rfl h5
   have h7:L 7=false:=Bu Hdep.o 7 5 rfl h5
   have h8:L 8=false:=Bu Hdep.o 8 5 rfl h5
   have h10:L 10=false:=Bu Hdep.o 10 6 rfl h6
   have h11:L 11=false:=Bu Hdep.o 11 7 rfl h7
   have h12:L 12=false:=Bu Hdep.o 12 8 rfl h8
   go_simp
   refine(HC.o _ HR.o.be).mono ?_
   rintro e w5 hp
   obtain⟨n,a,b,c,r,rfl,hF,hb⟩:=hp.q
   go_simp
   exact hK _ _ _ Ab Ab (HR.o.call h5 h6 h7 h8 h10 h11 h12 hF hb) aH
  ·have l4:L 4=true:=aI
   go_simp
   exact hK (U 4) _ _ Ab Ab (HR.o.move l4) aH
  ·have l5:L 5=true:=aI
   have l4:L 4=true:=Mj (Bu Hdep.o 5 4 rfl) l5
   obtain⟨n,a,b,c,r,u5,g0,g1,g2⟩:=HR.o.get l4 l5 (fun h=>Bu Hdep.o 10 6 rfl h)
   simp only[u5]
   go_simp
   exact hK _ _ _ Ab Ab (g0 hL) bH
  ·have l5:L 5=true:=aI
   have l4:L 4=true:=Mj (Bu Hdep.o 5 4 rfl) l5
   obtain⟨n,a,b,c,r,u5,g0,g1,g2⟩:=HR.o.get l4 l5 (fun h=>Bu Hdep.o 10 6 rfl h)
   simp only[u5]
   go_simp
   exact hK _ _ _ Ab Ab (g1) bH
  ·have l5:L 5=true:=aI
   have l4:L 4=true:=Mj (Bu Hdep.o 5 4 rfl) l5
   obtain⟨n,a,b,c,r,u5,g0,g1,g2⟩:=HR.o.get l4 l5 (fun h=>Bu Hdep.o 10 6 rfl h)
   simp only[u5]
   go_simp
   exact hK _ _ _ Ab Ab (g2) bH
  ·have h10:L 10=false:=Bu Hdep.o 10 9 rfl hL
   go_simp
   exact hK (.pointer (some ⟨W.heap.size,0,none⟩)) _ _ Ab Ab (HR.o.alloc h10 _) aH
  ·have l9:L 9=true:=aI
   have l6:L 6=true:=aI
   have l5:L 5=true:=Mj (Bu Hdep.o 6 5 rfl) l6
   have l4:L 4=true:=Mj (Bu Hdep.o 5 4 rfl) l5
   obtain⟨n,a,b,c,r,_,_,_,k6,_⟩:=HR.o.yes l4
   obtain⟨B,k9,_⟩:=HR.o.al l9
   have u6:=k6 l6
   obtain⟨g1,g2⟩:=HR.o.store l9 u6 k9
   rw[if_pos dx]
   refine wp_store_mid 94 _ _ rfl B 0 ([(n:Int),a,b,c]:List Value).toArray k9 u6 g1 aM bU ?_
   exact hK undef _ _ Ab Ab g2 rfl
  ·have l7:L 7=true:=aI
   go_simp
   exact hK (U 7) _ _ Ab Ab (HR.o.as1 l7) aH
  ·have l8:L 8=true:=aI
   go_simp
   exact hK (U 8) _ _ Ab Ab (HR.o.as2 l8) aH):p:=h
theorem eZ{p:Prop}(h:p:=by
  go_simp
  first|exact hK _ _ _ rfl Ab HR.o rfl|exact hK _ _ _ rfl Ab HR.o aS|exact hK undef _ _ Ab Ab HR.o aS|exact hK _ _ _ Ab Ab HR.o rfl|exact hK _ _ _ Ab Ab HR.o aS):p:=h
theorem f4{p:Prop}(h:p:=by
  repeat (first|exact Aq.nil|(refine Aq.cons ?_ ?_;rotate_left))
  all_goals
   rintro L U W hL hpre hR hun hdep K hK
   have HR:=Aa hR
   have hB:=HR.o
   have Hun:=Aa hun
   have hBw:=Hbr.o.trans (hB.mono hzr)
   have d2:=(hBw.cell (p:=⟨b,2,none⟩) hb).trans C2.o
   have d3:=(hB.cell (p:=⟨b,3,none⟩) hbw).trans g3
   have d6:=(hB.cell (p:=⟨b6,o6+m,none⟩) hb6).trans C6.o
   have d8:=(hB.cell (p:=⟨b8,o8+m,none⟩) hb8).trans C8.o
   have Hdep:=Aa hdep
   clear hun hdep hR
   first|(simp[Region.binds]at hpre;done)|simp[Region.binds]at hpre|clear hpre
  ·have h20:L 20=false:=Hdep.o 20 _ rfl {on:=0,ground:=Ground.phase} aK dx hL
   have u20:U 20=acc:=(Hun.o 20 h20).trans rfl
   go_simp
   exact hK acc _ _ rfl Ab HR.o (by simp[Act.put,u20])
  iterate 7
   ·go_simp
    first|exact hK _ _ _ rfl Ab HR.o rfl|exact kF hK HR.o|exact hK undef _ _ Ab Ab HR.o aH|exact hK _ _ _ Ab Ab HR.o rfl|exact kF hK HR.o
  ·go_simp
   refine(Hd.o W).mono ?_
   rintro e w3 ⟨rfl,hb3⟩
   exact hK _ _ _ rfl Ab (hB.trans (hb3.mono hB.size)) aH
  ·go_simp
   rw[if_neg bh]
   go_simp
   first|exact hK _ _ _ rfl Ab HR.o rfl|exact kF hK HR.o
  ·go_simp
   rw[if_neg bh]
   go_simp
   first|exact hK _ _ _ rfl Ab HR.o rfl|exact kF hK HR.o
  iterate 7
   ·go_simp
    first|exact hK _ _ _ rfl Ab HR.o rfl|exact kF hK HR.o|exact hK undef _ _ Ab Ab HR.o aH|exact hK _ _ _ Ab Ab HR.o rfl|exact kF hK HR.o
  ·go_simp
   refine(HX.o W hBw).mono ?_
   rintro e w3 ⟨rfl,hb3⟩
   exact hK _ _ _ rfl Ab (hB.trans (hb3.mono hB.size)) aH
  ·go_simp
   rw[if_neg bh]
   go_simp
   first|exact hK _ _ _ rfl Ab HR.o rfl|exact kF hK HR.o
  ·go_simp
   first|exact hK _ _ _ rfl Ab HR.o rfl|exact kF hK HR.o|exact hK undef _ _ Ab Ab HR.o aH|exact hK _ _ _ Ab Ab HR.o rfl|exact kF hK HR.o):p:=h
theorem f5{p:Prop}(h:p:=by
  repeat (first|exact Aq.nil|(refine Aq.cons ?_ ?_;rotate_left))
  all_goals
   rintro L U W hL hpre HR Hdep K hK
   first|(simp[Region.binds]at hpre;done)|simp[Region.binds]at hpre|clear hpre
  iterate 3
   ·go_simp
    first|exact hK _ _ _ rfl Ab HR.o aR|exact hK undef _ _ Ab Ab HR.o aY|exact hK _ _ _ Ab Ab HR.o rfl|exact hK _ _ _ Ab Ab HR.o bJ
  ·go_simp
   rw[E1.o]
   exact hK _ _ _ rfl Ab HR.o aR
  ·go_simp
   first|exact hK _ _ _ rfl Ab HR.o aR|exact hK undef _ _ Ab Ab HR.o aY|exact hK _ _ _ Ab Ab HR.o rfl|exact hK _ _ _ Ab Ab HR.o bJ
  ·obtain⟨R1,R2,R3⟩:=HR.o
   have hB:=R1 hL
   have h10:L 13=false:=Bu Hdep.o 13 5 rfl hL
   go_simp
   exact hK W.heap.size _ _ ⟨_,rfl⟩ Ab ⟨fun h=>by simp at h,fun _=>⟨W,rfl,hB,rfl⟩,fun h=>absurd (h10.symm.trans bg) aJ⟩ aH
  iterate 2
   ·go_simp
    first|exact hK _ _ _ rfl Ab HR.o aR|exact hK undef _ _ Ab Ab HR.o aY|exact hK _ _ _ Ab Ab HR.o rfl|exact hK _ _ _ Ab Ab HR.o bJ
  ·go_simp
   rw[E2.o]
   exact hK _ _ _ rfl Ab HR.o aR
  iterate 2
   ·go_simp
    first|exact hK _ _ _ rfl Ab HR.o aR|exact hK undef _ _ Ab Ab HR.o aY|exact hK _ _ _ Ab Ab HR.o rfl|exact hK _ _ _ Ab Ab HR.o bJ
  ·go_simp
   rw[E1.o]
   exact hK _ _ _ rfl Ab HR.o aR
  ·go_simp
   refine(Hn.o _).mono ?_
   rintro e wz ⟨rfl,rfl⟩
   go_simp
   exact hK _ _ _ rfl Ab HR.o aR
  ·obtain⟨R1,R2,R3⟩:=HR.o
   obtain⟨c,u5⟩:=hpre.1.2
   clear R1 R2 R3
   go_simp
   obtain⟨R1,R2,R3⟩:=HR.o
   exact hK (.pointer (some ⟨c,0,none⟩)) _ _ ⟨c,rfl⟩ Ab ⟨R1,R2,fun _=>u5.symm⟩ bH
  iterate 2
   ·go_simp
    first|exact hK _ _ _ rfl Ab HR.o aR|exact hK undef _ _ Ab Ab HR.o aY|exact hK _ _ _ Ab Ab HR.o rfl|exact hK _ _ _ Ab Ab HR.o bJ):p:=h
theorem f7{p:Prop}(h:p:=by
  go_simp
  first|exact hK _ _ _ rfl Ab HR.o rfl|exact kF hK HR.o|exact hK undef _ _ Ab Ab HR.o aH):p:=h
theorem f9{p:Prop}(h:p:=by
  repeat (first|exact Aq.nil|(refine Aq.cons ?_ ?_;rotate_left))
  all_goals
   rintro L U W hL hpre HR Hdep K hK
   first|(simp[Region.binds]at hpre;done)|simp[Region.binds]at hpre|clear hpre
  ·have h8:L 8=false:=Bu Hdep.o 8 0 rfl hL
   have hW:=HR.o.1 h8
   subst hW
   go_simp
   first|exact hK _ _ _ rfl Ab HR.o rfl|exact kF hK HR.o
  iterate 2
   ·go_simp
    first|exact hK _ _ _ rfl Ab HR.o rfl|exact kF hK HR.o|exact hK undef _ _ Ab Ab HR.o aH|exact hK _ _ _ Ab Ab HR.o rfl|exact kF hK HR.o
  ·go_simp
   rw[E2.o]
   first|exact hK _ _ _ rfl Ab HR.o rfl|exact kF hK HR.o
  iterate 4
   ·go_simp
    first|exact hK _ _ _ rfl Ab HR.o rfl|exact kF hK HR.o|exact hK undef _ _ Ab Ab HR.o aH|exact hK _ _ _ Ab Ab HR.o rfl|exact kF hK HR.o
  ·have hW:=HR.o.1 hL
   subst hW
   go_simp
   have HB6:=((((((Hb3.o.setCell (p:=⟨w.heap.size+1+1,0,none⟩) aN (n0:Int)).setCell (p:=⟨w.heap.size+1+1,1,none⟩) aN a).setCell (p:=⟨w.heap.size+1+1,2,none⟩) aN (.string ⟨b.toArray⟩)).setCell (p:=⟨w.heap.size+1+1,3,none⟩) aN c).alloc aN (.cells #[(n0:Int),a,.string ⟨b.toArray⟩,c] 94)).drew)
   refine hK undef _ _ Ab Ab ⟨fun h=>by simp at h,fun _=>⟨HB6,?_,?_,?_,?_⟩⟩ aH
   all_goals go_simp
  iterate 2
   ·go_simp
    first|exact hK _ _ _ rfl Ab HR.o rfl|exact kF hK HR.o|exact hK undef _ _ Ab Ab HR.o aH|exact hK _ _ _ Ab Ab HR.o rfl|exact kF hK HR.o):p:=h
theorem fa{p:Prop}(h:p:=by
  have y0:=(HR.o.cell (p:=⟨B,0,none⟩) aN).trans ((aA _ _).trans Y0.o)
  have y1:=(HR.o.cell (p:=⟨B,1,none⟩) aN).trans ((aA _ _).trans Y1.o)
  have y2:=(HR.o.cell (p:=⟨B,2,none⟩) aN).trans ((aA _ _).trans Y2.o)
  have y3:=(HR.o.cell (p:=⟨B,3,none⟩) aN).trans ((aA _ _).trans Y3.o)
  go_simp
  first|exact hK _ _ _ rfl Ab HR.o rfl|exact kF hK HR.o):p:=h
theorem fc{p:Prop}(h:p:=by
  go_simp
  rw[if_neg bh]
  go_simp
  first|exact hK _ _ _ rfl Ab HR.o rfl|exact kF hK HR.o):p:=h
theorem fe{p:Prop}(h:p:=by exact An results166 _ _ w.heap.size [.int .i64 0,a8,a8,a8,a8,a8] _ _ rfl rfl HZ.o underlying105 rfl aM):p:=h
theorem ff{p:Prop}(h:p:=by
  repeat (first|exact Aq.nil|(refine Aq.cons ?_ ?_;rotate_left))
  all_goals
   rintro L U W hL hpre HR Hdep K hK
   first|(simp[Region.binds]at hpre;done)|simp[Region.binds]at hpre|clear hpre
  iterate 3
   ·go_simp
    first|exact hK _ _ _ rfl Ab HR.o rfl|exact kF hK HR.o|exact hK undef _ _ Ab Ab HR.o aH|exact hK _ _ _ Ab Ab HR.o rfl|exact kF hK HR.o
  ·obtain⟨R1,R2,R3⟩:=HR.o
   have hB:=R1 hL
   have h10:L 8=false:=Bu Hdep.o 8 3 rfl hL
   go_simp
   exact hK W.heap.size _ _ ⟨_,rfl⟩ Ab ⟨fun h=>by simp at h,fun _=>⟨W,rfl,hB,rfl⟩,fun h=>absurd (h10.symm.trans bg) aJ⟩ aH
  iterate 3
   ·go_simp
    first|exact hK _ _ _ rfl Ab HR.o rfl|exact kF hK HR.o|exact hK undef _ _ Ab Ab HR.o aH|exact hK _ _ _ Ab Ab HR.o rfl|exact kF hK HR.o
  ·go_simp
   rw[E2.o]
   first|exact hK _ _ _ rfl Ab HR.o rfl|exact kF hK HR.o
  ·obtain⟨R1,R2,R3⟩:=HR.o
   obtain⟨c,u5⟩:=hpre.1.2
   clear R1 R2 R3
   go_simp
   obtain⟨R1,R2,R3⟩:=HR.o
   exact hK (.pointer (some ⟨c,0,none⟩)) _ _ ⟨c,rfl⟩ Ab ⟨R1,R2,fun _=>u5.symm⟩ bH
  iterate 2
   ·go_simp
    first|exact hK _ _ _ rfl Ab HR.o rfl|exact kF hK HR.o|exact hK undef _ _ Ab Ab HR.o aH|exact hK _ _ _ Ab Ab HR.o rfl|exact kF hK HR.o):p:=h
theorem fg{p:Prop}(h:p:=by
  go_simp
  first|exact hK _ _ _ rfl Ab HR.o aR|exact hK undef _ _ Ab Ab HR.o aY|exact hK _ _ _ Ab Ab HR.o rfl|exact hK _ _ _ Ab Ab HR.o bJ):p:=h
theorem fh{p:Prop}(h:p:=by
  repeat (first|exact Aq.nil|(refine Aq.cons ?_ ?_;rotate_left))
  all_goals
   rintro L U W hL hpre ⟨q,rfl⟩ hun hdep K hK
   have hlq:=hlook q
   clear hun hdep
   first|(simp[Region.binds]at hpre;done)|simp[Region.binds]at hpre|clear hpre
   go_simp
   first|exact hK _ _ _ rfl Ab ⟨q,rfl⟩ rfl|exact hK _ _ _ rfl Ab ⟨q,rfl⟩ bL|exact hK undef _ _ Ab Ab ⟨q,rfl⟩ bL|exact hK _ _ _ Ab Ab ⟨q,rfl⟩ rfl|exact hK _ _ _ Ab Ab ⟨q,rfl⟩ bL):p:=h
theorem fi{p:Prop}(h:p:=by
  obtain⟨R1,R2,R3⟩:=HR.o
  obtain⟨c,u5⟩:=hpre.1.2
  clear R1 R2 R3
  go_simp
  obtain⟨R1,R2,R3⟩:=HR.o
  exact hK (.pointer (some ⟨c,0,none⟩)) _ _ ⟨c,rfl⟩ Ab ⟨R1,R2,fun _=>u5.symm⟩ bH):p:=h
theorem fj{p:Prop}(h:p:=by
  have Hdec:=Aa (show decide (n<=200)=false by simp;omega)
  rw[Hdec.o]at Hpn
  go_wp2_with fail
  refine(Hpn.o _).mono ?_
  rintro e w3 ⟨rfl,rfl⟩
  go_wp2_with ((with_reducible refine Ad (op:=⟨none,.store 105 _ _,_,_,_,none⟩) rfl 105 _ _ rfl w 0 [.int .i64 0,a8,a8,a8,a8,a8] ?_ ?_ ?_ ?_ ?_ ?_);rfl;rfl;(first|exact aq HT.o _|exact HT.o);kernel_rfl;(simp[Value.oneCell']);intro w9 HS9)
  have HZ:=@Aa (w9.rangeAt w 0 [.int .i64 0,a8,a8,a8,a8,a8]) bc
  refine aE (v:=.tuple #[.agg ([.int .i64 0,a8,a8,a8,a8,a8]:List Value).toArray,.bool false]) ?_ rfl ?_
  ·exact An results166 _ _ w.heap.size [.int .i64 0,a8,a8,a8,a8,a8] _ _ rfl rfl HZ.o underlying105 rfl aM
  exact Dc.no (Hno.o (fun m h=>by have h':=(Hhead.o m).1 h;have:=h'.1;cases this;omega)) rfl aV):p:=h
theorem fk{p:Prop}(h:p:=by
  subst h0
  go_wp2_with fail
  refine(Hpn.o _).mono ?_
  rintro e w3 ⟨rfl,rfl⟩
  go_wp2_with ((with_reducible refine Ad (op:=⟨none,.store 105 _ _,_,_,_,none⟩) rfl 105 _ _ rfl w 0 [.int .i64 0,a8,a8,a8,a8,a8] ?_ ?_ ?_ ?_ ?_ ?_);rfl;rfl;(first|exact aq HT.o _|exact HT.o);kernel_rfl;(simp[Value.oneCell']);intro w9 HS9)
  have HZ:=@Aa (w9.rangeAt w 0 [.int .i64 0,a8,a8,a8,a8,a8]) bc
  refine aE (v:=.tuple #[.agg ([.int .i64 0,a8,a8,a8,a8,a8]:List Value).toArray,.bool false]) ?_ rfl ?_
  ·exact An results166 _ _ w.heap.size [.int .i64 0,a8,a8,a8,a8,a8] _ _ rfl rfl HZ.o underlying105 rfl aM
  exact Dc.no (Hno.o (fun m h=>by have h':=(Hhead.o m).1 h;have:=h'.1;cases this;omega)) rfl aV):p:=h
theorem fl{p:Prop}(h:p:=by
  go_simp
  refine(HO.o _ ((At W8.heap.size W8).drew.trans (HR.o.mono aK))).mono ?_
  rintro e w9 ⟨rfl,hb⟩
  go_simp
  exact hK _ _ _ rfl Ab (HR.o.trans (hb.mono HR.o.size)) aH):p:=h
theorem fm{p:Prop}(h:p:=by
  go_simp
  refine(HS.o _ ((At W8.heap.size W8).drew.trans (HR.o.mono aK))).mono ?_
  rintro e w9 ⟨rfl,hb⟩
  go_simp
  exact hK _ _ _ rfl Ab (HR.o.trans (hb.mono HR.o.size)) aH):p:=h
theorem fq{p:Prop}(h:p:=by
  repeat (first|exact Aq.nil|(refine Aq.cons ?_ ?_;rotate_left))
  all_goals
   rintro L u W hL hpre hR K hK
   first|(simp[Region.binds]at hpre;done)|simp[Region.binds]at hpre|clear hpre
   rcases hl:L 9 with _|_
   all_goals
    first|exact absurd (hl.symm.trans hL) aJ|(
     rw[hl]at hR
     first|rw[if_neg aJ]at hR|rw[if_pos rfl]at hR
     have hR':=hR.symm
     subst hR'
     go_simp
     try (go_at_call 85;refine(Hk.o _).mono ?_;rintro e w' ⟨rfl,rfl⟩)
     first|(refine hK _ _ _ rfl Ab bQ rfl;done)|(refine hK _ _ _ rfl Ab bQ aH;done)|(refine hK undef _ _ rfl Ab bQ aH;done))):p:=h
theorem fr{p:Prop}(h:p:=by
  have p0:=(HR.o.cell (p:=⟨w.heap.size,0,none⟩) aN).trans ((aA _ _).trans P0.o)
  go_simp
  first|exact hK _ _ _ rfl Ab HR.o rfl|exact kF hK HR.o):p:=h
theorem ft{p:Prop}(h:p:=by
  have h8:L 8=false:=Bu Hdep.o 8 7 rfl hL
  have h9:L 9=false:=Bu Hdep.o 9 8 rfl h8
  have h10:L 10=false:=Bu Hdep.o 10 8 rfl h8
  have h11:L 11=false:=Bu Hdep.o 11 8 rfl h8
  have h12:L 12=false:=Bu Hdep.o 12 9 rfl h9
  have h13:L 13=false:=Bu Hdep.o 13 10 rfl h10
  have h14:L 14=false:=Bu Hdep.o 14 11 rfl h11
  have hW:=HR.o.no hL
  subst hW
  go_simp
  refine HCR.o.mono ?_
  rintro e w5 hp
  obtain⟨vp,vr,vk,rfl,hq⟩:=hp.q
  go_simp
  exact hK _ _ _ Ab Ab (Ff.call h8 h9 h10 h11 h12 h13 h14 hq) aH):p:=h
theorem fw{p:Prop}(h:p:=by
  have h5:L 5=false:=Bu Hdep.o 5 4 rfl hL
  have h6:L 6=false:=Bu Hdep.o 6 5 rfl h5
  have h7:L 7=false:=Bu Hdep.o 7 5 rfl h5
  have h8:L 8=false:=Bu Hdep.o 8 5 rfl h5
  have h10:L 10=false:=Bu Hdep.o 10 6 rfl h6
  have h11:L 11=false:=Bu Hdep.o 11 7 rfl h7
  have h12:L 12=false:=Bu Hdep.o 12 8 rfl h8
  go_simp
  refine(HC.o _ HR.o.be).mono ?_
  rintro e w5 hp
  obtain⟨n,a,b,c,r,rfl,hF,hb⟩:=hp.q
  go_simp
  exact hK _ _ _ Ab Ab (HR.o.call h5 h6 h7 h8 h10 h11 h12 hF hb) aH):p:=h
theorem fx{p:Prop}(h:p:=by
  have hW:=HR.o.1 hL
  subst hW
  go_simp
  have HB6:=((((((Hb3.o.setCell (p:=⟨w.heap.size+1+1,0,none⟩) aN (n0:Int)).setCell (p:=⟨w.heap.size+1+1,1,none⟩) aN a).setCell (p:=⟨w.heap.size+1+1,2,none⟩) aN (.string ⟨b.toArray⟩)).setCell (p:=⟨w.heap.size+1+1,3,none⟩) aN c).alloc aN (.cells #[(n0:Int),a,.string ⟨b.toArray⟩,c] 94)).drew)
  refine hK undef _ _ Ab Ab ⟨fun h=>by simp at h,fun _=>⟨HB6,?_,?_,?_,?_⟩⟩ aH
  all_goals go_simp):p:=h
theorem fy{p:Prop}(h:p:=by
  repeat (first|exact Aq.nil|(refine Aq.cons ?_ ?_;rotate_left))
  all_goals
   rintro L U W hL hpre ⟨q,rfl⟩ hun hdep K hK
   have hlq:=hlook q
   clear hun hdep
   first|(simp[Region.binds]at hpre;done)|simp[Region.binds]at hpre|clear hpre
   go_simp
   first|exact hK _ _ _ rfl Ab ⟨q,rfl⟩ rfl|exact hK _ _ _ rfl Ab ⟨q,rfl⟩ aH|exact hK undef _ _ Ab Ab ⟨q,rfl⟩ aH|exact hK _ _ _ Ab Ab ⟨q,rfl⟩ rfl|exact hK _ _ _ Ab Ab ⟨q,rfl⟩ aH):p:=h
theorem fz{p:Prop}(h:p:=by
  have l9:L 9=true:=aI
  have l6:L 6=true:=aI
  have l5:L 5=true:=Mj (Bu Hdep.o 6 5 rfl) l6
  have l4:L 4=true:=Mj (Bu Hdep.o 5 4 rfl) l5
  obtain⟨n,a,b,c,r,_,_,_,k6,_⟩:=HR.o.yes l4
  obtain⟨B,k9,_⟩:=HR.o.al l9
  have u6:=k6 l6
  obtain⟨g1,g2⟩:=HR.o.store l9 u6 k9
  rw[if_pos dx]
  refine wp_store_mid 94 _ _ rfl B 0 ([(n:Int),a,b,c]:List Value).toArray k9 u6 g1 aM bU ?_
  exact hK undef _ _ Ab Ab g2 rfl):p:=h
theorem fA{p:Prop}(h:p:=by
  go_simp
  rw[E2.o]
  first|exact hK _ _ _ rfl Ab HR.o rfl|exact kF hK HR.o):p:=h
theorem fB{p:Prop}(h:p:=by
  obtain⟨R1,R2,R3⟩:=HR.o
  have hB:=R1 hL
  have h10:L 13=false:=Bu Hdep.o 13 5 rfl hL
  go_simp
  exact hK W.heap.size _ _ ⟨_,rfl⟩ Ab ⟨fun h=>by simp at h,fun _=>⟨W,rfl,hB,rfl⟩,fun h=>absurd (h10.symm.trans bg) aJ⟩ aH):p:=h
theorem fC{p:Prop}(h:p:=by
  obtain⟨R1,R2,R3⟩:=HR.o
  have hB:=R1 hL
  have h10:L 8=false:=Bu Hdep.o 8 3 rfl hL
  go_simp
  exact hK W.heap.size _ _ ⟨_,rfl⟩ Ab ⟨fun h=>by simp at h,fun _=>⟨W,rfl,hB,rfl⟩,fun h=>absurd (h10.symm.trans bg) aJ⟩ aH):p:=h
theorem fD{p:Prop}(h:p:=by
  go_simp
  refine(Hd.o W).mono ?_
  rintro e w3 ⟨rfl,hb3⟩
  exact hK _ _ _ rfl Ab (hB.trans (hb3.mono hB.size)) aH):p:=h
theorem fE{p:Prop}(h:p:=by
  have l5:L 5=true:=aI
  have l4:L 4=true:=Mj (Bu Hdep.o 5 4 rfl) l5
  obtain⟨n,a,b,c,r,u5,g0,g1,g2⟩:=HR.o.get l4 l5 (fun h=>Bu Hdep.o 10 6 rfl h)
  simp only[u5]
  go_simp
  exact hK _ _ _ Ab Ab (g0 hL) bH):p:=h
theorem fF{p:Prop}(h:p:=by
  have l5:L 5=true:=aI
  have l4:L 4=true:=Mj (Bu Hdep.o 5 4 rfl) l5
  obtain⟨n,a,b,c,r,u5,g0,g1,g2⟩:=HR.o.get l4 l5 (fun h=>Bu Hdep.o 10 6 rfl h)
  simp only[u5]
  go_simp
  exact hK _ _ _ Ab Ab (g1) bH):p:=h
theorem fG{p:Prop}(h:p:=by
  have l5:L 5=true:=aI
  have l4:L 4=true:=Mj (Bu Hdep.o 5 4 rfl) l5
  obtain⟨n,a,b,c,r,u5,g0,g1,g2⟩:=HR.o.get l4 l5 (fun h=>Bu Hdep.o 10 6 rfl h)
  simp only[u5]
  go_simp
  exact hK _ _ _ Ab Ab (g2) bH):p:=h
theorem fH{p:Prop}(h:p:=by
  have h20:L 20=false:=Hdep.o 20 _ rfl {on:=0,ground:=Ground.phase} aK dx hL
  have u20:U 20=acc:=(Hun.o 20 h20).trans rfl
  go_simp
  exact hK acc _ _ rfl Ab HR.o (by simp[Act.put,u20])):p:=h
theorem fI{p:Prop}(h:p:=by
  have l8:L 8=true:=aI
  have l7:L 7=true:=Mj (Bu Hdep.o 8 7 rfl) l8
  obtain⟨vp,vr,vk,um,g0,g1,g2⟩:=HR.o.get l7 l8
  simp only[um]
  go_simp
  exact hK _ _ _ Ab Ab g0 bT):p:=h
theorem fJ{p:Prop}(h:p:=by
  have l8:L 8=true:=aI
  have l7:L 7=true:=Mj (Bu Hdep.o 8 7 rfl) l8
  obtain⟨vp,vr,vk,um,g0,g1,g2⟩:=HR.o.get l7 l8
  simp only[um]
  go_simp
  exact hK _ _ _ Ab Ab g1 bT):p:=h
theorem fK{p:Prop}(h:p:=by
  have l8:L 8=true:=aI
  have l7:L 7=true:=Mj (Bu Hdep.o 8 7 rfl) l8
  obtain⟨vp,vr,vk,um,g0,g1,g2⟩:=HR.o.get l7 l8
  simp only[um]
  go_simp
  exact hK _ _ _ Ab Ab g2 bT):p:=h
theorem fL{p:Prop}(h:p:=by
  simp only[av,decide_eq_true_eq]at this
  have h4:=this.2
  unfold C7 at h4
  simp only[av,decide_eq_true_eq,List.length_dropLast,List.length_drop]at h4
  omega):p:=h
theorem fM{p:Prop}(h:p:=by
  go_simp
  rw[if_pos aG]
  go_simp
  exact hK (z:List UInt8) _ _ rfl Ab HR.o aH):p:=h
theorem fN{p:Prop}(h:p:=by
  have h7:L 7=false:=Bu Hdep.o 7 0 rfl hL
  have hW:=HR.o.no h7
  subst hW
  go_simp
  first|exact hK _ _ _ rfl Ab HR.o rfl|exact kF hK HR.o):p:=h
theorem fO{p:Prop}(h:p:=by
  have h7:L 7=false:=Bu Hdep.o 7 4 rfl hL
  have hW:=HR.o.no h7
  subst hW
  go_simp
  first|exact hK _ _ _ rfl Ab HR.o rfl|exact kF hK HR.o):p:=h
theorem fP{p:Prop}(h:p:=by
  have h8:L 8=false:=Bu Hdep.o 8 0 rfl hL
  have hW:=HR.o.1 h8
  subst hW
  go_simp
  first|exact hK _ _ _ rfl Ab HR.o rfl|exact kF hK HR.o):p:=h
theorem fQ{p:Prop}(h:p:=by
  intro j y hj
  have e1:(⟨W.heap.size,0,none⟩:Addr).add j=⟨W.heap.size,j,none⟩:=bp
  rw[e1,World.cell?_alloc_new]
  simpa using hj):p:=h
theorem fR{p:Prop}(h:p:=by
  go_simp
  refine(Ih2.o _ (Hsc0.o.below hB)).mono ?_
  rintro e w3 ⟨rfl,hb3⟩
  exact hK _ _ _ rfl Ab (hB.trans (hb3.mono hB.size)) aH):p:=h
theorem fS{p:Prop}(h:p:=by
  go_simp
  rw[E1.o]
  exact hK _ _ _ rfl Ab HR.o aR):p:=h
theorem fT{p:Prop}(h:p:=by
  have h10:L 10=false:=Bu Hdep.o 10 9 rfl hL
  go_simp
  exact hK (.pointer (some ⟨W.heap.size,0,none⟩)) _ _ Ab Ab (HR.o.alloc h10 _) aH):p:=h
theorem fU{p:Prop}(h:p:=by
  have e:=M8 S 0 u a.tmps.toList i s v hn hsi
  rw[am]at e
  unfold Bj Act.put
  rw[hd]
  simp only[<-e]
  congr 1
  simp):p:=h
theorem fV{p:Prop}(h:p:=by
  go_simp
  refine(HX.o W hBw).mono ?_
  rintro e w3 ⟨rfl,hb3⟩
  exact hK _ _ _ rfl Ab (hB.trans (hb3.mono hB.size)) aH):p:=h
theorem fW{p:Prop}(h:p:=by
  go_simp
  refine(Hd.o _).mono ?_
  rintro e w3 ⟨rfl,hb3⟩
  exact hK _ _ _ rfl Ab (hB.trans (hb3.mono hB.size)) aH):p:=h
theorem fX{p:Prop}(h:p:=by have:=hc 1 _ rfl;simpa [Nat.add_assoc]using this):p:=h
theorem fY{p:Prop}(h:p:=by
  split at this
  ·rename_i n hd
   have:=Bt.1 hd
   rw[this.2]
   have:=Dh 5 n cw
   omega
  cases this):p:=h
theorem fZ{p:Prop}(h:p:=by
  go_simp
  refine(Hn.o _).mono ?_
  rintro e wz ⟨rfl,rfl⟩
  go_simp
  exact hK _ _ _ rfl Ab HR.o aR):p:=h
theorem gc{p:Prop}(h:p:=by exact⟨r2.os,r2.tape,r2.output,ad aK r2.size,fun k hk hne=>(r2.block k aN hne).trans (heap_alloc_old W _ hk)⟩):p:=h
theorem gd{p:Prop}(h:p:=by exact An results166 _ _ w.heap.size [(n:Int),b,k.signs,k.base,k.name,vl] _ _ rfl rfl HZ.o underlying105 rfl aM):p:=h
theorem ge{p:Prop}(h:p:=by
  go_simp
  exact hK _ _ _ rfl Ab hR aH):p:=h
theorem gf{p:Prop}(h:p:=by have:=hc 2 _ rfl;simpa [Nat.add_assoc]using this):p:=h
theorem gg{p:Prop}(h:p:=by
  go_simp
  exact hK (d:Int) _ _ rfl Ab HR.o dS):p:=h
theorem gh{p:Prop}(h:p:=by
  go_enter func190,ntmps190
  go_wp2_with fail
  go_ret
  exact⟨rfl,rfl⟩):p:=h
theorem gi{p:Prop}(h:p:=by
  have l10:L 10=true:=aI
  go_simp
  exact hK (U 10) _ _ Ab Ab (HR.o.as1 l10) aH):p:=h
theorem gj{p:Prop}(h:p:=by
  have l11:L 11=true:=aI
  go_simp
  exact hK (U 11) _ _ Ab Ab (HR.o.as2 l11) aH):p:=h
theorem gk{p:Prop}(h:p:=by
  have:=hac' i o ho e he hb
  have:=(Array.getElem?_eq_some_iff.1 ho).1
  omega):p:=h
theorem gn{p:Prop}(h:p:=by
  rename_i n hd
  have:=Bt.1 hd
  rw[this.2]
  have:=Dh 5 n cw
  omega):p:=h
theorem gp{p:Prop}(h:p:=by
  go_simp
  rw[Htk.o]
  first|exact hK _ _ _ rfl Ab HR.o rfl|exact kF hK HR.o):p:=h
theorem gq{p:Prop}(h:p:=by
  have l4:L 4=true:=aI
  go_simp
  exact hK (U 4) _ _ Ab Ab (HR.o.move l4) aH):p:=h
theorem gt{p:Prop}(h:p:=by have:=hc 0 _ rfl;simpa using this):p:=h
theorem gu{p:Prop}(h:p:=by
  have l7:L 7=true:=aI
  go_simp
  exact hK (U 7) _ _ Ab Ab (HR.o.as1 l7) aH):p:=h
theorem gw{p:Prop}(h:p:=by
  have l8:L 8=true:=aI
  go_simp
  exact hK (U 8) _ _ Ab Ab (HR.o.as2 l8) aH):p:=h
theorem gx{p:Prop}(h:p:=by
  have l9:L 9=true:=aI
  go_simp
  exact hK (U 9) _ _ Ab Ab (HR.o.as0 l9) aH):p:=h
theorem gy{p:Prop}(h:p:=by
  have l7:L 7=true:=aI
  go_simp
  exact hK _ _ _ Ab Ab (HR.o.move l7) aH):p:=h
theorem gz{p:Prop}(h:p:=by
  have:(W.alloc (.cells us.toArray e)).heap.size=W.heap.size+1:=aK
  omega):p:=h
theorem gA{p:Prop}(h:p:=by
  rw[if_pos h]
  simp at h
  have:¬t.length<12:=aG
  simp[this]):p:=h
theorem gB{p:Prop}(h:p:=by
  go_simp
  exact hK _ _ _ rfl Ab hR rfl):p:=h
theorem gC{p:Prop}(h:p:=by exact(Dl (D1 tg)).2.2.1):p:=h
theorem gD{p:Prop}(h:p:=by
  go_simp
  first|exact hK _ _ _ rfl Ab HR.o rfl|exact kF hK HR.o):p:=h
theorem gE{p:Prop}(h:p:=by
  unfold Bj
  rw[Ky S 0 _ _ fun k s hk=>by simp[List.getD,hk]]):p:=h
theorem gF{p:Prop}(h:p:=by
  go_simp
  rw[E2.o]
  exact hK _ _ _ rfl Ab HR.o aR):p:=h
theorem gG{p:Prop}(h:p:=by
  rw[o2]at HQ
  subst o1
  exact Bf.no HQ rfl Hb7):p:=h
theorem gH{p:Prop}(h:p:=by obtain⟨A,c,e,hl,hr⟩:=h;exact⟨A,c,e,hl,hr.below hb⟩):p:=h
theorem gI{p:Prop}(h:p:=by go_ret;exact⟨rfl,rfl⟩):p:=h
theorem gJ{p:Prop}(h:p:=by go_ret;exact⟨Do (Cf Hf.o.symm),rfl⟩):p:=h
theorem gK{p:Prop}(h:p:=by rw[show c::(u++[d])=(c::u)++[d]from rfl,List.getLast?_append];rfl):p:=h
theorem gL{p:Prop}(h:p:=by exact⟨rfl,rfl⟩):p:=h
theorem gM{p:Prop}(h:p:=by go_ret;exact⟨Do (Cf dX),hb⟩):p:=h
theorem gN{p:Prop}(h:p:=by go_ret;exact⟨Do (Cf Hn.o.symm),At _ _⟩):p:=h
theorem gO{p:Prop}(h:p:=by have h1:=Rg (s.take k).length (s.take k) rfl h;have h2:10 ^ (s.take k).length<=10 ^ 6:=Nat.pow_le_pow_right aG aN;have e6:10 ^ 6=1000000:=rfl;omega):p:=h
theorem gP{p:Prop}(h:p:=by exact⟨by rw[Hn.o];rfl,rfl⟩):p:=h
theorem gQ{p:Prop}(h:p:=by exact hdone l u w hl (fun i hi=>hφ i (hl i hi) hi) hR):p:=h
theorem gR{p:Prop}(h:p:=by go_ret;exact⟨by rw[Hfin.o];rfl,(At _ _).alloc (Ao _) _⟩):p:=h
theorem gS{p:Prop}(h:p:=by exact⟨rfl,At _ _⟩):p:=h
theorem gT{p:Prop}(h:p:=by go_ret;exact⟨by rw[HF.o];simp,by rw[HB0.o];exact Hb4.o⟩):p:=h
theorem gU{p:Prop}(h:p:=by go_ret;exact⟨by rw[HF.o];rfl,by rw[HB0.o];exact Hb4.o⟩):p:=h
theorem gV{p:Prop}(h:p:=by rw[hq]at hr;injection hr with e1 _;subst e1;exact .inr ⟨_,rfl,Ao _⟩):p:=h
theorem gW{p:Prop}(h:p:=by have:∀a b,Du a<=Du (a++b):=fun a b=>ep;exact this _ _):p:=h
theorem gX{p:Prop}(h:p:=by exact⟨by rw[Hfin.o];rfl,(At _ _).alloc (Ao _) _⟩):p:=h
theorem gY{p:Prop}(h:p:=by exact⟨by rw[Hr.o];rfl,((Hb.o.setCell (Ao _) _).setCell (Ao _) _).setCell (Ao _) _⟩):p:=h
theorem gZ{p:Prop}(h:p:=by go_ret;exact⟨by rw[Hend.o];first|rfl|trivial,hb.o⟩):p:=h
theorem hC{p:Prop}(h:p:=by rw[Kb _ _ k hs (Kp hk hs hb).2];exact Mo xv xs k w hsc hk hs hb):p:=h
theorem hD{p:Prop}(h:p:=by have hkf:C9 f.kind:=((hto.2.2.1.1 f cr).2.2.2.2 da).1;exact ih aG f.kind W hW hkf hrf (Qj he hs hb hft h85 hfs hrf)):p:=h
theorem hE{p:Prop}(h:p:=by exact⟨0,by omega,by rw[Hn.o];rfl,(fun m h=>by rw[Hno.o]at h;cases h),At _ _⟩):p:=h
theorem hJ{p:Prop}(h:p:=by go_ret;exact⟨Do (Cf (by rw[<-Hv.o,Ho.o];rfl)),Hb.o⟩):p:=h
theorem hM{p:Prop}(h:p:=by go_ret;exact⟨Do (Cf (by rw[Hv.o,Ho.o,Hq.o];rfl)),At _ _⟩):p:=h
theorem hO{p:Prop}(h:p:=by exact Ci.no Hno.o rfl ((((Hb.o.setCell (Ao _) _).setCell (Ao _) _).setCell (Ao _) _).setCell (Ao _) _)):p:=h
theorem hY{p:Prop}(h:p:=by exact Ci.no HF.o rfl aQ):p:=h
theorem hZ{p:Prop}(h:p:=by exact Cz.no HF.o rfl aO):p:=h
theorem i6{p:Prop}(h:p:=by have h2:=Hsl.o;omega):p:=h
theorem i7{p:Prop}(h:p:=by have h1:k≠(c::nm).length:=fun e=>hne (hiff.2 e);have h2:=Hsl.o;omega):p:=h
theorem i8{p:Prop}(h:p:=by exact(((hR.1.setCell hl8 _).setCell hl8 _).setCell hl8 _).setCell hl8 _):p:=h
theorem i9{p:Prop}(h:p:=by exact Dc.no (Hno.o (fun n h=>by have:=((Hhead.o n).1 h).1;cases this)) rfl aV):p:=h
theorem ia{p:Prop}(h:p:=by exact Dc.no (Hno.o (fun m h=>by have:=((Hhead.o m).1 h).2.2.2;cases this)) rfl br):p:=h
theorem ib{p:Prop}(h:p:=by go_ret;exact⟨Do (Cf Hend.o.symm),hbr.o.alloc hzw _⟩):p:=h
theorem ic{p:Prop}(h:p:=by exact Fs.no Hend.o rfl (below_drewN (hbr.o.trans (Hbo.o.mono aG)) _)):p:=h
theorem ie{p:Prop}(h:p:=by go_simp;first|exact hK _ _ _ rfl Ab ⟨q,fun _=>rfl,Hq2.o⟩ rfl|exact hK _ _ _ rfl Ab ⟨q,fun _=>rfl,Hq2.o⟩ aH):p:=h
theorem ig{p:Prop}(h:p:=by exact hK undef _ _ Ab Ab ⟨Ah _ (Ao _) _ _ _ r1,by rw[Cr];exact r2,ai r3 _ _ _,ak r4 _ _ _ (.inl (show w2.heap.size≠w.heap.size by omega)),r5.far (Ds _ _ _ W) aG,fun _=>aa _ _ _ _ r3⟩ rfl):p:=h
theorem ii{p:Prop}(h:p:=by go_ret;exact⟨rfl,((At _ _).alloc (Ao _) _).trans (hb1.mono aK)⟩):p:=h
theorem ij{p:Prop}(h:p:=by rw[e];intro e;injection e with e;omega):p:=h
theorem ik{p:Prop}(h:p:=by exact aE (v:=.agg (Gf (.mk 91 [] 0 (Ay ys)) (.slice A ys.length c)).toArray) (Ax results142 _ _ (w.heap.size+1) _ _ rfl Z.2 underlying47 rfl aM) rfl Z.1):p:=h
theorem il{p:Prop}(h:p:=by go_simp;first|exact hK _ _ _ rfl Ab HR.o rfl|exact kF hK HR.o):p:=h
theorem im{p:Prop}(h:p:=by exact aE (v:=.agg (Gf (.mk 91 [] 0 (Ay ys)) (.slice A5 ys.length c5)).toArray) (Ax results142 _ _ (w.heap.size+1) _ _ rfl Z.2 underlying47 rfl aM) rfl Z.1):p:=h
theorem io{p:Prop}(h:p:=by go_simp;exact hK undef _ _ Ab Ab (by simpa using hst) aH):p:=h
theorem ip{p:Prop}(h:p:=by exact hK _ _ _ rfl Ab (hB.trans (hb5.mono hB.size)) aH):p:=h
theorem iq{p:Prop}(h:p:=by first|exact hK _ _ _ rfl Ab HR.o rfl|exact kF hK HR.o):p:=h
theorem ir{p:Prop}(h:p:=by exact Ge.leaf (P:=fun c=>w.heap.size<=c) aG):p:=h
theorem iu{p:Prop}(h:p:=by rw[Xf,hkd,<-o3];exact Ge.leaf (P:=fun c=>w.heap.size<=c) aG):p:=h
theorem iv{p:Prop}(h:p:=by rw[Xe,hkd];exact Ge.leaf (P:=fun c=>w.heap.size<=c) aG):p:=h
theorem iw{p:Prop}(h:p:=by have hB:=h.hB;exact⟨by simpa using h.lt,by simpa using h.bs,h.hB,h.bk.set _,by simp[go_sem,h.c0],by simp[go_sem,h.c1],by simp[go_sem,h.c2],by simp[go_sem,h.c3],h.tags.kept hg (Rc (fun k hk=>(h.tags.lt k hk).1) h.hB),h.row.kept hg (Rc (fun k hk=>(h.row.lt k hk).1) h.hB),fun x hx=>(h.kids x hx).grown hg fun c hc e=>by injection e with e;omega⟩):p:=h
theorem iy{p:Prop}(h:p:=by subst hW;go_simp;first|exact hK _ _ _ rfl Ab HR.o rfl|exact kF hK HR.o):p:=h
theorem iz{p:Prop}(h:p:=by exact Bf.no HN.o rfl ((At _ _).alloc (Ao _) _)):p:=h
theorem iA{p:Prop}(h:p:=by exact Gc.of (b:=true) (HF.o.trans Hr.o) rfl rfl (Hs2.o.below ((At _ _).alloc (Ao _) _)) aW):p:=h
theorem iB{p:Prop}(h:p:=by exact⟨_,rfl,.inl ⟨rfl,HN.o⟩⟩):p:=h
theorem iC{p:Prop}(h:p:=by exact⟨Aa ((At _ _).drew.trans (hR.mono aK)),.inl ⟨rfl,HN.o⟩⟩):p:=h
theorem iD{p:Prop}(h:p:=by have h:=Gb (.slice A xs.length c) xs k W' (hsc.below hW') hk;rw[hrf,hx]at h;exact h):p:=h
end Go.Proofs.YtpjijpcemejlnaaGreatDoor
